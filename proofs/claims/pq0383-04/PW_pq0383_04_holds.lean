import PyProof.Rows.All
import Wide.All
import OpenK.AllK
import Wide.FinOn
import KE.KDictSum
import KE.KSortedM
import KE.KDictOf
import PyProof.LongRange
import KE.KSortTup
import Lean
import PySem.Challenge.RW_pq0383_04
set_option Elab.async false
set_option maxRecDepth 100000
set_option autoImplicit false
set_option linter.all false
set_option genSizeOf false
set_option genInjectivity false
set_option compiler.extract_closed false
section
open PySem renaming wpAny_bind->aa,PyData->ab,Value->af,Addr->ah,wpAny_pure->am,Shared->ao,wpAny_mono->ay,Expr->aL,Around->aM,Str->aN,wpAny_holding->aQ,Heap->aR,NameKind->aW,call_isinstance->bf,Comprehension->bh,wpAny_standAt->bx,ReadsAll->bI,Program->bN,wpAny_call_entry->bQ,Scope->b8,World->cr,mainGlobals->cv,wpAny_callSpecial?_slot->cz,sizeLine_eq->cA,wpAny_newObj_type->cD,wpAny_seqItems->cE,Builtin->cH,sizeLine->cJ,swappedStores->cO,holding->cR,wpAny_field->cU,wpAny_pyIter_tuple->cZ,isinstance_false_list->de,wpAny_pyIter_list->dm,Pos->dD,SetTable->dF,wpAny_askSetting->dI,FuncData->dK,wpAny_setField_rec->dO,DictEntry->dS,swapsWithSole->dT,Reads->dW,codeAny->dZ,wpAny_truthy_bool->ec,eqIsQuiet_byValue->ed,sysModules->eg,wpAny_loadName_local->er,assignInOrder->eP,wpAny_release->eQ,methodCallPos->eR,codeAny_builtin->eU,Obj->eV,pyNext->eZ,wpAny_Constant_str->fc,codeAny_mono->fm,Stmt->fw,bindName->fy,isinstance_false_none->fD,wpAny_rule->fF,builtinsNs->fH,standAt->fN,isinstance_false_str->fP,letOwnedTupleGo->fS,bootBuiltins->fX,wpAny_setField->gb,assign->ge,IsRange->gn,hashInt->gu,wpAny_setState_of->gv,wpAny_of_eq->gx,wpAny_collect_seq->gz,pyIter->gD,wpAny_assignInOrder_none->gG,wpAny_isInstance->gL,wpAny_Name->g7,isinstance_false_tuple->hG,wpAny_ite_split->hZ,wpAny_specialOf->ia,importedModules->ik,Tok->iv,firstArgMember->iz,Params->iA,isinstance_false_int->iE,IsPair->iI,wpAny_updateSeq_pair->iJ,IsRangeIter->iK,eqIsQuiet->iN,cellsFrom->iP,wpAny_setEntries_of->iS,plainId_quiet->iV,wpAny_attempt->iW,strKind->iX,wpAny_onRaise->iZ,behindInMarks->i5,CmpOp->ke,slot_list_getitem->kx,slot_dict_getitem->ky,callType_new->kA,Env->kH,Sem->kI,ClassData->kK,codeAny_of_tree->kY,arm_assign_Name->lc,setItem->ll,Keyword->ln,Operator->lq,Result->ls,isSubtype_type->lu,call_meets->lv,dictSetDefault->lz,IsZip->lA,callWith->lC,constantsAlone->lD,wpAny_newList->lN,foldedForSure->lR,wpAny_list_append_plain->lW,seqItems?->lX,wpAny_pyNext_tuple_item->lY,field->l5,swapsWith->l9,markedBehindIn_of_false->mc,wpAny_typeOf->mz,truthy->mA,call_meetsIn->mC,wpAny_pyNext_tuple_end->mD,builtinLookup_eq_fast->mH,isinstance_false_bool->mK,wpAny_notOrdered_dict->mL,entryFor->mR,contains->mT,binaryOp->mV,bindArgs->m5,wpAny_letGo->m6,compTurn->m8,arm_assign_Subscript->ng,interactive->nh,wpAny_loadName_free->ny,wpAny_Constant_none->nz,wpAny_setItem_pairs->nD,arm_eval_Call_Name'->nE,wpAny_call->nK,setsByText->nM,reduceHash->nN,getattributeRaised->nS,wpAny_assign_Tuple->nW,ks_wpAt_execs_cons->n6,wpAny_pyIter_slot->oh,collect->oi,argBest->om,typeIs_bool->oq,slot_list_setitem->ot,sub_zip->ow,getMethod_builtin->oC,wpAny_Return_some->oE,wpAny_pyHash_int->oR,beq_builtin_none->oU,Fin->oV,wpAny_getItem_of->oW,seqIndex?->oX,getMethod->o0,Data->o9,treeTable->pd,typeLookup_type->pf,wpAny_ret_mkInt->ph,wpAny_execs_nil->po,argsOk->pz,entryFor_alias->pA,wpAny_fieldsOf->pB,newExc->pC,newTuple->pD,isSubtype_stop->pE,recursionLimit->pF,wpAny_newTuple->pK,stored->pM,wpAny_loadPart->pN,compEnvC->pP,markedBehindIn->pQ,wpAny_operateT->pR,Thread->pU,signature?_of->pY,wpAny_handled->p7,call_list_seq->rd,comprehension->ri,attributeBase->rj,arm_eval_Call->rk,wpAt_of_wpAny->rl
open Nat renaming le_trans->ae,ne_of_lt->aF,le_add_right->aH,lt_succ_self->aZ,le_of_ble_eq_true->a9,beq->bc,le_of_not_lt->bk,le_antisymm->bl,le_refl->bn,ne_of_gt->bv,zero_le->bO,lt_of_le_of_lt->cg,lt_of_lt_of_le->cw,le_succ->dj,le_of_eq->dk,lt_succ_of_lt->dr,blt->dC,add_le_add_left->dE,min_le_right->dG,succ_le_succ->dH,le_of_lt->ey,le_add_left->eT,lt_or_eq_of_le->eY,add_sub_cancel_left->fh,le_of_lt_succ->fi,lt_trichotomy->fj,add_comm->fk,eq_of_beq_eq_true->fC,lt_irrefl->fM,sub_lt_sub_left->fU,zero_add->fV,not_lt->f7,sub_lt_left_of_lt_add->gj,ble->gm,add_assoc->gC,succ_ne_zero->gK,lt_trans->gW,le_of_succ_le_succ->gY,min_le_left->hU,casesOn->iB,pow_le_pow_right->iG,max_le->i8,sub_self->ki,le_succ_of_le->ko,beq_refl->ku,lt_succ_of_le->kC,zero_lt_succ->kG,not_lt_zero->kX,rec->lh,ble_eq_true_of_le->mJ,log2_lt->mU,add_left_cancel->nG,mod_lt->nJ,lt_of_lt_of_eq->nU,sub_add_cancel->nX,not_le_of_lt->oP,not_lt_of_le->oS,add_le_add->pG,lt_or_ge->rp
open PySem.Str renaming ofString->ag,empty_append->oY
open Int renaming le_trans->ai,natCast_nonneg->az,le_antisymm->aO,le_refl->aV,toNat_natCast->bq,toNat_of_nonneg->bH,add_zero->bJ,eq_ofNat_of_zero_le->bS,le_of_lt->ck,not_lt->cy,ne_of_gt->cN,lt_of_lt_of_le->c5,zero_add->df,mul_zero->dg,one_mul->dh,ofNat_lt->du,mul_one->dM,ofNat_le->ew,le_of_eq->eH,add_assoc->eN,max_eq_right->fK,min_eq_left->fT,add_comm->fY,lt_of_le_of_lt->gf,sub_add_cancel->gg,min_eq_right->gU,sub_sub_self->gV,le_total->hM,max_eq_left->ij,sub_nonpos_of_le->iu,sub_nonneg_of_le->iL,ne_of_lt->kt,neg_mul->kM,mul_le_mul_of_nonneg_left->kT,mul_le_mul_of_nonpos_left->kU,zero_mul->mh,lt_trans->ml,mul_add->mO,le_of_sub_nonpos->mP,negSucc->mY,negSucc_lt_zero->nx,add_le_add_left->nF,sub_le_sub_left->nH,sub_eq_add_neg->nI,not_le->nQ,add_sub_cancel->n7,add_left_comm->n8,natCast_zero->pc,natCast_one->pp,add_nonpos->pq,add_le_add->pT,sub_self->rn,lt_toNat->rz,mul_neg->rI,toNat->rP
open List renaming length_map->aj,length_append->ak,append_assoc->au,getElem?_eq_some_iff->av,getElem?_eq_getElem->aw,getD_eq_getElem?_getD->aA,getElem?_append_left->aB,length_singleton->aC,length_cons->aE,mem_singleton->aG,mem_cons->aJ,size_toArray->aK,append_nil->aP,mem_iff_getElem?->aS,map_append->aT,mem_map->aU,getElem?_concat_length->aX,map_cons->aY,getElem?_map->a6,mem_append_right->bg,casesOn->bA,mem_append->bB,replicate->bD,map_map->bF,mem_append_left->bK,nil_append->bP,all_eq_true->bR,mem_cons_of_mem->bU,map_nil->bW,find?_cons->bX,map_congr_left->bZ,pairwise_cons->b9,getElem?_append_right->cj,filter_cons->cq,mem_filterMap->cx,lookup_cons->cC,drop->cF,nodup_cons->cG,forall_mem_cons->cQ,mem_filter->cS,cons_ne_nil->cW,isEmpty_iff->cX,mem_cons_self->cY,getElem?_eq_none->dc,pairwise_append->di,getElem?_set_ne->dq,find?->dz,getElem?_take_of_lt->dA,pairwise_singleton->dL,map_singleton->dP,rec->dQ,getElem?_toArray->dU,nodup_append->ee,not_mem_nil->eA,cons_append->eE,drop_eq_getElem_cons->eK,any_cons->eO,length_set->eW,forIn_cons->eX,getElem?_set_self->fu,filter_eq_nil_iff->fA,length_filter_le->fE,getElem_mem->fG,mem_reverse->fJ,map->fO,nodup_nil->f9,take_sublist->gp,length_range->gr,getElem?_inj->gB,length_take->gI,any_eq_true->gR,range->gX,filter_nil->ii,take_append_drop->il,set_append_right->io,eq_nil_or_concat->iq,concat_eq_append->ir,mem_range->iw,getElem_of_mem->iR,length_take_le->iU,set_comm->i6,pairwise_map->kD,flatMap_cons->kE,getElem?_replicate_of_lt->kR,getLast?_eq_some_getLast->kS,of_mem_zip->k9,length_nil->lg,forIn_nil->lB,any->lE,pairwise_iff_getElem->lG,mem_of_find?_eq_some->lH,getElem?_zip_eq_some->lI,getLastD_eq_getLast?->lJ,all_cons->lT,length_eq_zero_iff->lV,take_of_length_le->mB,contains_iff_mem->mN,drop_eq_nil_iff->m3,lookup->m9,getLast?_concat->nj,dropLast_concat->nq,mem_of_getElem?->nu,append_toArray->nA,find?_eq_none->nR,zip_cons_cons->nT,findIdx?_cons->nV,ext_getElem?->oj,getElem?_nil->oI,find?_append->oJ,getLast?_nil->oK,any_eq_false->oM,filter_congr->oN,perm_middle->oQ,take_length->oT,any_toArray->o3,map_fst_zip->o4,zipIdx_cons->o7,drop_length->o8,find?_some->pi,zipIdx_nil->pn,map_take->pX,any_map->rB,map_id->rE,length->rG,take->rQ
open PySem.Heap renaming get?_push_of_some->aq,get?_push_size->aI,lt_size->a7,SameBut->cn,get?_update_self->cI,get?_none_of_le->dp,size_push->dJ,ExtBut->gy,get?_push_ne->gA,size_update->gO,IsTuple->kz,IsList->kQ,get?->rR,push->rS
open Exists renaming elim->aD
open Bool renaming false_ne_true->a5,noConfusion->bd,and_eq_true->bt,false_eq_true->ch,and_true->dB,and_false->f8,casesOn->gZ,or_eq_true->kW,not_true->lM,or_eq_false_iff->m7,false_and->pH,false_or->re,and_self->rf,true_or->rt
open PySem.SetTable renaming below->a8,bits->bM,insertAt->bT,has->cT,runEnd->hY,toList_insertAt->lK,insertAt_perm->mw,turns->pr,fill->pW
open PySem.PyData renaming int->be,depthAll->bp,eqv->br,strOk->bu,casesOn->bC,tuple->bE,eqvAll->bY,keyHash->cP,canLayAll0->dX,depth->kn,list->mQ,bool->rC
open PySem.Builtin.SmallTypes renaming nextOf->bz,ownedTupleIsFree->cV,ownedTupleHandOut->iT
open Array renaming length_toList->bG,getElem?_eq_getElem->bV,getElem?_eq_none->fq,getD->f6,toList_push->gw,getElem?_toList->mI,mk->nv,forIn_toList->nP
open Option renaming map_eq_some_iff->bL,bind_some->cB,getD_some->cK,casesOn->eh,isNone_iff_eq_none->gk,isSome_iff_exists->gF,map_eq_none_iff->hH,map_some->ib,getD_none->kL,any_eq_true->nZ
open PySem.Heap.SameBut renaming update->cu,refl->rV
open PyProof.Rows renaming IntsAre->cM,meta_tuple->gc,meta_list->gP,meta_bool->gQ,tail_any->gS,slot_list_sort->iC,meta_int->iD,subscriptTail->iY,IsTup->kc,entry_list_sort->k8,args_list_sort->lw,sortedHeap_old->lx,size_push'->ly,sortedHeap_at->lO,listUpdate_at->lP,seqEpoch_at->mW,modules_low->m4,Assign_Tuple_swapped->ni,call_isinstance_yes->nC,Subscript_->nY,unpackItems_tuple->oF,sub_list_tuple->pL,sub_list_list->p9,sub_list_bool->rc,sub_int->r6,mul_int->r7,mod_int->r8,len_tuple->se,len_list->sg
open PySem.W.Fast renaming te8437177126325714943->db,tw8437177126325714943->fe,tw11892475500146522536->i7,tw6613529449190102663->kb,te6613529449190102663->sD,te11892475500146522536->sE,tw14364793385576792824->sF,tw4187177175401517315->sG,te14364793385576792824->sH,te4187177175401517315->sI
open PySem.Code renaming builtin->dv
open PySem.Value renaming none->dw,ref->eI,isInt->kN,isStr->kP,isInt_shape->n9,str->oZ,builtin->p8,type->rK,bool->rM,int->rN
open PySem.Obj renaming data_mapFields->dN,mapSeq->et,isFreed_of_fields->im,cls_mapFields->kj,data_mapDictKeys->mX,mapFields->pZ,putName->rF,putSet->rJ
open ForInStep renaming yield->dR
open PySem.SetTable.below renaming go->dY
open PySem.Around renaming under_plainId->ef,frames_deeper->iH
open PySem.F renaming slot_tuple_iterator_next->eu,called_set->ez,slot_bool_hash->fv,args_object_init_3->fQ,slot_dict_setdefault->fR,slot_tuple_getattribute->gh,args_tuple_add_2->gE,entry_tuple_add->gM,typeCall_zip_2->gT,slot_tuple_add->g8,newCall_zip_2->ic,entry_zip_new->ie,slot_zip_next->ig,called_zip->kB,args_dict_setdefault_3->kJ,entry_dict_setdefault->kO,args_tuple_iterator_next_1->lf,entry_tuple_iterator_next->lm,plainAttrs_dict->l7,slot_dict_get->mM,args_zip_next_1->oz,entry_zip_next->o6,plain_set_new->pe,slot_set_iter->pg
open PySem.Expr renaming casesOn->eJ
open PySem.Builtin.Tuple renaming tupleHashOf->eM,tupleItemsOf->r9
open PySem.Txt renaming slice->ff
open PySem.Shared renaming heap->fg
open PySem.Arg renaming arg->fW
open PySem.W renaming Frag->fZ,ks_superIn->i9,kas_sort->kg,handedIn->lp,boot_drawn->lF,plainOver->l3,hasDictIn->l4,emptyDict->md,boot_heap->me,boot_toks->mf,makesIn->mG,listOf->mZ,kat_yes->on,clsIn->oG,nsIn->pa,kat_cons->pJ,codeIn->pO,openGood->pV
open PySem.NameKind renaming free->gH,cell->lQ
open PyProof.Rows.F renaming plain_set_update_loop->gJ,entry_set_update_loop->lU
open PySem.Env renaming kindOf->hJ
open Option.some renaming inj->hO,injEq->sC
open Prod.mk renaming inj->iM,injEq->rh
open Ne renaming symm->iO
open PySem.Builtin.Int renaming intBits->iQ,intTooBig->r5
open PySem.SetTable.probe renaming go->kh
open PySem.Builtin renaming divisionGoesByPylong->kZ
open PySem.Builtin.List renaming listLengthHint->lk,listSubscript?->sk,listItems->sn
open False renaming elim->lr
open List.cons renaming inj->lL,injEq->pk
open Int.ofNat renaming inj->lS
open PySem.Builtin.Dict renaming updateFrom->lZ,pairItems->mE,keyAndDefault->sj,addKeywords->su,selfAndRest->sw
open PySem.Builtin.Range renaming rangeSize->l6
open And renaming intro->l8
open PySem.Calls renaming Name_function_global->mS,call_function_entry->nB,loadGlobal_builtin->nO
open Prod renaming fst->nc,ext->pv
open PySem.Heap.IsTuple renaming push->oy,extBut->sy
open PySem.Keeper renaming boundFrame->oH,machine->pS,frame->ry
open PySem.Step renaming go->oO
open PySem.Heap.IsList renaming push->o5,extBut->sz
open PySem.Heap.DictOf renaming new->pj
open PySem.SeqAt renaming eqBoolOverData->pI
open PySem.pickOrder renaming go->ro
open Decidable renaming em->rq
open Nat.succ renaming inj->ru
open PySem.Stmt renaming casesOn->rx
open PySem.Walks renaming tuple->rD,list->rL
open PySem.W.Looks renaming now->rO
open PySem.SetTable.Probe renaming mk->rT
open List.Nodup renaming length_le_of_subset->rU
open PySem.Builtin.Frozenset renaming newClass->rW,updateFrom->rX,sizeOf->rZ
open PyProof.Rows.IntsAre renaming int_at->rY
open PySem.Reads renaming unique->sd
open PySem.Heap.IsSliceOf renaming new->sq
open PySem.Heap.IsTupleIter renaming extBut->sA
open PySem.Heap.IsListIter renaming extBut->sB
namespace Mine.Internal
variable {x:Int}
theorem tT9:true=true:=rfl
theorem nB9 {a b:Nat}(h:gm a b=true):a<=b:=a9 h
theorem oD9 {p:Prop}[d:Decidable p](h:decide p=true):p:=of_decide_eq_true h
set_option tactic.hygienic false
@[elab_as_elim] theorem rwE {α:Sort _}{a b:α}{motive:α->Prop}(h:a=b)(x:motive b):motive a:=h▸x
@[elab_as_elim] theorem rwS {α:Sort _}{a b:α}{motive:α->Prop}(h:b=a)(x:motive b):motive a:=h▸x
inductive Nt where
 | v (i:Nat)
 | k (n:Nat)
 | a (x y:Nt)
 | m (n:Nat) (x:Nt)
inductive Zt where
 | v (i:Nat)
 | k (n:Int)
 | a (x y:Zt)
 | s (x y:Zt)
 | g (x:Zt)
 | m (n:Int) (x:Zt)
 | c (x:Nt)
inductive Ft where
 | l (x y:Nt)
 | e (x y:Nt)
 | L (x y:Zt)
 | E (x y:Zt)
noncomputable def nth {α:Type}(d:α):List α->Nat->α:=λ l=>dQ (λ _=>d) (λ a _ r i=>lh a (λ j _=>r j) i) l
noncomputable def Nt.ev (c:List Nat)(t:Nt):Nat:=Nt.rec (λ i=>nth 0 c i) (λ n=>n) (λ _ _ x y=>x + y) (λ n _ x=>n * x) t
noncomputable def Zt.ev (c:List Nat)(d:List Int)(t:Zt):Int:=Zt.rec (λ i=>nth 0 d i) (λ n=>n) (λ _ _ x y=>x + y) (λ _ _ x y=>x - y) (λ _ x=>-x) (λ n _ x=>n * x) (λ x=>((x.ev c:Nat):Int)) t
def Ft.ev (c:List Nat)(d:List Int)(f:Ft):Prop:=Ft.rec (λ x y=>x.ev c<=y.ev c) (λ x y=>x.ev c=y.ev c) (λ x y=>x.ev c d<=y.ev c d) (λ x y=>x.ev c d=y.ev c d) f
structure Pl where
 k:Int
 n:List Int
 i:List Int
variable {p:Pl}
noncomputable def z9 (p:List Int):List Int->Int:=dQ (λ _=>0) (λ a _ r c=>dQ 0 (λ x c _=>a * x + r c) c) p
noncomputable def JV (p:List Int):List Int->List Int:=dQ (λ q=>q) (λ a p r q=>dQ (a::p) (λ b q _=>(a + b)::r q) q) p
noncomputable def unI (i:Nat):List Int:=lh [1] (λ _ r=>0::r) i
theorem zGT (p:List Int):z9 p []=0:=by cases p <;> rfl
theorem xV (p:List Int):∀ q c,z9 (JV p q) c=z9 p c + z9 q c:=by
 induction p with
 | nil=>intro q c;exact (df _).symm
 | cons a p ih =>
  intro q c
  cases q with
  | nil=>exact (bJ _).symm
  | cons b q =>
   cases c with
   | nil=>rfl
   | cons x c =>
    show (a + b) * x + z9 (JV p q) c=(a * x + z9 p c) + (b * x + z9 q c)
    rw [ih,Int.add_mul,eN,eN,n8 (b * x)]
theorem XD (k:Int)(p:List Int):∀ c,z9 (p.map (k * ·)) c=k * z9 p c:=by
 induction p with
 | nil=>intro c;exact (dg _).symm
 | cons a p ih =>
  intro c
  cases c with
  | nil=>exact (dg _).symm
  | cons x c =>
   show (k * a) * x + z9 (p.map (k * ·)) c=k * (a * x + z9 p c)
   rw [ih,mO,Int.mul_assoc]
theorem wt (i:Nat):∀ c,z9 (unI i) c=nth 0 c i:=by
 induction i with
 | zero =>
  intro c
  cases c with
  | nil=>rfl
  | cons x c=>show 1 * x + 0=x;rw [dh,bJ]
 | succ i ih =>
  intro c
  cases c with
  | nil=>rfl
  | cons x c=>show 0 * x + z9 (unI i) c=nth 0 c i;rw [ih,mh,df]
noncomputable def Pl.ev (c:List Nat)(d:List Int)(p:Pl):Int:=p.k + (z9 p.n (c.map λ (x:Nat)=>(x:Int)) + z9 p.i d)
noncomputable def Pl.add (p q:Pl):Pl:=⟨p.k + q.k,JV p.n q.n,JV p.i q.i⟩
noncomputable def Pl.mul (k:Int)(p:Pl):Pl:=⟨k * p.k,p.n.map (k * ·),p.i.map (k * ·)⟩
theorem i4 (a b c d:Int):a + b + (c + d)=a + c + (b + d):=by rw [eN,eN,n8 b]
theorem Pl.add_ev (c:List Nat)(d:List Int)(p q:Pl):(p.add q).ev c d=p.ev c d + q.ev c d:=by
 show (p.k + q.k) + (z9 (JV p.n q.n) _ + z9 (JV p.i q.i) d)=(p.k + (_ + _)) + (q.k + (_ + _))
 rw [xV,xV];exact (congrArg _ (i4 ..)).trans (i4 ..)
theorem Pl.mul_ev (c:List Nat)(d:List Int)(k:Int)(p:Pl):(p.mul k).ev c d=k * p.ev c d:=by
 show (k * p.k) + (z9 (p.n.map (k * ·)) _ + z9 (p.i.map (k * ·)) d)=k * (p.k + (_ + _))
 rw [XD,XD,mO,mO]
noncomputable def Nt.pl (t:Nt):Pl:=Nt.rec (λ i=>⟨0,unI i,[]⟩) (λ n=>⟨n,[],[]⟩) (λ _ _ x y=>x.add y) (λ n _ x=>x.mul n) t
noncomputable def Zt.pl (t:Zt):Pl:=Zt.rec (λ i=>⟨0,[],unI i⟩) (λ n=>⟨n,[],[]⟩) (λ _ _ x y=>x.add y) (λ _ _ x y=>x.add (y.mul (-1))) (λ _ x=>x.mul (-1)) (λ n _ x=>x.mul n) (λ x=>x.pl) t
theorem zBf (c:List Nat):∀ i,nth 0 (c.map λ (x:Nat)=>(x:Int)) i=((nth 0 c i:Nat):Int):=by
 induction c with
 | nil=>intro i;rfl
 | cons x c ih=>intro i;cases i with
  | zero=>rfl
  | succ i=>exact ih i
theorem Nt.pl_ev (c:List Nat)(d:List Int)(t:Nt):t.pl.ev c d=((t.ev c:Nat):Int):=by
 induction t with
 | v i=>show (0:Int) + (z9 (unI i) _ + 0)=((nth 0 c i:Nat):Int);rw [wt,zBf,bJ,df]
 | k n=>exact bJ _
 | a x y hx hy=>show (x.pl.add y.pl).ev c d=((x.ev c + y.ev c:Nat):Int);rw [Pl.add_ev,hx,hy,Int.natCast_add]
 | m n x hx=>show (x.pl.mul n).ev c d=((n * x.ev c:Nat):Int);rw [Pl.mul_ev,hx,Int.natCast_mul]
theorem Zt.pl_ev (c:List Nat)(d:List Int)(t:Zt):t.pl.ev c d=t.ev c d:=by
 induction t with
 | v i=>show (0:Int) + (0 + z9 (unI i) d)=nth 0 d i;rw [wt,df,df]
 | k n=>exact bJ _
 | a x y hx hy=>show (x.pl.add y.pl).ev c d=x.ev c d + y.ev c d;rw [Pl.add_ev,hx,hy]
 | s x y hx hy=>show (x.pl.add (y.pl.mul (-1))).ev c d=x.ev c d - y.ev c d;rw [Pl.add_ev,Pl.mul_ev,hx,hy,kM,dh];exact nI.symm
 | g x hx=>show (x.pl.mul (-1)).ev c d=-x.ev c d;rw [Pl.mul_ev,hx,kM,dh]
 | m n x hx=>show (x.pl.mul n).ev c d=n * x.ev c d;rw [Pl.mul_ev,hx]
 | c x=>exact x.pl_ev c d
noncomputable def Pl.sub (p q:Pl):Pl:=p.add (q.mul (-1))
noncomputable def Ft.pl (f:Ft):Pl:=Ft.rec (λ x y=>x.pl.sub y.pl) (λ x y=>x.pl.sub y.pl) (λ x y=>x.pl.sub y.pl) (λ x y=>x.pl.sub y.pl) f
noncomputable def Ft.isE (f:Ft):Bool:=Ft.rec (λ _ _=>false) (λ _ _=>true) (λ _ _=>false) (λ _ _=>true) f
theorem Pl.sub_ev (c:List Nat)(d:List Int)(p q:Pl):(p.sub q).ev c d=p.ev c d - q.ev c d:=by
 show (p.add (q.mul (-1))).ev c d=_
 rw [Pl.add_ev,Pl.mul_ev,kM,dh];exact nI.symm
theorem Ft.le_iff (c:List Nat)(d:List Int)(f:Ft)(h:f.isE=false):f.ev c d ↔ f.pl.ev c d<=0:=by
 cases f with
 | l x y=>show x.ev c<=y.ev c ↔ (x.pl.sub y.pl).ev c d<=0;rw [Pl.sub_ev,Nt.pl_ev,Nt.pl_ev];exact ⟨λ h=>iu (ew.mpr h),λ h=>ew.mp (mP h)⟩
 | L x y=>show x.ev c d<=y.ev c d ↔ (x.pl.sub y.pl).ev c d<=0;rw [Pl.sub_ev,Zt.pl_ev,Zt.pl_ev];exact ⟨iu,mP⟩
 | e x y=>exact bd h
 | E x y=>exact bd h
theorem Ft.eq_of (c:List Nat)(d:List Int)(f:Ft)(h:f.isE=true)(x:f.ev c d):f.pl.ev c d=0:=by
 cases f with
 | e a b=>replace x:a.ev c=b.ev c:=x;show (a.pl.sub b.pl).ev c d=0;rw [Pl.sub_ev,Nt.pl_ev,Nt.pl_ev,x];exact rn _
 | E a b=>replace x:a.ev c d=b.ev c d:=x;show (a.pl.sub b.pl).ev c d=0;rw [Pl.sub_ev,Zt.pl_ev,Zt.pl_ev,x];exact rn _
 | l a b=>exact bd h
 | L a b=>exact bd h
noncomputable def le0 (x:Int):Bool:=Int.rec (λ n=>bc n 0) (λ _=>true) x
noncomputable def is0 (x:Int):Bool:=Int.rec (λ n=>bc n 0) (λ _=>false) x
theorem XV (h:le0 x=true):x<=0:=by
 cases x with
 | ofNat n=>cases fC h;exact aV 0
 | negSucc n=>exact ck (nx n)
theorem zFr (h:is0 x=true):x=0:=by
 cases x with
 | ofNat n=>cases fC h;rfl
 | negSucc n=>exact bd h
noncomputable def Pl.ok (p:Pl):Bool:=le0 p.k&&(p.n.all le0&&p.i.all is0)
theorem zDF (p:List Int):p.all le0=true->∀ (c:List Nat),z9 p (c.map λ (x:Nat)=>(x:Int))<=0:=by
 induction p with
 | nil=>intro _ c;exact aV 0
 | cons a p ih =>
  intro h c
  have h:(le0 a&&p.all le0)=true:=h
  rw [bt] at h
  cases c with
  | nil=>exact aV 0
  | cons x c =>
   have h1:=ih h.2 c
   have h2:a * (x:Int)<=0:=Int.mul_nonpos_of_nonpos_of_nonneg (XV h.1) (az x)
   exact pq h2 h1
theorem zAm (p:List Int):p.all is0=true->∀ c,z9 p c=0:=by
 induction p with
 | nil=>intro _ c;rfl
 | cons a p ih =>
  intro h c
  have h:(is0 a&&p.all is0)=true:=h
  rw [bt] at h
  cases c with
  | nil=>rfl
  | cons x c=>show a * x + z9 p c=0;rw [ih h.2 c,zFr h.1,mh];rfl
theorem Pl.ok_ev (h:p.ok=true)(c:List Nat)(d:List Int):p.ev c d<=0:=by
 have h:(le0 p.k&&(p.n.all le0&&p.i.all is0))=true:=h
 rw [bt,bt] at h
 show p.k + (_ + z9 p.i d)<=0
 rw [zAm p.i h.2.2,bJ]
 exact pq (XV h.1) (zDF p.n h.2.1 c)
def hyL (c:List Nat)(d:List Int)(g:Prop)(fs:List (Int×Ft)):Prop:=dQ g (λ f _ r=>f.2.ev c d->r) fs
noncomputable def chL (p:Pl)(fs:List (Int×Ft)):Pl->Bool:=dQ (λ q=>(p.add q).ok) (λ f _ r q=>(f.2.isE || le0 (-f.1))&&r (q.add (f.2.pl.mul (-f.1)))) fs
theorem wi {c:List Nat}{d:List Int}{g:Prop}(hg:p.ev c d<=0->g)(fs:List (Int×Ft)):∀ q,0<=q.ev c d->chL p fs q=true->hyL c d g fs:=by
 induction fs with
 | nil =>
  intro q hq h
  have:=Pl.ok_ev h c d
  rw [Pl.add_ev] at this
  exact hg (by omega)
 | cons f fs ih =>
  intro q hq h x
  have h:((f.2.isE || le0 (-f.1))&&chL p fs (q.add (f.2.pl.mul (-f.1))))=true:=h
  rw [bt,kW] at h
  refine ih _ ?_ h.2
  rw [Pl.add_ev,Pl.mul_ev]
  have hx:0<=-f.1 * f.2.pl.ev c d:=by
   cases e:f.2.isE with
   | true=>rw [Ft.eq_of c d _ e x,dg];exact aV 0
   | false =>
    have h1:=XV (h.1.resolve_left (by rw [e];exact a5))
    exact Int.mul_nonneg_of_nonpos_of_nonpos h1 ((Ft.le_iff c d _ e).mp x)
  exact Int.add_nonneg hq hx
theorem lin (c:List Nat)(d:List Int)(x y:Nt)(fs:List (Int×Ft))(h:chL (Ft.l x y).pl fs ⟨0,[],[]⟩=true):hyL c d (x.ev c<=y.ev c) fs :=
 wi (p:=(Ft.l x y).pl) (Ft.le_iff c d (.l x y) rfl).mpr fs ⟨0,[],[]⟩ (show (0:Int)<=0 + (0 + 0) from aV 0) h
theorem liZ (c:List Nat)(d:List Int)(x y:Zt)(fs:List (Int×Ft))(h:chL (Ft.L x y).pl fs ⟨0,[],[]⟩=true):hyL c d (x.ev c d<=y.ev c d) fs :=
 wi (p:=(Ft.L x y).pl) (Ft.le_iff c d (.L x y) rfl).mpr fs ⟨0,[],[]⟩ (show (0:Int)<=0 + (0 + 0) from aV 0) h
theorem liF (c:List Nat)(d:List Int)(fs:List (Int×Ft))(h:chL ⟨1,[],[]⟩ fs ⟨0,[],[]⟩=true):hyL c d False fs :=
 wi (p:=⟨1,[],[]⟩) (λ h=>absurd (show (1:Int) + (0 + 0)<=0 from h) (by decide)) fs ⟨0,[],[]⟩ (show (0:Int)<=0 + (0 + 0) from aV 0) h
end Mine.Internal
local macro_rules | `(tactic| erw [$t:term])=>`(tactic| refine Mine.Internal.rwE ($t ..) ?_)
namespace Mine.Internal
open PySem PySem.Calls PyProof.Rows PySem.W
set_option tactic.hygienic false
variable {A0 A1 P A2 A3:Prop}{vs:Array af}{h':aR}{φ j':ah->Prop}{i:Int}{motive:af->Prop}
theorem Ea (h:A0/\A1)(k:A0->A1->P):P:=k h.1 h.2
theorem Ee.{u0}{sZ:Sort u0}{A0:sZ->Prop}(h:∃ x0,A0 x0)(k:∀ x0,A0 x0->P):P:=aD h λ x0 h=>k x0 h
theorem Eea.{u0}{sZ:Sort u0}{A0:sZ->Prop}{A1:sZ->Prop}(h:∃ x0,A0 x0/\A1 x0)(k:∀ x0,A0 x0->A1 x0->P):P:=aD h λ x0 h=>k x0 h.1 h.2
theorem Eaa (h:A0/\A1/\A2)(k:A0->A1->A2->P):P:=k h.1 h.2.1 h.2.2
theorem Eee.{u0,u1}{sZ:Sort u0}{tc:Sort u1}{A0:sZ->tc->Prop}(h:∃ x0 x1,A0 x0 x1)(k:∀ x0 x1,A0 x0 x1->P):P:=aD h λ x0 h=>aD h λ x1 h=>k x0 x1 h
theorem Eeea.{u0,u1}{sZ:Sort u0}{tc:Sort u1}{A0:sZ->tc->Prop}{A1:sZ->tc->Prop}(h:∃ x0 x1,A0 x0 x1/\A1 x0 x1)(k:∀ x0 x1,A0 x0 x1->A1 x0 x1->P):P:=aD h λ x0 h=>aD h λ x1 h=>k x0 x1 h.1 h.2
theorem Eeaa.{u0}{sZ:Sort u0}{A0:sZ->Prop}{A1:sZ->Prop}{A2:sZ->Prop}(h:∃ x0,A0 x0/\A1 x0/\A2 x0)(k:∀ x0,A0 x0->A1 x0->A2 x0->P):P:=aD h λ x0 h=>k x0 h.1 h.2.1 h.2.2
theorem Z0 (h:A0/\A1/\A2/\A3)(k:A0->A1->A2->A3->P):P:=k h.1 h.2.1 h.2.2.1 h.2.2.2
theorem Eeee.{u0,u1,u2}{sZ:Sort u0}{tc:Sort u1}{tF:Sort u2}{A0:sZ->tc->tF->Prop}(h:∃ x0 x1 x2,A0 x0 x1 x2)(k:∀ x0 x1 x2,A0 x0 x1 x2->P):P:=aD h λ x0 h=>aD h λ x1 h=>aD h λ x2 h=>k x0 x1 x2 h
theorem Eeeaa.{u0,u1}{sZ:Sort u0}{tc:Sort u1}{A0:sZ->tc->Prop}{A1:sZ->tc->Prop}{A2:sZ->tc->Prop}(h:∃ x0 x1,A0 x0 x1/\A1 x0 x1/\A2 x0 x1)(k:∀ x0 x1,A0 x0 x1->A1 x0 x1->A2 x0 x1->P):P:=aD h λ x0 h=>aD h λ x1 h=>k x0 x1 h.1 h.2.1 h.2.2
theorem Eeaaa.{u0}{sZ:Sort u0}{A0:sZ->Prop}{A1:sZ->Prop}{A2:sZ->Prop}{A3:sZ->Prop}(h:∃ x0,A0 x0/\A1 x0/\A2 x0/\A3 x0)(k:∀ x0,A0 x0->A1 x0->A2 x0->A3 x0->P):P:=aD h λ x0 h=>k x0 h.1 h.2.1 h.2.2.1 h.2.2.2
theorem Eeeea.{u0,u1,u2}{sZ:Sort u0}{tc:Sort u1}{tF:Sort u2}{A0:sZ->tc->tF->Prop}{A1:sZ->tc->tF->Prop}(h:∃ x0 x1 x2,A0 x0 x1 x2/\A1 x0 x1 x2)(k:∀ x0 x1 x2,A0 x0 x1 x2->A1 x0 x1 x2->P):P:=aD h λ x0 h=>aD h λ x1 h=>aD h λ x2 h=>k x0 x1 x2 h.1 h.2
theorem uO {A4:Prop}(h:A0/\A1/\A2/\A3/\A4)(k:A0->A1->A2->A3->A4->P):P:=k h.1 h.2.1 h.2.2.1 h.2.2.2.1 h.2.2.2.2
theorem Eeeeaa.{u0,u1,u2}{sZ:Sort u0}{tc:Sort u1}{tF:Sort u2}{A0:sZ->tc->tF->Prop}{A1:sZ->tc->tF->Prop}{A2:sZ->tc->tF->Prop}(h:∃ x0 x1 x2,A0 x0 x1 x2/\A1 x0 x1 x2/\A2 x0 x1 x2)(k:∀ x0 x1 x2,A0 x0 x1 x2->A1 x0 x1 x2->A2 x0 x1 x2->P):P:=aD h λ x0 h=>aD h λ x1 h=>aD h λ x2 h=>k x0 x1 x2 h.1 h.2.1 h.2.2
theorem Eeeaaa.{u0,u1}{sZ:Sort u0}{tc:Sort u1}{A0:sZ->tc->Prop}{A1:sZ->tc->Prop}{A2:sZ->tc->Prop}{A3:sZ->tc->Prop}(h:∃ x0 x1,A0 x0 x1/\A1 x0 x1/\A2 x0 x1/\A3 x0 x1)(k:∀ x0 x1,A0 x0 x1->A1 x0 x1->A2 x0 x1->A3 x0 x1->P):P:=aD h λ x0 h=>aD h λ x1 h=>k x0 x1 h.1 h.2.1 h.2.2.1 h.2.2.2
theorem Eeaaaa.{u0}{sZ:Sort u0}{A0:sZ->Prop}{A1:sZ->Prop}{A2:sZ->Prop}{A3:sZ->Prop}{A4:sZ->Prop}(h:∃ x0,A0 x0/\A1 x0/\A2 x0/\A3 x0/\A4 x0)(k:∀ x0,A0 x0->A1 x0->A2 x0->A3 x0->A4 x0->P):P:=aD h λ x0 h=>k x0 h.1 h.2.1 h.2.2.1 h.2.2.2.1 h.2.2.2.2
theorem Eeeeea.{u0,u1,u2,u3}{sZ:Sort u0}{tc:Sort u1}{tF:Sort u2}{Aj:Sort u3}{A0:sZ->tc->tF->Aj->Prop}{A1:sZ->tc->tF->Aj->Prop}(h:∃ x0 x1 x2 x3,A0 x0 x1 x2 x3/\A1 x0 x1 x2 x3)(k:∀ x0 x1 x2 x3,A0 x0 x1 x2 x3->A1 x0 x1 x2 x3->P):P:=aD h λ x0 h=>aD h λ x1 h=>aD h λ x2 h=>aD h λ x3 h=>k x0 x1 x2 x3 h.1 h.2
theorem Eeeeaaa.{u0,u1,u2}{sZ:Sort u0}{tc:Sort u1}{tF:Sort u2}{A0:sZ->tc->tF->Prop}{A1:sZ->tc->tF->Prop}{A2:sZ->tc->tF->Prop}{A3:sZ->tc->tF->Prop}(h:∃ x0 x1 x2,A0 x0 x1 x2/\A1 x0 x1 x2/\A2 x0 x1 x2/\A3 x0 x1 x2)(k:∀ x0 x1 x2,A0 x0 x1 x2->A1 x0 x1 x2->A2 x0 x1 x2->A3 x0 x1 x2->P):P:=aD h λ x0 h=>aD h λ x1 h=>aD h λ x2 h=>k x0 x1 x2 h.1 h.2.1 h.2.2.1 h.2.2.2
theorem Eeeaaaa.{u0,u1}{sZ:Sort u0}{tc:Sort u1}{A0:sZ->tc->Prop}{A1:sZ->tc->Prop}{A2:sZ->tc->Prop}{A3:sZ->tc->Prop}{A4:sZ->tc->Prop}(h:∃ x0 x1,A0 x0 x1/\A1 x0 x1/\A2 x0 x1/\A3 x0 x1/\A4 x0 x1)(k:∀ x0 x1,A0 x0 x1->A1 x0 x1->A2 x0 x1->A3 x0 x1->A4 x0 x1->P):P:=aD h λ x0 h=>aD h λ x1 h=>k x0 x1 h.1 h.2.1 h.2.2.1 h.2.2.2.1 h.2.2.2.2
theorem Eeeeeaa.{u0,u1,u2,u3}{sZ:Sort u0}{tc:Sort u1}{tF:Sort u2}{Aj:Sort u3}{A0:sZ->tc->tF->Aj->Prop}{A1:sZ->tc->tF->Aj->Prop}{A2:sZ->tc->tF->Aj->Prop}(h:∃ x0 x1 x2 x3,A0 x0 x1 x2 x3/\A1 x0 x1 x2 x3/\A2 x0 x1 x2 x3)(k:∀ x0 x1 x2 x3,A0 x0 x1 x2 x3->A1 x0 x1 x2 x3->A2 x0 x1 x2 x3->P):P:=aD h λ x0 h=>aD h λ x1 h=>aD h λ x2 h=>aD h λ x3 h=>k x0 x1 x2 x3 h.1 h.2.1 h.2.2
theorem Eeaaaaa.{u0}{sZ:Sort u0}{A0:sZ->Prop}{A1:sZ->Prop}{A2:sZ->Prop}{A3:sZ->Prop}{A4:sZ->Prop}{A5:sZ->Prop}(h:∃ x0,A0 x0/\A1 x0/\A2 x0/\A3 x0/\A4 x0/\A5 x0)(k:∀ x0,A0 x0->A1 x0->A2 x0->A3 x0->A4 x0->A5 x0->P):P:=aD h λ x0 h=>k x0 h.1 h.2.1 h.2.2.1 h.2.2.2.1 h.2.2.2.2.1 h.2.2.2.2.2
theorem Eeeeaaaa.{u0,u1,u2}{sZ:Sort u0}{tc:Sort u1}{tF:Sort u2}{A0:sZ->tc->tF->Prop}{A1:sZ->tc->tF->Prop}{A2:sZ->tc->tF->Prop}{A3:sZ->tc->tF->Prop}{A4:sZ->tc->tF->Prop}(h:∃ x0 x1 x2,A0 x0 x1 x2/\A1 x0 x1 x2/\A2 x0 x1 x2/\A3 x0 x1 x2/\A4 x0 x1 x2)(k:∀ x0 x1 x2,A0 x0 x1 x2->A1 x0 x1 x2->A2 x0 x1 x2->A3 x0 x1 x2->A4 x0 x1 x2->P):P:=aD h λ x0 h=>aD h λ x1 h=>aD h λ x2 h=>k x0 x1 x2 h.1 h.2.1 h.2.2.1 h.2.2.2.1 h.2.2.2.2
theorem Eeeeeaaa.{u0,u1,u2,u3}{sZ:Sort u0}{tc:Sort u1}{tF:Sort u2}{Aj:Sort u3}{A0:sZ->tc->tF->Aj->Prop}{A1:sZ->tc->tF->Aj->Prop}{A2:sZ->tc->tF->Aj->Prop}{A3:sZ->tc->tF->Aj->Prop}(h:∃ x0 x1 x2 x3,A0 x0 x1 x2 x3/\A1 x0 x1 x2 x3/\A2 x0 x1 x2 x3/\A3 x0 x1 x2 x3)(k:∀ x0 x1 x2 x3,A0 x0 x1 x2 x3->A1 x0 x1 x2 x3->A2 x0 x1 x2 x3->A3 x0 x1 x2 x3->P):P:=aD h λ x0 h=>aD h λ x1 h=>aD h λ x2 h=>aD h λ x3 h=>k x0 x1 x2 x3 h.1 h.2.1 h.2.2.1 h.2.2.2
theorem Eeeaaaaa.{u0,u1}{sZ:Sort u0}{tc:Sort u1}{A0:sZ->tc->Prop}{A1:sZ->tc->Prop}{A2:sZ->tc->Prop}{A3:sZ->tc->Prop}{A4:sZ->tc->Prop}{A5:sZ->tc->Prop}(h:∃ x0 x1,A0 x0 x1/\A1 x0 x1/\A2 x0 x1/\A3 x0 x1/\A4 x0 x1/\A5 x0 x1)(k:∀ x0 x1,A0 x0 x1->A1 x0 x1->A2 x0 x1->A3 x0 x1->A4 x0 x1->A5 x0 x1->P):P:=aD h λ x0 h=>aD h λ x1 h=>k x0 x1 h.1 h.2.1 h.2.2.1 h.2.2.2.1 h.2.2.2.2.1 h.2.2.2.2.2
theorem Eeeeeeaa.{u0,u1,u2,u3,u4}{sZ:Sort u0}{tc:Sort u1}{tF:Sort u2}{Aj:Sort u3}{Dk:Sort u4}{A0:sZ->tc->tF->Aj->Dk->Prop}{A1:sZ->tc->tF->Aj->Dk->Prop}{A2:sZ->tc->tF->Aj->Dk->Prop}(h:∃ x0 x1 x2 x3 x4,A0 x0 x1 x2 x3 x4/\A1 x0 x1 x2 x3 x4/\A2 x0 x1 x2 x3 x4)(k:∀ x0 x1 x2 x3 x4,A0 x0 x1 x2 x3 x4->A1 x0 x1 x2 x3 x4->A2 x0 x1 x2 x3 x4->P):P:=aD h λ x0 h=>aD h λ x1 h=>aD h λ x2 h=>aD h λ x3 h=>aD h λ x4 h=>k x0 x1 x2 x3 x4 h.1 h.2.1 h.2.2
theorem Eeeeeaaaa.{u0,u1,u2,u3}{sZ:Sort u0}{tc:Sort u1}{tF:Sort u2}{Aj:Sort u3}{A0:sZ->tc->tF->Aj->Prop}{A1:sZ->tc->tF->Aj->Prop}{A2:sZ->tc->tF->Aj->Prop}{A3:sZ->tc->tF->Aj->Prop}{A4:sZ->tc->tF->Aj->Prop}(h:∃ x0 x1 x2 x3,A0 x0 x1 x2 x3/\A1 x0 x1 x2 x3/\A2 x0 x1 x2 x3/\A3 x0 x1 x2 x3/\A4 x0 x1 x2 x3)(k:∀ x0 x1 x2 x3,A0 x0 x1 x2 x3->A1 x0 x1 x2 x3->A2 x0 x1 x2 x3->A3 x0 x1 x2 x3->A4 x0 x1 x2 x3->P):P:=aD h λ x0 h=>aD h λ x1 h=>aD h λ x2 h=>aD h λ x3 h=>k x0 x1 x2 x3 h.1 h.2.1 h.2.2.1 h.2.2.2.1 h.2.2.2.2
theorem Eeeeaaaaa.{u0,u1,u2}{sZ:Sort u0}{tc:Sort u1}{tF:Sort u2}{A0:sZ->tc->tF->Prop}{A1:sZ->tc->tF->Prop}{A2:sZ->tc->tF->Prop}{A3:sZ->tc->tF->Prop}{A4:sZ->tc->tF->Prop}{A5:sZ->tc->tF->Prop}(h:∃ x0 x1 x2,A0 x0 x1 x2/\A1 x0 x1 x2/\A2 x0 x1 x2/\A3 x0 x1 x2/\A4 x0 x1 x2/\A5 x0 x1 x2)(k:∀ x0 x1 x2,A0 x0 x1 x2->A1 x0 x1 x2->A2 x0 x1 x2->A3 x0 x1 x2->A4 x0 x1 x2->A5 x0 x1 x2->P):P:=aD h λ x0 h=>aD h λ x1 h=>aD h λ x2 h=>k x0 x1 x2 h.1 h.2.1 h.2.2.1 h.2.2.2.1 h.2.2.2.2.1 h.2.2.2.2.2
theorem Eeeeeeaaa.{u0,u1,u2,u3,u4}{sZ:Sort u0}{tc:Sort u1}{tF:Sort u2}{Aj:Sort u3}{Dk:Sort u4}{A0:sZ->tc->tF->Aj->Dk->Prop}{A1:sZ->tc->tF->Aj->Dk->Prop}{A2:sZ->tc->tF->Aj->Dk->Prop}{A3:sZ->tc->tF->Aj->Dk->Prop}(h:∃ x0 x1 x2 x3 x4,A0 x0 x1 x2 x3 x4/\A1 x0 x1 x2 x3 x4/\A2 x0 x1 x2 x3 x4/\A3 x0 x1 x2 x3 x4)(k:∀ x0 x1 x2 x3 x4,A0 x0 x1 x2 x3 x4->A1 x0 x1 x2 x3 x4->A2 x0 x1 x2 x3 x4->A3 x0 x1 x2 x3 x4->P):P:=aD h λ x0 h=>aD h λ x1 h=>aD h λ x2 h=>aD h λ x3 h=>aD h λ x4 h=>k x0 x1 x2 x3 x4 h.1 h.2.1 h.2.2.1 h.2.2.2
structure Tup (h:aR)(a:ah)(vs:Array af):Prop where
 t:kc h a vs
 p:∀ o,h.get? a=some o->o.dict=none
theorem Tup.new {h:aR}{a:ah}(g:h.get? a=some {cls:=.type "tuple",data:=.seq vs}):Tup h a vs :=
 ⟨⟨_,g,rfl,_,rfl⟩,λ o e=>by rw [g] at e;(injection e with y1y0;subst y1y0);rfl⟩
mutual
inductive VP (h:aR)(φ:ah->Prop):af->ab->Prop
 | none:VP h φ .none .none
 | bool (b:Bool):VP h φ (.bool b) (.bool b)
 | int (i:Int) (t:iv):VP h φ (.int i t) (.int i)
 | str (x:aN) (t:iv):bu x=true->VP h φ (.str x t) (.str x)
 | tup {a:ah} {vs:List af} {xs:List ab}:φ a->Tup h a vs.toArray->VPs h φ vs xs->VP h φ (.ref a) (.tuple xs)
 | lst {a:ah} {vs:List af} {xs:List ab}:φ a->h.IsList a vs.toArray->VPs h φ vs xs->VP h φ (.ref a) (.list xs)
inductive VPs (h:aR)(φ:ah->Prop):List af->List ab->Prop
 | nil:VPs h φ [] []
 | cons {v:af} {vs:List af} {x:ab} {xs:List ab}:VP h φ v x->VPs h φ vs xs->VPs h φ (v::vs) (x::xs)
end
theorem kc.eqAt {h:aR}{a:ah}(x:kc h a vs)(e:h'.get? a=h.get? a):kc h' a vs :=
 let ⟨o,ho,r⟩:=x;⟨o,e.trans ho,r⟩
theorem Tup.eqAt {h:aR}{a:ah}(x:Tup h a vs)(e:h'.get? a=h.get? a):Tup h' a vs :=
 ⟨kc.eqAt x.t e,λ o q=>x.p o (e▸q)⟩
theorem IsList.eqAt {h:aR}{a:ah}(x:h.IsList a vs)(e:h'.get? a=h.get? a):h'.IsList a vs :=
 let ⟨o,ho,r⟩:=x;⟨o,e.trans ho,r⟩
theorem VP.mono {h:aR}(k:∀ a,φ a->j' a/\h'.get? a=h.get? a){v:af}{x:ab}(V:VP h φ v x):VP h' j' v x :=
 @VP.rec h φ (λ v x _=>VP h' j' v x) (λ vs xs _=>VPs h' j' vs xs) .none .bool .int .str (λ f ht _ r=>.tup (k _ f).1 (Tup.eqAt ht (k _ f).2) r) (λ f ht _ r=>.lst (k _ f).1 (IsList.eqAt ht (k _ f).2) r) .nil (λ _ _ p r=>.cons p r) v x V
theorem VPs.mono {h:aR}(k:∀ a,φ a->j' a/\h'.get? a=h.get? a){vs:List af}{xs:List ab}(V:VPs h φ vs xs):VPs h' j' vs xs :=
 @VPs.rec h φ (λ v x _=>VP h' j' v x) (λ vs xs _=>VPs h' j' vs xs) .none .bool .int .str (λ f ht _ r=>.tup (k _ f).1 (Tup.eqAt ht (k _ f).2) r) (λ f ht _ r=>.lst (k _ f).1 (IsList.eqAt ht (k _ f).2) r) .nil (λ _ _ p r=>.cons p r) vs xs V
section
variable {h:aR}{φ:ah->Prop}{v:af}{x:ab}{vs ws:List af}{xs ys:List ab}
def VPI (h:aR)(φ:ah->Prop)(v:af)(x:ab):Prop:=@bC (λ _=>Prop) x (v=.none) (λ b=>v=.bool b) (λ i=>∃ t,v=.int i t) (λ x=>∃ t,v=.str x t/\bu x=true)
 (λ xs=>∃ a vs,v=.ref a/\φ a/\h.IsList a vs.toArray/\VPs h φ vs xs) (λ xs=>∃ a vs,v=.ref a/\φ a/\Tup h a vs.toArray/\VPs h φ vs xs) (λ _=>False)
def zEf (h:aR)(φ:ah->Prop)(vs:List af)(xs:List ab):Prop:=@bA ab (λ _=>Prop) xs (vs=[]) λ x xs=>∃ v r,vs=v::r/\VP h φ v x/\VPs h φ r xs
theorem VP.inv (V:VP h φ v x):VPI h φ v x :=
 @VP.rec h φ (λ v x _=>VPI h φ v x) (λ _ _ _=>True) rfl (λ _=>rfl) (λ _ t=>⟨t,rfl⟩) (λ _ t o=>⟨t,rfl,o⟩) (λ f t r _=>⟨_,_,rfl,f,t,r⟩) (λ f t r _=>⟨_,_,rfl,f,t,r⟩) trivial (λ _ _ _ _=>trivial) v x V
theorem VPs.inv (V:VPs h φ vs xs):zEf h φ vs xs :=
 @VPs.rec h φ (λ _ _ _=>True) (λ vs xs _=>zEf h φ vs xs) trivial (λ _=>trivial) (λ _ _=>trivial) (λ _ _ _=>trivial) (λ _ _ _ _=>trivial) (λ _ _ _ _=>trivial) rfl (λ p r _ _=>⟨_,_,rfl,p,r⟩) vs xs V
theorem VP.inone (V:VP h φ v .none):v=.none:=V.inv
theorem VP.ibool {b:Bool}(V:VP h φ v (.bool b)):v=.bool b:=V.inv
theorem VP.iint (V:VP h φ v (.int i)):∃ t,v=.int i t:=V.inv
theorem VP.istr {x:aN}(V:VP h φ v (.str x)):∃ t,v=.str x t/\bu x=true:=V.inv
theorem VP.itup (V:VP h φ v (.tuple xs)):∃ a vs,v=.ref a/\φ a/\Tup h a vs.toArray/\VPs h φ vs xs:=V.inv
theorem VP.ilst (V:VP h φ v (.list xs)):∃ a vs,v=.ref a/\φ a/\h.IsList a vs.toArray/\VPs h φ vs xs:=V.inv
theorem VP.idict {es:List (ab×ab)}(V:VP h φ v (.dict es)):False:=V.inv
theorem VPs.inil (V:VPs h φ vs []):vs=[]:=V.inv
theorem VPs.icons (V:VPs h φ vs (x::xs)):∃ v r,vs=v::r/\VP h φ v x/\VPs h φ r xs:=V.inv
@[elab_as_elim] theorem VP.mint (V:VP h φ v (.int i))(k:∀ t,motive (.int i t)):motive v:=Ee V.iint λ t e=>e▸k t
@[elab_as_elim] theorem VP.mstr {x:aN}(V:VP h φ v (.str x))(k:∀ t,bu x=true->motive (.str x t)):motive v:=Eea V.istr λ t e q=>e▸k t q
@[elab_as_elim] theorem VP.mtup (V:VP h φ v (.tuple xs))(k:∀ a vs,φ a->Tup h a vs.toArray->VPs h φ vs xs->motive (.ref a)):motive v:=Eeeaaa V.itup λ a vs e f t r=>e▸k a vs f t r
@[elab_as_elim] theorem VP.mlst (V:VP h φ v (.list xs))(k:∀ a vs,φ a->h.IsList a vs.toArray->VPs h φ vs xs->motive (.ref a)):motive v:=Eeeaaa V.ilst λ a vs e f t r=>e▸k a vs f t r
@[elab_as_elim] theorem VPs.mcons {motive:List af->Prop}(V:VPs h φ vs (x::xs))(k:∀ v r,VP h φ v x->VPs h φ r xs->motive (v::r)):motive vs:=Eeeaa V.icons λ v r e p q=>e▸k v r p q
theorem VP.readT {a:ah}(ht:Tup h a vs.toArray)(r:∃ as,bI h vs xs as):∃ as,dW h (.ref a) (.tuple xs) as:=by
 obtain ⟨o,ho,hc,n,hd⟩:=ht.t
 exact Ee r λ as q=>⟨as,.tuple ho hc hd q⟩
theorem VP.readL {a:ah}(ht:h.IsList a vs.toArray)(r:∃ as,bI h vs xs as):∃ as,dW h (.ref a) (.list xs) as:=by
 obtain ⟨o,ho,hc,n,hd⟩:=ht
 exact Ee r λ as q=>⟨_,.list ho hc hd q⟩
theorem VP.reads (V:VP h φ v x):∃ as,dW h v x as :=
 @VP.rec h φ (λ v x _=>∃ as,dW h v x as) (λ vs xs _=>∃ as,bI h vs xs as) ⟨_,.none⟩ (λ b=>⟨_,.bool b⟩) (λ i t=>⟨_,.int i t⟩) (λ x t _=>⟨_,.str x t⟩) (λ _ t _ r=>VP.readT t r) (λ _ t _ r=>VP.readL t r) ⟨_,.nil⟩ (λ _ _ p r=>Ee p λ _ q=>Ee r λ _ q'=>⟨_,.cons q q'⟩) v x V
theorem VPs.reads (V:VPs h φ vs xs):∃ as,bI h vs xs as :=
 @VPs.rec h φ (λ v x _=>∃ as,dW h v x as) (λ vs xs _=>∃ as,bI h vs xs as) ⟨_,.none⟩ (λ b=>⟨_,.bool b⟩) (λ i t=>⟨_,.int i t⟩) (λ x t _=>⟨_,.str x t⟩) (λ _ t _ r=>VP.readT t r) (λ _ t _ r=>VP.readL t r) ⟨_,.nil⟩ (λ _ _ p r=>Ee p λ _ q=>Ee r λ _ q'=>⟨_,.cons q q'⟩) vs xs V
theorem UB {x:ab}{xs:List ab}(p:x.canLay0=true)(r:dX xs=true):dX (x::xs)=true:=(bt ..).mpr ⟨p,r⟩
theorem VP.canLay (V:VP h φ v x):x.canLay0=true :=
 @VP.rec h φ (λ _ x _=>x.canLay0=true) (λ _ xs _=>dX xs=true) rfl (λ _=>rfl) (λ _ _=>rfl) (λ _ _ o=>o) (λ _ _ _ r=>r) (λ _ _ _ r=>r) rfl (λ _ _ p r=>UB p r) v x V
theorem VPs.canLay (V:VPs h φ vs xs):dX xs=true :=
 @VPs.rec h φ (λ _ x _=>x.canLay0=true) (λ _ xs _=>dX xs=true) rfl (λ _=>rfl) (λ _ _=>rfl) (λ _ _ o=>o) (λ _ _ _ r=>r) (λ _ _ _ r=>r) rfl (λ _ _ p r=>UB p r) vs xs V
theorem VPs.ind {Q:List af->List ab->Prop}(n:Q [] [])(c:∀ {v vs x xs},VP h φ v x->VPs h φ vs xs->Q vs xs->Q (v::vs) (x::xs))(V:VPs h φ vs xs):Q vs xs :=
 @VPs.rec h φ (λ _ _ _=>True) (λ vs xs _=>Q vs xs) trivial (λ _=>trivial) (λ _ _=>trivial) (λ _ _ _=>trivial) (λ _ _ _ _=>trivial) (λ _ _ _ _=>trivial) n (λ p r _ q=>c p r q) vs xs V
theorem VPs.length (p:VPs h φ vs xs):vs.length=xs.length:=p.ind (Q:=λ vs xs=>vs.length=xs.length) rfl λ _ _ ih=>congrArg (· + 1) ih
theorem VPs.append (p:VPs h φ vs xs)(q:VPs h φ ws ys):VPs h φ (vs++ws) (xs++ys):=p.ind (Q:=λ vs xs=>VPs h φ (vs++ws) (xs++ys)) q λ a _ ih=>.cons a ih
theorem VB {α:Type}{a b:α}(e:some a=some b):a=b:=hO e
theorem zCS {α:Type}{a:α}(e:none=some a):P:=Option.noConfusion rfl (heq_of_eq e)
theorem VPs.get (p:VPs h φ vs xs):∀ {k:Nat} {x:ab},xs[k]?=some x->∃ v,vs[k]?=some v/\VP h φ v x :=
 p.ind (Q:=λ vs xs=>∀ {k:Nat} {x:ab},xs[k]?=some x->∃ v,vs[k]?=some v/\VP h φ v x) (λ e=>zCS e) λ {v _ _ _} a _ ih k=>lh (λ e=>⟨v,rfl,VB e▸a⟩) (λ k _ e=>ih (k:=k) e) k
theorem VPs.take (p:VPs h φ vs xs):∀ (n:Nat),VPs h φ (vs.take n) (xs.take n) :=
 p.ind (Q:=λ vs xs=>∀ (n:Nat),VPs h φ (vs.take n) (xs.take n)) (λ n=>lh .nil (λ _ _=>.nil) n) λ a _ ih n=>lh .nil (λ n _=>.cons a (ih n)) n
theorem VP.handed (V:VP h φ v x):lp v=true :=
 @VP.rec h φ (λ v _ _=>lp v=true) (λ _ _ _=>True) rfl (λ _=>rfl) (λ _ _=>rfl) (λ _ _ _=>rfl) (λ _ _ _ _=>rfl) (λ _ _ _ _=>rfl) trivial (λ _ _ _ _=>trivial) v x V
end
end Mine.Internal
namespace Mine.Internal
open PySem PySem.Calls PyProof.Rows PySem.W
set_option tactic.hygienic false
variable {x:ab}{xs:List ab}{i b:Int}{P Q:Prop}{n k j:Nat}{r:List Int}{φ j':ah->Prop}{μ sJ:List ah}{v:af}{h':aR}{motive:af->Prop}{K:Int->Prop}
inductive Bi where
 | len | isinst | abs | max | min | sum | sorted | zip
 | tuple | list | int | bool | dict | set | range
 deriving DecidableEq
inductive D where
 | p (x:ab)
 | obj (i:Nat)
 | fn (a:ah)
 | bi (b:Bi)
 | tup (ds:List D)
 | rng (a b:Int)
 | zp (d e:D) (xs ys:List ab)
variable {d:D}
inductive Ky where
 | int (i:Int)
 | str (x:aN)
 | nil
 | cons (a r:Ky)
 deriving DecidableEq
mutual
noncomputable def Zf:ab->Option Ky
 | .int i=>some (.int i)
 | .bool b=>some (.int (cond b 1 0))
 | .str x=>some (.str x)
 | .tuple xs=>keyDs xs
 | _=>none
noncomputable def keyDs:List ab->Option Ky
 | []=>some .nil
 | x::xs=>(Zf x).bind λ a=>(keyDs xs).bind λ r=>some (.cons a r)
end
theorem zHp:keyDs []=some .nil:=rfl
theorem Zs :keyDs (x::xs)=(Zf x).bind λ a=>(keyDs xs).bind λ r=>some (.cons a r):=rfl
theorem zHH :Zf (.int i)=some (.int i):=rfl
theorem zHR {b:Bool}:Zf (.bool b)=some (.int (cond b 1 0)):=rfl
theorem zI8 {x:aN}:Zf (.str x)=some (.str x):=rfl
theorem Xy :Zf (.tuple xs)=keyDs xs:=rfl
inductive MO where
 | lst (xs:List ab)
 | idict (es:List (Int×D))
 | rdict (es:List (Nat×D))
 | sdict (es:List (Nat×D))
 | tdict (es:List (Ky×D))
 | inst (C:ah) (ns:Nat)
 | dead
 | iset (l:List Int)
abbrev Rho:=List (Option D)
abbrev zA:=List MO
inductive Pt where
 | nm (i:Nat)
 | tup (ps:List Pt)
mutual
inductive Ex where
 | nm (i:Nat)
 | gl (g:Nat)
 | c (d:ab)
 | tup (es:List Ex)
 | lst (m:Bool) (es:List Ex)
 | dct (kind:Nat) (ks:List Nat) (es:List Ex)
 | bin (op:lq) (a b:Ex)
 | neg (a:Ex)
 | not (a:Ex)
 | and (es:List Ex)
 | or (es:List Ex)
 | cmp (a:Ex) (op:ke) (b:Ex)
 | cmp2 (a:Ex) (op:ke) (b:Ex) (Af:ke) (c:Ex)
 | ite (c a b:Ex)
 | call (m:Bool) (f:Ex) (args:List Ex)
 | meth (o:Ex) (k:Nat) (args:List Ex)
 | attr (o:Ex) (k:Nat)
 | sub (o i:Ex)
 | subk (o:Ex) (k:Nat)
 | upto (o hi:Ex)
 | comp (m:Bool) (n:Nat) (s6:Ex) (t:Pt) (it:Ex) (ifs:List Ex) (gens:List Gn)
 | zip (a b:Ex)
 | fstr (pre:aN) (e:Ex)
inductive Gn where
 | mk (t:Pt) (it:Ex) (ifs:List Ex)
end
inductive Tg where
 | pt (p:Pt)
 | attr (o:Ex) (k:Nat)
 | sub (o i:Ex)
 | subk (o:Ex) (k:Nat)
 | tup (ts:List Tg)
inductive St where
 | expr (e:Ex)
 | asg (t:Tg) (e:Ex)
 | ite (c:Ex) (a b:List St)
 | for (t:Pt) (it:Ex) (body:List St)
 | ret (e:Ex)
 | retF (e:Ex)
 | retN
 | cont
 | raise
inductive Fl where
 | next
 | cont
 | ret (d:D)
structure Tabs where
 glob:List (aN×D)
 names:List aN
 meth:List ((ah×Nat)×ah)
 classes:List ah
noncomputable def zBe:Nat:=0
noncomputable def zGv:Nat:=1
noncomputable def xE:Nat:=2
noncomputable def zFf:Nat:=3
noncomputable def zBC:Nat:=4
noncomputable def zEV:Nat:=5
def Br (b:Bool)(P Q:Prop):Prop:=match b with
 | true=>P
 | false=>Q
theorem Br.t {b:Bool}(x:Br b P Q)(h:b=true):P:=@Eq.mp (Br b P Q) (Br true P Q) (congrArg (λ b=>Br b P Q) h) x
theorem Br.f {b:Bool}(x:Br b P Q)(h:b=false):Q:=@Eq.mp (Br b P Q) (Br false P Q) (congrArg (λ b=>Br b P Q) h) x
def Is {α:Type}(o:Option α)(K:α->Prop):Prop:=match o with
 | some x=>K x
 | none=>False
theorem Is.h {α:Type}{o:Option α}{K:α->Prop}(h:Is o K):∃ x,o=some x/\K x:=by
 cases o with
 | none=>exact h.elim
 | some x=>exact ⟨x,rfl,h⟩
theorem Is.mk {α:Type}{o:Option α}{K:α->Prop}{x:α}(e:o=some x)(h:K x):Is o K:=by subst e;exact h
noncomputable def zAZ (x:ab):Bool:=@bC (λ _=>Bool) x true (λ _=>true) (λ _=>true) (λ _=>true) (λ _=>false) (λ _=>false) (λ _=>false)
def Sh (x y:ab):Prop:=min x.depth y.depth<=64
theorem Sh.h {y:ab}(h:Sh x y):min x.depth y.depth<=64:=h
def Fit (i:Int):Prop:=i.natAbs<2 ^ 100000
abbrev Few (n:Nat):Prop:=n<=100000
def Kd (x:ab):Prop:=x.depth<=6
def Nd (l:List Int):Prop:=l.Nodup
abbrev Lt64 (n:Nat):Prop:=n<64
structure Nz (i:Int):Prop where
 h:i≠0
 lo:i.natAbs<2 ^ 9000
structure Pw (a b:Int):Prop where
 h:0<=b
 fit:(iQ a:Int) * b<=2 ^ 27
abbrev Rg (a b:Int):Prop:=-4611686018427387904<=a/\a<4611686018427387904/\-4611686018427387904<=b/\b<4611686018427387904
abbrev Sm (i:Int):Prop:=-9223372036854775808<=i/\i<9223372036854775808
theorem Few.h (h:Few n):n<=100000:=h
theorem Fit.h (h:Fit i):i.natAbs<2 ^ 100000:=h
theorem Kd.h (h:Kd x):x.depth<=6:=h
theorem Lt64.h (h:Lt64 n):n<64:=h
theorem Rg.h {a:Int}(h:Rg a b):-(2 ^ 62)<=a/\a<2 ^ 62/\-(2 ^ 62)<=b/\b<2 ^ 62:=h
theorem Sm.h (h:Sm i):-(2 ^ 63)<=i/\i<2 ^ 63:=h
theorem nn {α:Type}{x:α}(h:none=some x):P:=nomatch h
theorem ob {α β:Type}{o:Option α}{f:α->Option β}{c:β}(h:o.bind f=some c):∃ x,o=some x/\f x=some c:=by
 cases o with
 | none=>exact nn h
 | some x=>exact ⟨x,rfl,h⟩
noncomputable def gd {α:Type}(b:Bool)(o:Option α):Option α:=match b with
 | true=>o
 | false=>none
theorem og {α:Type}{b:Bool}{o:Option α}{c:α}(h:gd b o=some c):b=true/\o=some c:=by
 cases b with
 | true=>exact ⟨rfl,h⟩
 | false=>exact nn h
theorem so {α:Type}{x y:α}(h:some x=some y):x=y:=hO h
noncomputable def look {α:Type}(k:Nat):List (Nat×α)->Option α
 | []=>none
 | (j,d)::r=>match bc j k with
  | true=>some d
  | false=>look k r
theorem zEp {α:Type}:look k ([]:List (Nat×α))=none:=rfl
theorem zEO {α:Type}{d:α}{r:List (Nat×α)}:look k ((j,d)::r)=(match bc j k with | true=>some d | false=>look k r):=rfl
noncomputable def put {α:Type}(k:Nat)(d:α):List (Nat×α)->List (Nat×α)
 | []=>[(k,d)]
 | (j,e)::r=>match bc j k with
  | true=>(j,d)::r
  | false=>(j,e)::put k d r
theorem wh {α:Type}{d:α}:put k d []=[(k,d)]:=rfl
theorem Xr {α:Type}{d e:α}{r:List (Nat×α)}:put k d ((j,e)::r)=(match bc j k with | true=>(j,d)::r | false=>(j,e)::put k d r):=rfl
noncomputable def zP (k:Int)(es:List (Int×D)):Option D:=(es.find? λ e=>decide (e.1=k)).map (·.2)
noncomputable def Qc (k:Int)(d:D):List (Int×D)->List (Int×D)
 | []=>[(k,d)]
 | e::r=>if e.1=k then (e.1,d)::r else e::Qc k d r
theorem WJ {k:Int}:Qc k d []=[(k,d)]:=rfl
theorem WP {k:Int}{e:Int×D}{r:List (Int×D)}:Qc k d (e::r)=if e.1=k then (e.1,d)::r else e::Qc k d r:=rfl
noncomputable def zw (k:Ky)(es:List (Ky×D)):Option D:=(es.find? λ e=>decide (e.1=k)).map (·.2)
noncomputable def Zn (x:ab):Option (List ab):=@bC (λ _=>Option (List ab)) x none (λ _=>none) (λ _=>none) (λ _=>none) some some (λ _=>none)
noncomputable def ZO (mo:MO):Option (List ab):=@MO.casesOn (λ _=>Option (List ab)) mo some (λ _=>none) (λ _=>none) (λ _=>none) (λ _=>none) (λ _ _=>none) none (λ _=>none)
noncomputable def zu (σ:zA)(d:D):Option (List ab):=@D.casesOn (λ _=>Option (List ab)) d Zn (λ i=>σ[i]?.bind ZO) (λ _=>none) (λ _=>none) (λ _=>none) (λ _ _=>none) (λ _ _ _ _=>none)
mutual
noncomputable def qj (σ:zA):D->Option ab
 | .p x=>some x
 | .obj i=>(σ[i]?.bind ZO).bind λ xs=>some (.list xs)
 | .tup ds=>(derefs σ ds).bind λ xs=>some (.tuple xs)
 | _=>none
noncomputable def derefs (σ:zA):List D->Option (List ab)
 | []=>some []
 | d::ds=>(qj σ d).bind λ x=>(derefs σ ds).bind λ xs=>some (x::xs)
end
noncomputable def isP (d:D):Option ab:=@D.casesOn (λ _=>Option ab) d some (λ _=>none) (λ _=>none) (λ _=>none) (λ _=>none) (λ _ _=>none) (λ _ _ _ _=>none)
noncomputable def XJ (d:D):Option Nat:=@D.casesOn (λ _=>Option Nat) d (λ _=>none) some (λ _=>none) (λ _=>none) (λ _=>none) (λ _ _=>none) (λ _ _ _ _=>none)
noncomputable def zEz:List D->Option (ab×Nat)
 | []=>none
 | d::r=>match r with
  | []=>none
  | e::r=>match r with
   | []=>(isP d).bind λ x=>(XJ e).bind λ i=>some (x,i)
   | _::_=>none
noncomputable def Yc (σ:zA):D->Option (ab×zA)
 | .p x=>some (x,σ)
 | .obj i=>(σ[i]?.bind ZO).bind λ xs=>some (.list xs,σ.set i .dead)
 | .tup ds=>(zEz ds).bind λ p=>(σ[p.2]?.bind ZO).bind λ xs=>some (.tuple [p.1,.list xs],σ.set p.2 .dead)
 | _=>none
noncomputable def QN:List D->Option (List ab)
 | []=>some []
 | d::ds=>(isP d).bind λ x=>(QN ds).bind λ xs=>some (x::xs)
noncomputable def jm (ds:List D):Option (List ab)->D
 | some xs=>.p (.tuple xs)
 | none=>.tup ds
noncomputable def Yi (ds:List D):D:=jm ds (QN ds)
noncomputable def idx (n:Nat):Int->Option Nat
 | .ofNat k=>some k
 | .negSucc k=>match dC k n with
  | true=>some (n - (k + 1))
  | false=>none
noncomputable def isInt (x:ab):Option Int:=@bC (λ _=>Option Int) x none (λ _=>none) some (λ _=>none) (λ _=>none) (λ _=>none) (λ _=>none)
noncomputable def Ye (x:ab):Option (List ab):=@bC (λ _=>Option (List ab)) x none (λ _=>none) (λ _=>none) (λ _=>none) (λ _=>none) some (λ _=>none)
noncomputable def ints?:List ab->Option (List Int)
 | []=>some []
 | x::r=>(isInt x).bind λ i=>(ints? r).bind λ l=>some (i::l)
theorem zEQ:ints? []=some []:=rfl
theorem zEN {r:List ab}:ints? (x::r)=(isInt x).bind λ i=>(ints? r).bind λ l=>some (i::l):=rfl
noncomputable def YJ {α:Type}(l:List α):Option (α×α):=@bA α (λ _=>Option (α×α)) l none λ x r=>@bA α (λ _=>Option (α×α)) r none λ y r=>@bA α (λ _=>Option (α×α)) r (some (x,y)) λ _ _=>none
noncomputable def qJ:List ab->Option (List (Int×D))
 | []=>some []
 | x::r=>(Ye x).bind λ xs=>(YJ xs).bind λ p=>(isInt p.1).bind λ k=>(qJ r).bind λ l=>some ((k,.p p.2)::l)
noncomputable def ze:Int->List Int->Int
 | a,[]=>a
 | a,b::r=>ze (if a<b then b else a) r
theorem JG {a:Int}:ze a []=a:=rfl
theorem jR {a:Int}:ze a (b::r)=ze (if a<b then b else a) r:=rfl
noncomputable def zm:Int->List Int->Int
 | a,[]=>a
 | a,b::r=>zm (if b<a then b else a) r
theorem UH {a:Int}:zm a []=a:=rfl
theorem UQ {a:Int}:zm a (b::r)=zm (if b<a then b else a) r:=rfl
noncomputable def yS (a:Int):List Int->List Int
 | []=>[a]
 | b::r=>if a<=b then a::b::r else b::yS a r
theorem Ug {a:Int}:yS a []=[a]:=rfl
theorem Uo {a:Int}:yS a (b::r)=if a<=b then a::b::r else b::yS a r:=rfl
noncomputable def ZF:List Int->List Int
 | []=>[]
 | a::r=>yS a (ZF r)
theorem zGU:ZF []=[]:=rfl
theorem zBO {a:Int}:ZF (a::r)=yS a (ZF r):=rfl
noncomputable def zH {α:Type}(step:ab->α->(α->Prop)->Prop):List ab->α->(α->Prop)->Prop
 | [],a,Q=>Q a
 | x::xs,a,Q=>step x a λ a'=>zH step xs a' Q
theorem zHr {α:Type}{step:ab->α->(α->Prop)->Prop}{a:α}{Q:α->Prop}:zH step [] a Q=Q a:=rfl
theorem zHt {α:Type}{step:ab->α->(α->Prop)->Prop}{a:α}{Q:α->Prop}:zH step (x::xs) a Q=step x a λ a'=>zH step xs a' Q:=rfl
mutual
noncomputable def Zd:Pt->ab->Rho->Option Rho
 | .nm i,x,ρ=>some (ρ.set i (some (.p x)))
 | .tup ps,x,ρ=>(Ye x).bind λ xs=>bindPs ps xs ρ
noncomputable def bindPs:List Pt->List ab->Rho->Option Rho
 | [],xs,ρ=>match xs with
  | []=>some ρ
  | _::_=>none
 | p::ps,xs,ρ=>match xs with
  | []=>none
  | x::xs=>(Zd p x ρ).bind λ sL=>bindPs ps xs sL
end
structure Cx where
 prog:bN
 w:cr
 K:fZ
 h₀:aR
 mg:aN->Option af
 mb:aN->Option af
noncomputable def qw:Bi->af
 | .len=>.builtin "len"
 | .isinst=>.builtin "isinstance"
 | .abs=>.builtin "abs"
 | .max=>.builtin "max"
 | .min=>.builtin "min"
 | .sum=>.builtin "sum"
 | .sorted=>.builtin "sorted"
 | .zip=>.type "zip"
 | .tuple=>.type "tuple"
 | .list=>.type "list"
 | .int=>.type "int"
 | .bool=>.type "bool"
 | .dict=>.type "dict"
 | .set=>.type "set"
 | .range=>.type "range"
mutual
inductive VD (h:aR)(φ:ah->Prop)(μ:List ah):af->D->Prop
 | p {v:af} {x:ab}:VP h φ v x->VD h φ μ v (.p x)
 | obj {i:Nat} {a:ah}:μ[i]?=some a->VD h φ μ (.ref a) (.obj i)
 | fn (a:ah):VD h φ μ (.ref a) (.fn a)
 | bi (b:Bi):VD h φ μ (qw b) (.bi b)
 | tup {a:ah} {vs:List af} {ds:List D}:φ a->Tup h a vs.toArray->VDs h φ μ vs ds->VD h φ μ (.ref a) (.tup ds)
 | rng {r:ah} {a b:Int} {t u v:iv}:φ r->gn h r a b 1 t u v->VD h φ μ (.ref r) (.rng a b)
inductive VDs (h:aR)(φ:ah->Prop)(μ:List ah):List af->List D->Prop
 | nil:VDs h φ μ [] []
 | cons {v:af} {vs:List af} {d:D} {ds:List D}:VD h φ μ v d->VDs h φ μ vs ds->VDs h φ μ (v::vs) (d::ds)
end
theorem Uh (b:Bi):lp (qw b)=true:=by cases b <;> rfl
theorem VD.handed {h:aR}(p:VD h φ μ v d):lp v=true :=
 @VD.rec h φ μ (λ v _ _=>lp v=true) (λ _ _ _=>True) (λ q=>q.handed) (λ _=>rfl) (λ _=>rfl) Uh (λ _ _ _ _=>rfl) (λ _ _=>rfl) trivial (λ _ _ _ _=>trivial) v d p
theorem gn.eqAt {h:aR}{r:ah}{a:Int}{t u v:iv}(x:gn h r a b 1 t u v)(e:h'.get? r=h.get? r):gn h' r a b 1 t u v:=by
 unfold gn at x ⊢
 erw [e];exact x
theorem VD.mono {h:aR}(k:∀ a,φ a->j' a/\h'.get? a=h.get? a)(m:∀ (i:Nat) (a:ah),μ[i]?=some a->sJ[i]?=some a)(V:VD h φ μ v d):VD h' j' sJ v d :=
 @VD.rec h φ μ (λ v d _=>VD h' j' sJ v d) (λ vs ds _=>VDs h' j' sJ vs ds) (λ q=>.p (q.mono k)) (λ e=>.obj (m _ _ e)) .fn .bi (λ f ht _ r=>.tup (k _ f).1 (Tup.eqAt ht (k _ f).2) r) (λ f ht=>.rng (k _ f).1 (gn.eqAt ht (k _ f).2)) .nil (λ _ _ p r=>.cons p r) v d V
theorem VDs.mono {h:aR}(k:∀ a,φ a->j' a/\h'.get? a=h.get? a)(m:∀ (i:Nat) (a:ah),μ[i]?=some a->sJ[i]?=some a){vs:List af}{ds:List D}(V:VDs h φ μ vs ds):VDs h' j' sJ vs ds :=
 @VDs.rec h φ μ (λ v d _=>VD h' j' sJ v d) (λ vs ds _=>VDs h' j' sJ vs ds) (λ q=>.p (q.mono k)) (λ e=>.obj (m _ _ e)) .fn .bi (λ f ht _ r=>.tup (k _ f).1 (Tup.eqAt ht (k _ f).2) r) (λ f ht=>.rng (k _ f).1 (gn.eqAt ht (k _ f).2)) .nil (λ _ _ p r=>.cons p r) vs ds V
section
variable {h:aR}{φ:ah->Prop}{μ:List ah}{v:af}{vs:List af}{d:D}{ds:List D}
def VDI (h:aR)(φ:ah->Prop)(μ:List ah)(v:af)(d:D):Prop:=@D.casesOn (λ _=>Prop) d (λ x=>VP h φ v x) (λ i=>∃ a,v=.ref a/\μ[i]?=some a) (λ a=>v=.ref a) (λ b=>v=qw b)
 (λ ds=>∃ a vs,v=.ref a/\φ a/\Tup h a vs.toArray/\VDs h φ μ vs ds) (λ a b=>∃ r t u w,v=.ref r/\φ r/\gn h r a b 1 t u w) (λ _ _ _ _=>False)
def zD5 (h:aR)(φ:ah->Prop)(μ:List ah)(vs:List af)(ds:List D):Prop:=@bA D (λ _=>Prop) ds (vs=[]) λ d ds=>∃ v r,vs=v::r/\VD h φ μ v d/\VDs h φ μ r ds
theorem VD.inv (V:VD h φ μ v d):VDI h φ μ v d :=
 @VD.rec h φ μ (λ v d _=>VDI h φ μ v d) (λ _ _ _=>True) (λ q=>q) (λ e=>⟨_,rfl,e⟩) (λ _=>rfl) (λ _=>rfl) (λ f t r _=>⟨_,_,rfl,f,t,r⟩) (λ f t=>⟨_,_,_,_,rfl,f,t⟩) trivial (λ _ _ _ _=>trivial) v d V
theorem VDs.inv (V:VDs h φ μ vs ds):zD5 h φ μ vs ds :=
 @VDs.rec h φ μ (λ _ _ _=>True) (λ vs ds _=>zD5 h φ μ vs ds) (λ _=>trivial) (λ _=>trivial) (λ _=>trivial) (λ _=>trivial) (λ _ _ _ _=>trivial) (λ _ _=>trivial) rfl (λ p r _ _=>⟨_,_,rfl,p,r⟩) vs ds V
theorem VD.ip (V:VD h φ μ v (.p x)):VP h φ v x:=V.inv
theorem VD.iobj {i:Nat}(V:VD h φ μ v (.obj i)):∃ a,v=.ref a/\μ[i]?=some a:=V.inv
theorem VD.ifn {a:ah}(V:VD h φ μ v (.fn a)):v=.ref a:=V.inv
theorem VD.ibi {b:Bi}(V:VD h φ μ v (.bi b)):v=qw b:=V.inv
theorem VD.itup (V:VD h φ μ v (.tup ds)):∃ a vs,v=.ref a/\φ a/\Tup h a vs.toArray/\VDs h φ μ vs ds:=V.inv
theorem VD.irng {a:Int}(V:VD h φ μ v (.rng a b)):∃ r t u w,v=.ref r/\φ r/\gn h r a b 1 t u w:=V.inv
theorem VD.izp {d e:D}{ys:List ab}(V:VD h φ μ v (.zp d e xs ys)):P:=lr V.inv
theorem VDs.inil (V:VDs h φ μ vs []):vs=[]:=V.inv
theorem VDs.icons (V:VDs h φ μ vs (d::ds)):∃ v r,vs=v::r/\VD h φ μ v d/\VDs h φ μ r ds:=V.inv
@[elab_as_elim] theorem VD.mobj {i:Nat}(V:VD h φ μ v (.obj i))(k:∀ a,μ[i]?=some a->motive (.ref a)):motive v:=Eea V.iobj λ a e q=>e▸k a q
@[elab_as_elim] theorem VD.mtup (V:VD h φ μ v (.tup ds))(k:∀ a vs,φ a->Tup h a vs.toArray->VDs h φ μ vs ds->motive (.ref a)):motive v:=Eeeaaa V.itup λ a vs e f t r=>e▸k a vs f t r
@[elab_as_elim] theorem VD.mrng {a:Int}(V:VD h φ μ v (.rng a b))(k:∀ r t u w,φ r->gn h r a b 1 t u w->motive (.ref r)):motive v:=Eeeeeaa V.irng λ r t u w e f q=>e▸k r t u w f q
@[elab_as_elim] theorem VDs.mcons {motive:List af->Prop}(V:VDs h φ μ vs (d::ds))(k:∀ v r,VD h φ μ v d->VDs h φ μ r ds->motive (v::r)):motive vs:=Eeeaa V.icons λ v r e p q=>e▸k v r p q
end
def onP (d:D)(K:ab->Prop):Prop:=@D.casesOn (λ _=>Prop) d K (λ _=>False) (λ _=>False) (λ _=>False) (λ _=>False) (λ _ _=>False) (λ _ _ _ _=>False)
def onI (d:D)(K:Int->Prop):Prop:=onP d λ x=>Is (isInt x) K
def onT (d:D)(K:List ab->Prop):Prop:=onP d λ x=>Is (Ye x) K
noncomputable def asL (x:ab):Option (List ab):=@bC (λ _=>Option (List ab)) x none (λ _=>none) (λ _=>none) (λ _=>none) some (λ _=>none) (λ _=>none)
noncomputable def vg (x:ab):Option Bool:=@bC (λ _=>Option Bool) x none some (λ _=>none) (λ _=>none) (λ _=>none) (λ _=>none) (λ _=>none)
def onL (d:D)(K:List ab->Prop):Prop:=onP d λ x=>Is (asL x) K
def isB (d:D)(K:Bool->Prop):Prop:=onP d λ x=>Is (vg x) K
def onO (d:D)(K:Nat->Prop):Prop:=@D.casesOn (λ _=>Prop) d (λ _=>False) K (λ _=>False) (λ _=>False) (λ _=>False) (λ _ _=>False) (λ _ _ _ _=>False)
theorem Ja (h:isInt x=some i):x=.int i :=
 @bC (λ x=>isInt x=some i->x=.int i) x nn (λ _=>nn) (λ _ e=>congrArg be (so e)) (λ _=>nn) (λ _=>nn) (λ _=>nn) (λ _=>nn) h
theorem YY (h:Ye x=some xs):x=.tuple xs :=
 @bC (λ x=>Ye x=some xs->x=.tuple xs) x nn (λ _=>nn) (λ _=>nn) (λ _=>nn) (λ _=>nn) (λ _ e=>congrArg bE (so e)) (λ _=>nn) h
theorem zFN (h:asL x=some xs):x=.list xs :=
 @bC (λ x=>asL x=some xs->x=.list xs) x nn (λ _=>nn) (λ _=>nn) (λ _=>nn) (λ _ e=>congrArg mQ (so e)) (λ _=>nn) (λ _=>nn) h
theorem zDZ {b:Bool}(h:vg x=some b):x=.bool b :=
 @bC (λ x=>vg x=some b->x=.bool b) x nn (λ _ e=>congrArg rC (so e)) (λ _=>nn) (λ _=>nn) (λ _=>nn) (λ _=>nn) (λ _=>nn) h
theorem zC6 {mo:MO}(h:ZO mo=some xs):mo=.lst xs :=
 @MO.casesOn (λ mo=>ZO mo=some xs->mo=.lst xs) mo (λ _ e=>congrArg MO.lst (so e)) (λ _=>nn) (λ _=>nn) (λ _=>nn) (λ _=>nn) (λ _ _=>nn) nn (λ _=>nn) h
theorem wp (h:isP d=some x):d=.p x :=
 @D.casesOn (λ d=>isP d=some x->d=.p x) d (λ _ e=>congrArg D.p (so e)) (λ _=>nn) (λ _=>nn) (λ _=>nn) (λ _=>nn) (λ _ _=>nn) (λ _ _ _ _=>nn) h
theorem zBg {i:Nat}(h:XJ d=some i):d=.obj i :=
 @D.casesOn (λ d=>XJ d=some i->d=.obj i) d (λ _=>nn) (λ _ e=>congrArg D.obj (so e)) (λ _=>nn) (λ _=>nn) (λ _=>nn) (λ _ _=>nn) (λ _ _ _ _=>nn) h
theorem vc {α:Type}{xs:List α}{p:α×α}(h:YJ xs=some p):xs=[p.1,p.2] :=
 @bA α (λ xs=>YJ xs=some p->xs=[p.1,p.2]) xs nn (λ x r=>@bA α (λ r=>YJ (x::r)=some p->x::r=[p.1,p.2]) r nn λ y r=>@bA α (λ r=>YJ (x::y::r)=some p->x::y::r=[p.1,p.2]) r (λ e=>congrArg (λ q:α×α=>[q.1,q.2]) (so e)) λ _ _=>nn) h
theorem QI {σ:zA}{i:Nat}(h:σ[i]?.bind ZO=some xs):σ[i]?=some (.lst xs):=by
 refine Eea (ob h) λ mo e h=>?_
 (erw [e];erw [zC6 h];rfl)
section
variable {h:aR}{φ:ah->Prop}{μ:List ah}{v:af}{d:D}
theorem yg {K:ab->Prop}(V:VD h φ μ v d)(k:onP d K):∃ x,d=.p x/\VP h φ v x/\K x :=
 @D.casesOn (λ d=>VD h φ μ v d->onP d K->∃ x,d=.p x/\VP h φ v x/\K x) d (λ x V k=>⟨x,rfl,V.ip,k⟩) (λ _ _ k=>k.elim) (λ _ _ k=>k.elim) (λ _ _ k=>k.elim) (λ _ _ k=>k.elim) (λ _ _ _ k=>k.elim) (λ _ _ _ _ _ k=>k.elim) V k
theorem uL {α:Type}{f:ab->Option α}{g:α->ab}{K:α->Prop}(hf:∀ x i,f x=some i->x=g i)(V:VD h φ μ v d)(k:onP d λ x=>Is (f x) K):∃ i,d=.p (g i)/\VP h φ v (g i)/\K i:=by
 refine Eeaa (yg V k) λ x e V k=>?_
 refine Eea k.h λ i e' k=>?_
 exact ⟨i,e.trans (congrArg D.p (hf _ _ e')),hf _ _ e'▸V,k⟩
theorem Zw (V:VD h φ μ v d)(k:onI d K):∃ i t,d=.p (.int i)/\v=.int i t/\K i :=
 Eeaa (uL (g:=.int) (λ _ _=>Ja) V k) λ i e V k=>Ee V.iint λ t q=>⟨i,t,e,q,k⟩
theorem jc {K:List ab->Prop}(V:VD h φ μ v d)(k:onT d K):∃ xs,d=.p (.tuple xs)/\VP h φ v (.tuple xs)/\K xs:=uL (g:=.tuple) (λ _ _=>YY) V k
theorem zB0 {K:List ab->Prop}(V:VD h φ μ v d)(k:onL d K):∃ xs,d=.p (.list xs)/\VP h φ v (.list xs)/\K xs:=uL (g:=.list) (λ _ _=>zFN) V k
theorem j6 {K:Bool->Prop}(V:VD h φ μ v d)(k:isB d K):∃ b,d=.p (.bool b)/\v=.bool b/\K b :=
 Eeaa (uL (g:=.bool) (λ _ _=>zDZ) V k) λ b e V k=>⟨b,e,V.ibool,k⟩
theorem zAV {K:Nat->Prop}(V:VD h φ μ v d)(k:onO d K):∃ i a,d=.obj i/\v=.ref a/\μ[i]?=some a/\K i :=
 @D.casesOn (λ d=>VD h φ μ v d->onO d K->∃ i a,d=.obj i/\v=.ref a/\μ[i]?=some a/\K i) d (λ _ _ k=>k.elim) (λ i V k=>Eea V.iobj λ a e m=>⟨i,a,rfl,e,m,k⟩) (λ _ _ k=>k.elim) (λ _ _ k=>k.elim) (λ _ _ k=>k.elim) (λ _ _ _ k=>k.elim) (λ _ _ _ _ _ k=>k.elim) V k
@[elab_as_elim] theorem Z8 (V:VD h φ μ v d)(k:onI d K)(f:∀ i t,K i->motive (.int i t)):motive v:=Eeeaa (Zw V k) λ i t _ e q=>e▸f i t q
@[elab_as_elim] theorem zF6 {motive:D->af->Prop}(V:VD h φ μ v d)(k:onI d K)(f:∀ i t,K i->motive (.p (.int i)) (.int i t)):motive d v:=Eeeaa (Zw V k) λ i t e' e q=>e▸e'▸f i t q
@[elab_as_elim] theorem zAw {K:Bool->Prop}{motive:D->af->Prop}(V:VD h φ μ v d)(k:isB d K)(f:∀ b,K b->motive (.p (.bool b)) (.bool b)):motive d v:=Eeaa (j6 V k) λ b e' e q=>e▸e'▸f b q
@[elab_as_elim] theorem wW {K:Nat->Prop}(V:VD h φ μ v d)(k:onO d K)(f:∀ i a,μ[i]?=some a->K i->motive (.ref a)):motive v:=Eeeaaa (zAV V k) λ i a _ e m q=>e▸f i a m q
@[elab_as_elim] theorem Xb {K:Nat->Prop}{motive:D->af->Prop}(V:VD h φ μ v d)(k:onO d K)(f:∀ i a,μ[i]?=some a->K i->motive (.obj i) (.ref a)):motive d v:=Eeeaaa (zAV V k) λ i a e' e m q=>e▸e'▸f i a m q
end
end Mine.Internal
namespace Mine.Internal
open PySem PySem.Calls PyProof PyProof.Rows PySem.W
set_option tactic.hygienic false
noncomputable def zI (p:Int×Bool):ab:=.tuple [.str (ag "bit"),.int p.1,.bool p.2]
noncomputable def QF {α:Type}(lt:Nat->Nat->Bool):KasT α->α
 | .ret a=>a
 | .ask i j k=>QF lt (k (lt i j))
noncomputable def okT (n:Nat):KasT (Array Nat)->Bool
 | .ret p=>p.toList.all λ i=>dC i n
 | .ask i j k=>(dC i n&&dC j n)&&(okT n (k true)&&okT n (k false))
noncomputable def ltP (p q:Int×Bool):Bool:=bif decide (p.1=q.1) then (bif p.2 then false else q.2) else decide (p.1<q.1)
noncomputable def atB (l:List (Int×Bool))(i:Nat):Int×Bool:=l.getD i (0,false)
noncomputable def ltB (l:List (Int×Bool))(i j:Nat):Bool:=ltP (atB l i) (atB l j)
noncomputable def vo (l:List (Int×Bool))(p:Array Nat):List (Int×Bool):=p.toList.map (atB l)
noncomputable def ZM (l:List (Int×Bool)):List (Int×Bool):=bif dC l.length 2 then l else vo l (QF (ltB l) (kg l.length))
structure BitsOk (l:List (Int×Bool)):Prop where
 few:l.length<64
 ok:okT l.length (kg l.length)=true
structure TabOk (t:dF)(n:Nat)(b:Bool):Prop where
 size:t.place.size=n
 mask:t.mask=7
 dum:t.dummies=#[]
 led:t.led=!b
 plain:t.plain=true
 up:t.place.toList.Pairwise (·<·)
 n4:n<=4
structure IsSet (prog:bN)(w:cr)(h:aR)(a:ah)(l:List Int):Prop where
 h:∃ o es ep t l',h.get? a=some o/\o.ExactSet/\o.data=.set es ep t/\ElemsOf (intKind prog w) es.toList/\cM (es.toList.map (·.2)) l'/\l'.Perm l/\TabOk t es.size (w.params.followText "set-order")
noncomputable def dd:List Int->List Int
 | []=>[]
 | a::r=>if a∈r then dd r else a::dd r
end Mine.Internal
namespace Mine.Internal
open PySem PySem.Calls PyProof PyProof.Rows PySem.W PySem.SeqAt
set_option tactic.hygienic false
variable {xs:Array Nat}{i k j n ep:Nat}{b:Bool}{es:Array (Int×af)}{x y slot:Int}{prog:bN}{w:cr}{h':aR}{vs:List af}{it:ah}
abbrev Up (xs:Array Nat):Prop:=xs.toList.Pairwise (·<·)
theorem uQ {d:Nat}(h:Up xs)(E1:i<k)(hk:k<xs.size):xs.getD i d<xs.getD k d:=by
 have h1:i<xs.size:=gW E1 hk
 have:=lG.mp h i k (by simpa using h1) (by simpa using hk) E1
 simpa [f6,h1,hk] using this
theorem mid {lo hi:Nat}(h:lo<hi):lo<=(lo + hi) / 2/\(lo + hi) / 2<hi:=by omega
theorem zBi (h:Up xs)(f:Nat):∀ (lo hi:Nat),hi<=lo + f->lo<=hi->hi<=xs.size->(∀ k,k<lo->xs.getD k j<j)->(∀ k,hi<=k->k<xs.size->¬ xs.getD k j<j) ->
  dY xs j f lo hi<=xs.size/\(∀ k,k<dY xs j f lo hi->xs.getD k j<j)/\(∀ k,dY xs j f lo hi<=k->k<xs.size->¬ xs.getD k j<j):=by
 induction f with
 | zero =>
  intro lo hi hf hl hh h1 h2
  cases bl hl hf
  exact ⟨hh,h1,h2⟩
 | succ f ih =>
  intro lo hi hf hl hh h1 h2
  have e:dY xs j (f + 1) lo hi=if lo<hi then if xs.getD ((lo + hi) / 2) j<j then dY xs j f ((lo + hi) / 2 + 1) hi else dY xs j f lo ((lo + hi) / 2) else lo:=rfl
  erw [e]
  by_cases s3:lo<hi
  ·refine Ea (mid s3) λ m1 m2=>?_
   erw [if_pos s3]
   generalize (lo + hi) / 2=m at m1 m2
   by_cases hm:xs.getD m j<j
   ·erw [if_pos hm]
    refine ih _ hi (lin [_,_,_,_] [] (.v 0) (.a (.a (.v 1) (.k 1)) (.v 2)) [(1,.l (.v 0) (.a (.v 3) (.a (.v 2) (.k 1)))),(1,.l (.v 3) (.v 1))] tT9 hf m1) m2 hh (λ k hk=>?_) h2
    rcases eY (fi hk) with q | q
    ·exact gW (uQ h q (cw m2 hh)) hm
    ·erw [q];exact hm
   ·erw [if_neg hm]
    refine ih lo _ (lin [_,_,_,_] [] (.v 0) (.a (.v 1) (.v 2)) [(1,.l (.v 3) (.a (.v 1) (.a (.v 2) (.k 1)))),(1,.l (.a (.v 0) (.k 1)) (.v 3))] tT9 hf m2) m1 (ae (ey m2) hh) h1 (λ k hk Ac=>?_)
    rcases eY hk with q | q
    ·intro c;exact hm (gW (uQ h q Ac) c)
    ·refine rwS q ?_;exact hm
  ·erw [if_neg s3]
   cases bl hl (bk s3)
   exact ⟨hh,h1,h2⟩
theorem qu (h:Up xs):a8 xs j<=xs.size/\(∀ k,k<a8 xs j->xs.getD k j<j)/\(∀ k,a8 xs j<=k->k<xs.size->¬ xs.getD k j<j) :=
 zBi h xs.size 0 xs.size (eT _ _) (bO _) (bn _) (λ _ h=>absurd h (kX _)) λ k h1 h2=>absurd h2 (f7.mpr h1)
theorem vx (h:Up xs)(hk:k<xs.size):a8 xs (xs[k] + 1)=k + 1:=by
 refine Eaa (qu (j:=xs[k] + 1) h) λ h1 h2 h3=>?_
 have ek:xs.getD k (xs[k] + 1)=xs[k]:=by simp [f6,hk]
 rcases fj (a8 xs (xs[k] + 1)) (k + 1) with q | q | q
 ·exact absurd (by erw [ek];exact aZ _) (h3 k (fi q) hk)
 ·exact q
 ·have s3:k + 1<xs.size:=by exact lin [k,xs.size,a8 xs (xs[k] + 1)] [] (.a (.a (.v 0) (.k 1)) (.k 1)) (.v 1) [(1,.l (.v 2) (.v 1)),(1,.l (.a (.a (.v 0) (.k 1)) (.k 1)) (.v 2))] tT9 h1 q
  have h4:=h2 (k + 1) q
  have h5:=uQ (d:=xs[k] + 1) h (aZ k) s3
  rw [ek] at h5;exact absurd h4 (f7.mpr h5)
theorem zCL (h:Up xs):a8 xs 0=0:=by
 refine Eaa (qu (j:=0) h) λ h1 h2 h3=>?_
 cases e:a8 xs 0 with
 | zero=>rfl
 | succ n=>rw [e] at h2;exact absurd (h2 0 (kG _)) (kX _)
theorem XF (h:Up xs):cT xs j=true ↔ j∈xs.toList:=by
 refine Eaa (qu (j:=j) h) λ h1 h2 h3=>?_
 unfold cT
 constructor
 ·intro e
  have e:=eq_of_beq e
  refine Ee (Array.getElem?_eq_some_iff.mp e) λ hk e=>?_
  refine rwS e ?_;simp
 ·intro m
  (refine Ee (iR m) λ k tM=>?_;refine Ee tM λ hk e=>?_)
  have Ac:k<xs.size:=by simpa using hk
  have ek:xs.getD k j=j:=by simp [f6,Ac];simpa using e
  have AM:a8 xs j<=k:=f7.mp λ q=>by have:=h2 k q;rw [ek] at this;exact fM _ this
  have Dn:k=a8 xs j:=by
   rcases eY AM with q | q
   ·have h4:=h3 _ (bn _) (gW q Ac)
    have h5:=uQ (d:=j) h q Ac
    rw [ek] at h5;exact absurd h5 h4
   ·exact q.symm
  (refine rwS Dn ?_;erw [bV Ac])
  have e':xs[k]=j:=by simpa using e
  erw [e'];exact beq_self_eq_true _
theorem Wv (h:Up xs)(hj:j∉xs.toList):Up (bT xs (a8 xs j) j):=by
 refine Eaa (qu (j:=j) h) λ h1 h2 h3=>?_
 show (bT xs _ j).toList.Pairwise _
 erw [lK]
 have ht:∀ x,x∈xs.toList.take (a8 xs j)->x<j:=λ x m=>by
  (refine Ee (iR m) λ k Aw=>?_;refine Ee Aw λ hk e=>?_)
  rw [gI,bG] at hk
  have Ac:k<xs.size:=cw hk (dG _ _)
  have:=h2 k (cw hk (hU _ _))
  rw [List.getElem_take] at e
  have ek:xs.getD k j=x:=by simp [f6,Ac];simpa using e
  rwa [ek] at this
 have hd:∀ x,x∈xs.toList.drop (a8 xs j)->j<x:=λ x m=>by
  (refine Ee (iR m) λ k Ch=>?_;refine Ee Ch λ hk e=>?_)
  rw [List.length_drop,bG] at hk
  have Ac:a8 xs j + k<xs.size:=by erw [fk];exact Nat.add_lt_of_lt_sub hk
  have:=h3 (a8 xs j + k) (aH _ _) Ac
  rw [List.getElem_drop] at e
  have ek:xs.getD (a8 xs j + k) j=x:=by simp [f6,Ac];simpa using e
  rw [ek] at this
  have hx:x∈xs.toList:=List.mem_of_mem_drop m
  rcases fj x j with q | q | q
  ·exact absurd q this
  ·exact absurd (q▸hx) hj
  ·exact q
 refine di.mpr ⟨h.sublist (gp ..),b9.mpr ⟨hd,h.sublist (List.drop_sublist ..)⟩,λ a ha b hb=>?_⟩
 rcases aJ.mp hb with rfl | hb
 ·exact ht a ha
 ·exact gW (ht a ha) (hd b hb)
noncomputable def orb:Nat->Nat×Nat->Nat×Nat
 | 0,p=>p
 | k + 1,p=>orb k ((p.1 * 5 + 1 + p.2 / 32) % 8,p.2 / 32)
theorem zBo (a b:Nat):∀ p,orb (a + b) p=orb b (orb a p):=by
 induction a with
 | zero=>intro p;erw [fV];rfl
 | succ a ih=>intro p;erw [Nat.succ_add];exact ih _
theorem xp:∀ (k:Nat) (p:Nat×Nat),(orb k p).2=p.2 / 32 ^ k
 | 0,p=>by show p.2=_;(erw [Nat.pow_zero];erw [Nat.div_one];rfl)
 | k + 1,p=>by
  show (orb k _).2=_
  (rewrite [xp k];erw [Nat.div_div_eq_div_mul])
  congr 1
  (erw [Nat.pow_succ];erw [Nat.mul_comm];rfl)
theorem zDJ (k:Nat)(p:Nat×Nat):(orb (k + 1) p).1<8:=by
 induction k generalizing p with
 | zero=>exact nJ _ (by decide)
 | succ k ih=>exact ih _
theorem zBB:∀ a,a<8->∀ r,r<8->∃ m,m<8/\(orb m (a,0)).1=r:=by
 unfold orb
 decide
theorem zBr {t:dF}(hd:t.dummies=#[])(j:Nat):(cT t.place j=true/\∃ i,t.slot j=.live i)∨(cT t.place j=false/\t.slot j=.empty):=by
 have h0:cT t.dummies j=false:=by erw [hd];rfl
 unfold SetTable.slot
 dsimp only
 cases e:cT t.place j with
 | true =>
  refine .inl ⟨rfl,a8 t.place j,?_⟩
  unfold cT at e
  erw [e];rfl
 | false =>
  refine .inr ⟨rfl,?_⟩
  unfold cT at e
  (erw [e];erw [h0]);rfl
theorem vq {t:dF}{h:Int}(hd:t.dummies=#[])(hm:t.mask=7):∀ (f:Nat) (p:SetTable.Probe),p.more=0->p.j=p.i->p.dummy=none ->
  (∃ j,kh t (λ _=>h + 1) h f p=some (.empty j none)/\cT t.place j=false)∨∀ k,k<f->cT t.place (orb k (p.i,p.perturb)).1=true:=by
 intro f
 induction f with
 | zero=>exact λ p _ _ _=>.inr λ k hk=>absurd hk (kX _)
 | succ f ih =>
  intro p h1 h2 h3
  unfold kh
  rcases zBr hd p.j with ⟨ha,i,hs⟩ | ⟨ha,hs⟩
  ·erw [hs]
   have tq:(h + 1==h)=false:=beq_eq_false_iff_ne.mpr (cN (aV _))
   dsimp only
   erw [tq]
   have ea:t.advance p={j:=(p.i * 5 + 1 + p.perturb / 32) % 8,more:=0,i:=(p.i * 5 + 1 + p.perturb / 32) % 8,perturb:=p.perturb / 32,dummy:=none}:=by
    unfold SetTable.advance
    (erw [h1];erw [if_neg (by decide)];erw [hm];erw [h3])
    show rT _ _ _ _ _=_
    have:hY 7 ((p.i * 5 + 1 + p.perturb / 32) % (7 + 1)) - (p.i * 5 + 1 + p.perturb / 32) % (7 + 1)=0:=by
     unfold hY
     erw [if_neg (by exact oP (eT _ _))];exact ki _
    (erw [this];rfl)
   show (∃ j,kh t (λ _=>h + 1) h f (t.advance p)=_/\_)∨_
   erw [ea]
   rcases ih {j:=(p.i * 5 + 1 + p.perturb / 32) % 8,more:=0,i:=(p.i * 5 + 1 + p.perturb / 32) % 8,perturb:=p.perturb / 32,dummy:=none} rfl rfl rfl with q | q
   ·exact .inl q
   ·refine .inr λ k hk=>?_
    cases k with
    | zero=>rw [h2] at ha;exact ha
    | succ k=>exact q k (Nat.lt_of_succ_lt_succ hk)
  ·erw [hs]
   refine .inl ⟨p.j,?_,ha⟩
   dsimp only
   (erw [h3];rfl)
theorem vW {t:dF}{h:Int}(hu:Up t.place)(hd:t.dummies=#[])(hm:t.mask=7)(hn:t.place.size<=7):∃ j,t.freeSlot h=some (j,false)/\j∉t.place.toList:=by
 unfold SetTable.freeSlot SetTable.probe
 have hi:bM h % (t.mask + 1)<8:=by erw [hm];exact nJ _ (by decide)
 have hs:t.probeStart h={j:=bM h % (t.mask + 1),more:=0,i:=bM h % (t.mask + 1),perturb:=bM h,dummy:=none}:=by
  unfold SetTable.probeStart
  dsimp only
  have:hY t.mask (bM h % (t.mask + 1)) - bM h % (t.mask + 1)=0:=by
   unfold hY
   rw [hm] at hi ⊢
   erw [if_neg (by exact oP (eT _ _))];exact ki _
  (erw [this];rfl)
 erw [hs]
 rcases vq (h:=h) hd hm (10 * pr t.mask) {j:=bM h % (t.mask + 1),more:=0,i:=bM h % (t.mask + 1),perturb:=bM h,dummy:=none} rfl rfl rfl with ⟨j,e,hj⟩ | q
 ·erw [e]
  refine ⟨j,rfl,λ m=>?_⟩
  rw [(XF hu).mpr m] at hj
  exact bd hj
 ·exfalso
  have hf:10 * pr t.mask=220:=by erw [hm];rfl
  rw [hf] at q
  have B5:∀ r,r<8->r∈t.place.toList:=λ r hr=>by
   have h0:(orb 13 (bM h % (t.mask + 1),bM h)).2=0:=by
    erw [xp]
    apply Nat.div_eq_of_lt
    show (h % (2 ^ 64:Int)).toNat<_
    exact (Int.toNat_lt (Int.emod_nonneg _ (by decide))).mpr (ml (Int.emod_lt_of_pos _ (by decide)) (by decide))
   refine Eea (zBB _ (zDJ 12 (bM h % (t.mask + 1),bM h)) r hr) λ m hm e=>?_
   have:=q (13 + m) (lin [_] [] (.a (.a (.k 13) (.v 0)) (.k 1)) (.k 220) [(1,.l (.a (.v 0) (.k 1)) (.k 8))] tT9 hm)
   rw [zBo] at this
   have e2:orb 13 (bM h % (t.mask + 1),bM h)=((orb 13 (bM h % (t.mask + 1),bM h)).1,0):=pv rfl h0
   rw [e2,e] at this
   exact (XF hu).mp this
  have t8:(gX 8).length<=t.place.toList.length:=rU List.nodup_range λ r m=>B5 r (iw.mp m)
  rw [gr,bG] at t8
  exact liF [_] [] [(1,.l (.v 0) (.k 7)),(1,.l (.k 8) (.v 0))] tT9 hn t8
theorem TabOk.fits {t:dF}(h:TabOk t n b):t.fits n=true:=by
 have h4:=h.n4
 unfold SetTable.fits pW
 (erw [h.size];erw [h.mask];erw [h.dum])
 simp;exact ae h4 (nB9 rfl)
theorem qU {α:Type}(xs:Array α)(p:Nat)(x:α):(bT xs p x).size=xs.size + 1:=by
 have:=(mw xs p x).length_eq
 simpa using this
theorem zCJ {t:dF}{h:Int}{x:af}(T:TabOk t es.size b)(h3:es.size<=3):∃ p t',layNew t es h x=(bT es p (h,x),t',false,false)/\TabOk t' (bT es p (h,x)).size b/\t'.tooFull=false:=by
 refine Eea (vW (h:=h) T.up T.dum T.mask (by erw [T.size];exact ae h3 (nB9 rfl))) λ j hj hn=>?_
 have T':TabOk {t with place:=bT t.place (a8 t.place j) j} (es.size + 1) b:=⟨by (erw [qU];erw [T.size];rfl),T.mask,T.dum,T.led,T.plain,Wv T.up hn,dH h3⟩
 refine ⟨a8 t.place j,{t with place:=bT t.place (a8 t.place j) j},?_,by erw [qU];exact T',?_⟩
 ·unfold layNew
  erw [hj]
  have hp:t.put j=({t with place:=bT t.place (a8 t.place j) j},a8 t.place j):=by
   unfold SetTable.put
   dsimp only
   have h0:cT t.dummies j=false:=by erw [T.dum];rfl
   erw [h0];rfl
  dsimp only
  erw [hp]
  dsimp only
  have hf:=T'.fits
  rw [<- qU es (a8 t.place j) (h,x)] at hf
  unfold SetTable.orStandIn
  (erw [if_pos hf];erw [hf]);rfl
 ·unfold SetTable.tooFull pW
  dsimp only
  (erw [qU];erw [T.size];erw [T.dum];erw [T.mask])
  simp;omega
noncomputable def Zz (l:List Int)(x:Int):List Int:=if x∈l then l else x::l
section
variable {prog:bN}{w:cr}{A:aM}{E:af->ao->Prop}{s:ao}
theorem UA {es:List (Int×af)}{l:List Int}(h:cM (es.map (·.2)) l)(x:Int):(∃ e,e∈es/\kN x e.2=true) ↔ x∈l:=by
 induction es generalizing l with
 | nil=>cases h;simp
 | cons e es ih =>
  rw [aY] at h
  generalize hv:e.2=v at h
  cases h with
  | cons n t hr =>
   have ih:=ih hr
   constructor
   ·rintro ⟨e',m,q⟩
    rcases aJ.mp m with rfl | m
    ·rw [hv] at q
     refine Ee (n9 q) λ t' e=>?_
     (injection e with y2y0;subst y2y0);exact .head _
    ·exact .tail _ (ih.mp ⟨e',m,q⟩)
   ·intro m
    rcases aJ.mp m with rfl | m
    ·exact ⟨e,.head _,by erw [hv];exact beq_self_eq_true _⟩
    ·refine Eea (ih.mpr m) λ e' m' q=>?_
     exact ⟨e',.tail _ m',q⟩
theorem Uz {l:List Int}(h:cM (es.toList.map (·.2)) l)(p:Nat)(x:Int)(t:iv)(k:Int):∃ l',cM ((bT es p (k,.int x t)).toList.map (·.2)) l'/\l'.Perm (x::l):=by
 (erw [lK];erw [aT];erw [aY];erw [pX];erw [List.map_drop])
 have:∀ {vs:List af} {l:List Int} (p:Nat),cM vs l->cM (vs.take p++.int x t::vs.drop p) (l.take p++x::l.drop p):=λ {vs l} p h=>by
  induction h generalizing p with
  | nil=>simp;exact .cons x t .nil
  | cons n u hr ih=>cases p with
   | zero=>exact .cons x t (.cons n u hr)
   | succ p=>exact .cons n u (ih p)
 refine ⟨_,this p h,oQ.trans (.cons _ ?_)⟩
 (erw [il];rfl)
theorem zBU {a:ah}{l:List Int}{t:iv}{Q:Bool->ao->Prop}(X:IsSet prog w s.heap a l)(h4:(Zz l x).length<=4)
  (h:∀ h' b,cn a s.heap h'->IsSet prog w h' a (Zz l x)->Q b {s with heap:=h'}):wpAny (model prog w) A (setAddHashed a (.int x t) (gu x)) Q E s:=by
 obtain ⟨o,es,ep,tb,l',ho,GN,hd,AR,hI,hp,T⟩:=X.h
 have AT:(intKind prog w).is x (.int x t)=true:=intKind_is _ _ _ _
 have hb:es.size<scanBound:=cg T.n4 (by decide)
 have hlen:es.size=l.length:=by have:=hI.length;rw [aj,bG] at this;erw [this];exact hp.length_eq
 unfold setAddHashed setAddHashedIn
 refine aQ (aa (gv ho hd T.fits ?_))
 dsimp only
 erw [byScan_of (knd:=intKind prog w) rfl hb AR]
 simp only [↓reduceIte]
 unfold setAddByScan
 refine aa ?_
 refine aa (fF ?_)
 refine aa (wpAny_setScan_of (knd:=intKind prog w) AT ho hd T.fits AR ?_)
 cases hr:List.findIdx? (λ e=>(intKind prog w).is x e.2) es.toList with
 | some j =>
  dsimp only
  refine Eea (List.findIdx?_eq_some_iff_getElem.mp hr) λ hj KH _=>?_
  have hm:x∈l:=hp.mem_iff.mp ((UA hI x).mp ⟨es.toList[j],fG hj,KH⟩)
  have e:Zz l x=l:=if_pos hm
  refine am (am ?_)
  have:=h s.heap false (rV a s.heap)
  rw [e] at this
  exact this X
 | none =>
  dsimp only
  have hm:x∉l:=λ m=>by
   refine Eea ((UA hI x).mpr (hp.mem_iff.mpr m)) λ e he hi=>?_
   have:=List.findIdx?_eq_none_iff.mp hr e he
   rw [show (intKind prog w).is x e.2=kN x e.2 from rfl,hi] at this
   exact bd this
  have e:Zz l x=x::l:=if_neg hm
  rw [e] at h h4
  refine Eeeaa (zCJ (h:=gu x) (x:=.int x t) T (by erw [hlen];exact gY h4)) λ p t' hL T' Eu=>?_
  have hh:(intKind prog w).hash x=gu x:=rfl
  erw [hL]
  dsimp only
  refine aa (am ?_)
  erw [T'.plain]
  simp only [↓reduceIte]
  refine aa ?_
  erw [hashByValue_scannable 8 (x:=.int x t) rfl]
  refine am ?_
  simp only [plainKind,↓reduceIte]
  refine aa (wpAny_storeSet_of ho hd ?_ (fits_of_scanBound (cg T'.n4 (by decide))))
  erw [Eu]
  simp only [f8,ch,↓reduceIte]
  refine am ?_
  dsimp only
  refine am (h _ true (cu s.heap a _) ?_)
  have hg:(s.heap.update a (rJ (bT es p (gu x,.int x t)) t')).get? a=some {o with data:=.set (bT es p (gu x,.int x t)) (ep + 1) t'}:=by
   have:=cI (rJ (bT es p (gu x,.int x t)) t') ho (by erw [putSet_of _ t' hd];rfl)
   rw [putSet_of _ t' hd] at this;exact this
  refine Eea (Uz hI p x t (gu x)) λ l2 GG BP=>?_
  refine ⟨_,_,_,t',l2,hg,GN,rfl,(AR.push (k:=x) AT rfl).perm ?_,GG,BP.trans (hp.cons x),T'⟩
  have:=mw es p (gu x,rN x t)
  rwa [gw] at this
end
set_option tactic.hygienic true
theorem IsSet.perm {h:aR}{a:ah}{l l':List Int}(x:IsSet prog w h a l)(p:l.Perm l'):IsSet prog w h a l' :=
 by obtain ⟨o,es,ep,t,m,h1,h2,h3,h4,h5,h6,h7⟩:=x.h;exact ⟨o,es,ep,t,m,h1,h2,h3,h4,h5,h6.trans p,h7⟩
theorem IsSet.at {h:aR}{a:ah}{l:List Int}(x:IsSet prog w h a l)(e:∀ o,h.get? a=some o->h'.get? a=some o):IsSet prog w h' a l :=
 by (refine Ee (x.h) λ o tM=>?_;refine Eeeeea tM λ es ep t m h1 r=>?_);exact ⟨o,es,ep,t,m,e o h1,r⟩
theorem zCv (l:List Int)(x:Int):(Zz l x).length<=l.length + 1:=by
 unfold Zz;split
 ·exact dj _
 ·exact bn _
theorem zCC {l:List Int}:y∈Zz l x ↔ y=x∨y∈l:=by
 unfold Zz;split
 ·rename_i h
  exact ⟨.inr,λ q=>q.elim (λ e=>e▸h) id⟩
 ·exact aJ
theorem VL {l:List Int}:∀ {acc:List Int} {y:Int},y∈l.foldl Zz acc ↔ y∈l∨y∈acc:=by
 induction l with
 | nil=>intro acc y;simp
 | cons a r ih =>
  intro acc y
  (erw [List.foldl_cons];rewrite [ih];rewrite [zCC];rewrite [aJ])
  constructor
  ·rintro (h | h | h) <;> simp [h]
  ·rintro ((h | h) | h) <;> simp [h]
theorem w8 {l:List Int}(h:l.Nodup):(Zz l x).Nodup:=by
 unfold Zz;split
 ·exact h
 ·rename_i q;exact cG.mpr ⟨q,h⟩
theorem XW {l:List Int}:∀ {acc:List Int},acc.Nodup->(l.foldl Zz acc).Nodup:=by
 induction l with
 | nil=>exact λ h=>h
 | cons a r ih=>exact λ h=>ih (w8 h)
theorem mem_dd :∀ {l:List Int},y∈dd l ↔ y∈l
 | []=>Iff.rfl
 | a::r=>by
  unfold dd;split
  ·rename_i h
   rw [mem_dd (l:=r),aJ]
   exact ⟨.inr,λ q=>q.elim (λ e=>e▸h) id⟩
  ·rw [aJ,mem_dd (l:=r),aJ]
theorem jG:∀ {l:List Int},(dd l).Nodup
 | []=>f9
 | a::r=>by
  unfold dd;split
  ·exact jG
  ·rename_i h
   exact cG.mpr ⟨λ m=>h (mem_dd.mp m),jG⟩
theorem zCz (l:List Int):(l.foldl Zz []).Perm (dd l):=by
 refine (List.perm_ext_iff_of_nodup (XW f9) jG).mpr λ y=>?_
 rw [VL,mem_dd];simp
section
variable {prog:bN}{w:cr}{A:aM}{R:ls->ao->Prop}{I:ah}{fp wr:List ah}{G:Array GenState->Array GenState->Prop}{n:Nat}{P:Nat->af->Prop}{St:Nat->ao->Prop}
theorem VM (W:WalksS prog w A.in1 I fp wr G n P St)(S:ah)(FC:S∉fp)(l:List Int)(hl:l.length=n)(DL:∀ i v,P i v->∃ t,v=.int (l.getD i 0) t)(h4:n<=4) :
  ∀ (k i:Nat) (s:ao) (acc:List Int),i + k=n->St i s->IsSet prog w s.heap S acc->acc.length<=i ->
   (∀ s',Moved (S::wr) G s s'->IsSet prog w s'.heap S ((l.drop i).foldl Zz acc)->R (.ok (.ret .none)) s') ->
   dZ (model prog w) A (.builtin "set.update.loop" ⟨[.ref S,.ref I],[]⟩) R s:=by
 have H1:S∉wr:=λ h=>FC (W.sub _ h)
 have t8:∀ b∈wr,b∈S::wr:=λ b hb=>bU _ hb
 intro k
 induction k with
 | zero =>
  intro i s acc hk tu hS ha hR
  have hk:i=n:=hk
  subst hk
  refine eU lU ?_
  erw [ef gJ _]
  show wpAny _ A.in1 (eZ (.ref I) >>= _) _ _ s
  refine aa (W.done s _ _ tu λ s' hm=>?_)
  show wpAny _ A.in1 (ret dw) _ _ s'
  refine am (hR s' (hm.mono t8) ?_)
  erw [List.drop_of_length_le (dk hl)]
  exact hS.at λ o ho=>hm.heap S _ H1 ho
 | succ k ih =>
  intro i s acc hk tu hS ha hR
  have s3:i<n:=hk▸Nat.lt_add_of_pos_right (kG k)
  refine eU lU ?_
  erw [ef gJ _]
  show wpAny _ A.in1 (eZ (.ref I) >>= _) _ _ s
  refine aa (W.item i s _ _ s3 tu λ v s' hP BV hm=>?_)
  (refine Ee (DL i v hP) λ t BQ=>?_;obtain rfl:=BQ)
  have Hg:IsSet prog w s'.heap S acc:=hS.at λ o ho=>hm.heap S _ H1 ho
  show wpAny _ A.in1 (cR [rN (l.getD i 0) t] (setAdd S (.int (l.getD i 0) t)) >>= _) _ _ s'
  refine aa (aQ ?_)
  unfold setAdd
  refine aQ ?_
  refine aa (oR ?_)
  have hlen:=zCv acc (l.getD i 0)
  refine zBU (s:={s' with toks:=s'.toks + 1}) Hg (lin [_,_,_,_] [] (.v 0) (.k 4) [(1,.l (.v 1) (.k 4)),(1,.l (.v 2) (.v 3)),(1,.l (.a (.v 3) (.k 1)) (.v 1)),(1,.l (.v 0) (.a (.v 2) (.k 1)))] tT9 h4 ha s3 hlen) λ h' b HJ FD=>?_
  refine am ⟨iV gJ _,ih (i + 1) _ (Zz acc (l.getD i 0)) (by (refine rwS hk ?_;erw [gC];rewrite [fk 1];rfl)) (W.frame _ s' _ _ BV (dj _) λ b hb o e=>?_) FD (lin [_,_,_] [] (.v 0) (.a (.v 1) (.k 1)) [(1,.l (.v 2) (.v 1)),(1,.l (.v 0) (.a (.v 2) (.k 1)))] tT9 ha hlen) λ tz CO He=>?_⟩
  ·rw [HJ.2 b (λ h:b=S=>FC (by rw [<- h];exact hb))];exact e
  ·have hd:l.drop i=l.getD i 0::l.drop (i + 1):=by
    have:i<l.length:=hl▸s3
    (erw [eK this];erw [aA];erw [aw this]);rfl
   refine hR tz (Moved.trans W.gtrans ((hm.mono t8).then_heap (dj _) λ b o hb e=>?_) CO) (by erw [hd];exact He)
   rw [HJ.2 b (λ h:b=S=>hb (by rw [h];exact cY))];exact e
end
section
variable {prog:bN}{w:cr}{A:aM}{E:af->ao->Prop}{s:ao}
noncomputable def QE (w:cr):eV:={cls:=.type "set",dict:=none,data:=.set #[] 0 (.fresh 0 0 (!(w.params.followText "set-order")))}
theorem zCt (a:af){Q₁:af->ao->Prop}(h:Q₁ (.ref s.heap.objs.size) {s with heap:=s.heap.push (QE w)}) :
  dZ (model prog w) A (.call (.builtin "set.__new__") ⟨[.type "set",a],[]⟩) (wants Q₁ E) s:=by
 refine kY ?_
 show wpAny _ A.in1 (do checkBuiltinCall "set.__new__" ⟨[.type "set",a],[]⟩;again (.builtin "set.__new__" ⟨[.type "set",a],[]⟩)) _ _ s
 refine aa (gx (F.newCall_set_1 a) (am ⟨iV pe _,eU F.entry_set_new ?_⟩))
 erw [ef pe _]
 unfold cH.«set.__new__» rW
 have t8:=sub_set_self
 obtain ⟨hp,g,d,tk,os⟩:=s
 dsimp only
 wp_walk
 refine dI (am ?_)
 dsimp only
 simp only [newObj]
 refine aa (wpAny_alloc (am ?_))
 exact am h
theorem Vs {h:aR}{a:ah}(e:h.get? a=some (QE w)):IsSet prog w h a [] :=
 ⟨_,#[],0,_,[],e,⟨rfl,rfl,rfl⟩,rfl,λ e he=>by simp at he,.nil,.refl _,⟨rfl,rfl,rfl,rfl,rfl,.nil,bO _⟩⟩
end
section
variable {prog:bN}{w:cr}{A:aM}{E:af->ao->Prop}{s:ao}
set_option maxHeartbeats 3200000 in
theorem wu {v:af}{Q:af->ao->Prop}
  (hi:wpAny (model prog w) A.in1.in1 (cH.«set.__init__» ⟨[.ref s.heap.objs.size,v],[]⟩) (λ fin s'=>match fin with | .done f=>wants (λ r sP=>r=.none/\Q (.ref s.heap.objs.size) sP) E (.ok f) s' | .again c'=>c'.quiet=true/\dZ (model prog w) A.in1 c' (wants (λ r sP=>r=.none/\Q (.ref s.heap.objs.size) sP) E) s')
   (λ e s'=>wants (λ r sP=>r=.none/\Q (.ref s.heap.objs.size) sP) E (.error e) s') {s with heap:=s.heap.push (QE w)}):wpAny (model prog w) A (call (.type "set") [v]) Q E s:=by
 refine Eee (ez.mro) λ c tl IX=>?_
 have z':=ez.made
 have t8:=ez.sub
 refine nK (kY ?_)
 show wpAny _ _ (callAny (.type "set") _) _ _ _
 refine am ⟨Code.quiet_builtin _ (by decide +kernel),eU F.entry_type_call ?_⟩
 erw [Around.under_plain (weight_type_call_type "set" [v] []) rfl]
 have h1:=ez.notType
 have h2:=ez.canCreate
 have Ll:=F.typeCall_set_1 v
 repeat (any_goals (first | assumption | wp_step))
 refine fm (zCt (w:=w) v (E:=E) (Q₁:=λ obj sM=>obj=.ref s.heap.objs.size/\sM={s with heap:=s.heap.push (QE w)}) ⟨rfl,rfl⟩) λ r sM hr=>?_
 cases r with
 | error e=>exact hr
 | ok fl =>
  cases fl with
  | ret obj =>
   (refine Ea (hr) λ BQ=>?_;try clear hr;obtain rfl:=BQ;intro Ao;obtain rfl:=Ao)
   have hT:Shared.TypeIs {s with heap:=s.heap.push (QE w)} (.ref s.heap.objs.size) "set":=⟨_,aI _ rfl,rfl⟩
   have Ew:=ez.init.lookup
   have Li:=ez.init.bind (.ref s.heap.objs.size)
   repeat (any_goals (first | assumption | wp_step))
   refine fm (codeAny_call_builtin ez.init.plain F.entry_set_init (check_set_init_1 hT hi)) λ GX sP Bx=>?_
   cases GX with
   | error e=>exact Bx
   | ok Fn =>
    cases Fn with
    | ret r =>
     (refine Ea (Bx) λ Bu=>?_;try clear Bx;obtain rfl:=Bu;intro hq)
     repeat (any_goals (first | assumption | wp_step))
    | _=>exact Bx.elim
  | _=>exact hr.elim
theorem Vt {S a:ah}{l:List Int}{R:Fin->ao->Prop}(hS:s.heap.get? S=some (QE w))(hh:A.handled=none)(hl:s.heap.IsList a vs.toArray)(Gh:a≠S)(hI:cM vs l)(h4:l.length<=4)
  (h:∀ h' tk,(∀ b o,b≠S->s.heap.get? b=some o->h'.get? b=some o)->IsSet prog w h' S (dd l)->R (.done (.ret .none)) {s with heap:=h',toks:=tk}):wpAny (model prog w) A (cH.«set.__init__» ⟨[.ref S,.ref a],[]⟩) R E s:=by
 have hlen:=hI.length
 obtain ⟨ol,El,Ar,nl,CD⟩:=hl
 obtain ⟨I4,Ib,Ia,GW⟩:=ol
 simp only at Ar CD
 subst Ar;subst CD
 have Iz:=F.sub_list_set
 have KD:=F.sub_list_frozenset
 have tq:(rK "list"==rK "dict")=false:=by decide
 have x7:s.heap.IsList a vs.toArray:=⟨_,El,rfl,nl,rfl⟩
 have s3:=a7 El
 unfold cH.«set.__init__» noKeywords rX
 generalize ID:gD=PI
 wp_walk
 subst ID
 refine dm x7 ?_
 refine aa (wpAny_runValue ?_)
 have FC:S∉[s.heap.objs.size,a]:=by
  simp only [aJ,eA,or_false,not_or]
  exact ⟨aF (a7 hS),Gh.symm⟩
 have DL:∀ (i:Nat) (v:af),vs.toArray[i]?=some v->∃ t,v=.int (l.getD i 0) t:=λ i v hv =>
  rY hI i v (by simpa using hv)
 have Bf:vs.toArray.size=l.length:=by erw [aK];exact hlen
 refine VM ((rL (show A.in1.handled=none from hh) _ a (aF s3) vs.toArray).toS) S FC l Bf.symm DL (by erw [Bf];exact h4) vs.toArray.size 0 _ [] (fV _)
  ⟨⟨_,aI _ rfl,rfl,rfl⟩,(x7.push _)⟩ (Vs (aq _ hS)) (bn _) λ s' hm Hg=>?_
 obtain ⟨h',g',d',A9,I7⟩:=s'
 obtain rfl:=(hm.gens:g'=s.gens);obtain rfl:=(hm.drawn:d'=s.drawn);obtain rfl:=(hm.os:I7=s.os)
 show wpAny _ _ _ _ _ _
 refine am ?_
 show wpAny _ _ (ret dw) _ _ _
 refine am (h h' A9 (λ b o hb e=>?_) (Hg.perm (zCz l)))
 exact hm.heap b o (by simp only [aJ,eA,or_false,not_or];exact ⟨hb,aF (a7 e)⟩) (aq _ e)
theorem zA6 {a:ah}{l:List Int}{Q:af->ao->Prop}(hh:A.handled=none)(hl:s.heap.IsList a vs.toArray)(hI:cM vs l)(h4:l.length<=4)
  (h:∀ D h' tk,(∀ b o,s.heap.get? b=some o->h'.get? b=some o)->s.heap.get? D=none->IsSet prog w h' D (dd l)->Q (.ref D) {s with heap:=h',toks:=tk}):wpAny (model prog w) A (call (.type "set") [.ref a]) Q E s:=by
 have Gh:a<s.heap.objs.size:=let ⟨_,ho,_⟩:=hl;a7 ho
 refine wu (Vt (s:={s with heap:=s.heap.push (QE w)}) (aI _ rfl) hh (hl.push _) (aF Gh) hI h4 λ h' tk hk hx=>⟨rfl,h _ h' tk (λ b o e=>hk b o (aF (a7 e)) (aq _ e)) (dp (bn _)) hx⟩)
end
theorem slot_si_next:Slot "set_iterator" "__next__" "set_iterator.__next__" :=
 .of (owner:="set_iterator") (n:="__next__") (by (erw [pf];erw [mH]);kernel_rfl) (by decide +kernel) (by decide +kernel) (by decide +kernel)
  (by first | exact .inl (by decide +kernel) | exact .inr (by decide +kernel)) (by erw [lu];kernel_rfl)
theorem yj:mR table "set_iterator.__next__"=some cH.«set_iterator.__next__»:=entryFor_of_tree (by kernel_rfl)
theorem UZ:Manifest.owners.lookup (String.ofList ['r','o','t','a','r','e','t','i','_','t','e','s'].reverse)=some Manifest.sig_set_iterator:=by kernel_rfl
theorem yq (a:af):pz "set_iterator.__next__" ⟨[a],[]⟩:=by
 unfold pz;erw [pY (id:="set_iterator.__next__") (n:=['_','_','t','x','e','n','_','_']) (o:=['r','o','t','a','r','e','t','i','_','t','e','s']) (by kernel_rfl) UZ];kernel_rfl
theorem YM:Slot "set_iterator" "__iter__" "set_iterator.__iter__" :=
 .of (owner:="set_iterator") (n:="__iter__") (by (erw [pf];erw [mH]);kernel_rfl) (by decide +kernel) (by decide +kernel) (by decide +kernel)
  (by first | exact .inl (by decide +kernel) | exact .inr (by decide +kernel)) (by erw [lu];kernel_rfl)
theorem uH:mR table "set_iterator.__iter__"=some cH.«dict_keyiterator.__iter__» :=
 pA (id':="dict_keyiterator.__iter__") (by kernel_rfl) rfl (by decide +kernel) (by kernel_rfl)
theorem Uc (a:af):pz "set_iterator.__iter__" ⟨[a],[]⟩:=by
 unfold pz;erw [pY (id:="set_iterator.__iter__") (n:=['_','_','r','e','t','i','_','_']) (o:=['r','o','t','a','r','e','t','i','_','t','e','s']) (by kernel_rfl) UZ];kernel_rfl
theorem Ub:mR table "set.__iter__"=some cH.«frozenset.__iter__» :=
 pA (id':="frozenset.__iter__") (by kernel_rfl) rfl (by decide +kernel) (by kernel_rfl)
noncomputable def Zi (w:cr)(a:ah)(ep:Nat)(es:Array (Int×af)):Array (Int×af) :=
 if w.params.followText "set-order"=true then pickOrder (w.params.setOrder a ep) es else es
theorem Xd {α:Type}{l:List α}(h:i<l.length):(l[i]::l.eraseIdx i).Perm l:=by
 erw [List.eraseIdx_eq_take_drop_succ]
 refine oQ.symm.trans ?_
 (refine rwS (eK h) ?_;erw [il];rfl)
theorem xS {α:Type}(next:Nat->Nat):∀ (f k:Nat) (l:List α) (out:Array α),l.length=f->(ro next f k l out).toList.Perm (out.toList++l)
 | 0,k,l,out,h=>by (erw [lV.mp h];erw [aP]);exact .refl _
 | f + 1,k,l,out,h=>by
  have Au:0<l.length:=h▸kG f
  have s3:next k % l.length<l.length:=nJ _ Au
  unfold ro
  erw [aw s3]
  dsimp only
  refine (xS next f (k + 1) _ _ (by (erw [List.length_eraseIdx_of_lt s3];erw [h]);rfl)).trans ?_
  (erw [gw];erw [au])
  refine List.Perm.append_left _ ?_
  exact Xd s3
theorem y8 (w:cr)(a:ah)(ep:Nat)(es:Array (Int×af)):(Zi w a ep es).toList.Perm es.toList:=by
 unfold Zi
 split
 ·unfold pickOrder
  exact (xS _ _ _ _ _ (bG)).trans (.refl _)
 ·exact .refl _
structure ZIt (h:aR)(it a:ah)(i n ep:Nat)(slot:Int):Prop where
 h:∃ o,h.get? it=some o/\o.cls=.type "set_iterator"/\o.data=.fields #[.int slot 0,.int i 0,.ref a,.int n 0,.int ep 0]
theorem ZIt.typeIs {s:ao}{a:ah}(x:ZIt s.heap it a i n ep slot):s.TypeIs (.ref it) "set_iterator":=let ⟨o,ho,hc,_⟩:=x.h;⟨o,ho,hc⟩
theorem ZIt.at {h:aR}{a:ah}(x:ZIt h it a i n ep slot)(e:∀ o,h.get? it=some o->h'.get? it=some o):ZIt h' it a i n ep slot:=let ⟨o,ho,r⟩:=x.h;⟨o,e o ho,r⟩
noncomputable def ZP (w:cr)(t:dF)(i:Nat):Int:=if w.params.followText "set-order"=true then 0 else (if i=0 then 0 else ((t.place.getD (i - 1) 0 + 1:Nat):Int))
structure ZAt (w:cr)(h:aR)(a:ah)(es:Array (Int×af))(ep:Nat)(t:dF):Prop where
 h:∃ o,h.get? a=some o/\o.cls=.type "set"/\o.data=.set es ep t
 ok:TabOk t es.size (w.params.followText "set-order")
theorem ZAt.at {h:aR}{a:ah}{t:dF}(x:ZAt w h a es ep t)(e:∀ o,h.get? a=some o->h'.get? a=some o):ZAt w h' a es ep t:=⟨let ⟨o,ho,r⟩:=x.h;⟨o,e o ho,r⟩,x.ok⟩
section
variable {prog:bN}{w:cr}{A:aM}{E:af->ao->Prop}{s:ao}
theorem Uv {a:ah}{t:dF}{Q:Option (af×Nat)->ao->Prop}(x:ZAt w s.heap a es ep t)(hi:i<=es.size)
  (h:Q (((Zi w a ep es)[i]?).map λ e=>(e.2,(ZP w t (i + 1)).toNat)) s):wpAny (model prog w) A (setNext a (ZP w t i).toNat i ep) Q E s:=by
 obtain ⟨⟨o,ho,hc,hd⟩,T⟩:=x
 have Bf:t.place.size=es.size:=T.size
 unfold setNext
 refine aa (gv ho hd T.fits ?_)
 dsimp only
 refine aa ?_
 unfold nM
 refine aa (dI (am ?_))
 have em:(model prog w).w.params=w.params:=rfl
 erw [em]
 unfold Zi ZP at *
 by_cases hb:w.params.followText "set-order"=true
 ·rw [if_pos hb,if_pos hb] at h
  (erw [if_pos hb];erw [if_pos hb];erw [if_neg (by simp)])
  refine aa ?_
  unfold setWalk nM
  refine aa (gv ho hd T.fits ?_)
  dsimp only
  refine aa (aa (dI (am ?_)))
  (erw [em];erw [if_pos hb])
  refine aa (dI (am ?_))
  exact am h
 ·rw [if_neg hb,if_neg hb] at h
  (erw [if_neg hb];erw [if_neg hb])
  have Cf:t.plain=true:=T.plain
  have Hk:t.led=true:=by erw [T.led];simpa using hb
  refine hZ (λ AW=>?_) λ _=>?_
  ·have AW:(!t.plain&&decide (es.size > 1))=true:=AW
   rw [Cf] at AW;exact bd AW
  ·refine aa ?_
   show wpAny (model prog w) A (if (!t.led&&!es.isEmpty)=true then unsupported "set:maker-not-led" else pure ()) _ _ _
   (erw [Hk];erw [if_neg (by simp)])
   refine am (am ?_)
   have FY:a8 t.place (if i=0 then 0 else ((t.place.getD (i - 1) 0 + 1:Nat):Int)).toNat=i:=by
    cases i with
    | zero=>exact zCL T.up
    | succ k =>
     have hk:k<t.place.size:=by rw [Bf];exact hi
     erw [if_neg (gK k)]
     show a8 t.place (t.place.getD k 0 + 1)=k + 1
     have e:t.place.getD k 0=t.place[k]:=by simp [f6,hk]
     erw [e];exact vx T.up hk
   erw [FY]
   cases eY hi with
   | inl s3 =>
    have Fd:i<t.place.size:=by rw [Bf];exact s3
    (erw [bV s3];erw [bV Fd])
    rw [bV s3,if_neg (gK i)] at h
    have e:t.place.getD i 0=t.place[i]:=by simp [f6,Fd]
    have h':Q (some (es[i].2,t.place.getD i 0 + 1)) s:=h
    rw [e] at h';exact h'
   | inr he =>
    (erw [fq (dk he.symm)];erw [fq (by rw [Bf];exact dk he.symm)])
    rw [fq (dk he.symm)] at h
    exact h
theorem zAj {a:ah}{t:dF}{Q:af->ao->Prop}(x:ZAt w s.heap a es ep t)
  (hQ:Q (.ref s.heap.objs.size) {s with heap:=s.heap.push {cls:=.type "set_iterator",data:=.fields #[.int 0 0,.int 0 0,.ref a,.int es.size 0,.int ep 0]}}):wpAny (model prog w) A (gD (.ref a)) Q E s:=by
 obtain ⟨⟨o,ho,hc,hd⟩,T⟩:=x
 have hT:s.TypeIs (.ref a) "set":=⟨o,ho,hc⟩
 refine oh hT pg (bQ pg hT Ub ?_ (F.args_set_iter_1 _))
 unfold cH.«frozenset.__iter__»
 refine aa (am ?_)
 refine aa ?_
 unfold rZ
 refine aa (iS ho hd T.fits (am ?_))
 refine aa ?_
 unfold setDrawn
 refine aa (gv ho hd T.fits ?_)
 dsimp only
 unfold nM
 refine aa (aa (dI (am ?_)))
 refine am ?_
 dsimp only
 refine hZ (λ AW=>?_) λ _=>?_
 ·have AW:(!(model prog w).w.params.followText "set-order"&&(!t.plain&&decide (es.size > 1)))=true:=AW
  rw [T.plain] at AW;simp at AW
 ·refine aa (am ?_)
  refine aa (wpAny_setEpoch_of ho hd T.fits ?_)
  refine aa (cD (am ⟨_,rfl,"set_iterator",_,⟨_,aI _ rfl,rfl⟩,slot_si_next.lookup,?_⟩))
  exact hQ
theorem zBc {a:ah}{Q:af->ao->Prop}(tB:ZIt s.heap it a i n ep slot)(h:Q (.ref it) s):wpAny (model prog w) A (gD (.ref it)) Q E s:=by
 refine oh tB.typeIs YM (bQ YM tB.typeIs uH ?_ (Uc _))
 show wpAny _ _ (ret (.ref it)) _ _ s
 exact am ⟨_,rfl,"set_iterator",_,tB.typeIs,slot_si_next.lookup,h⟩
theorem zBP {a:ah}{t:dF}{Q:Option af->ao->Prop}(tq:a≠it)(x:ZAt w s.heap a es ep t)(tB:ZIt s.heap it a i es.size ep (ZP w t i))(hi:i<es.size)
  (h:∀ h' e,(Zi w a ep es)[i]?=some e->cn it s.heap h'->ZIt h' it a (i + 1) es.size ep (ZP w t (i + 1))->Q (some e.2) {s with heap:=h'}):wpAny (model prog w) A (eZ (.ref it)) Q E s:=by
 refine Eeaa (tB.h) λ o ho hc hd=>?_
 obtain ⟨⟨oa,F2,IY,GQ⟩,T⟩:=id x
 have hw:i<(Zi w a ep es).size:=by
  have:=(y8 w a ep es).length_eq
  rw [bG,bG] at this;rw [this];assumption
 have Au:∀ k,0<=ZP w t k:=λ k=>by
  unfold ZP;split
  ·exact aV _
  ·split
   ·exact aV _
   ·exact az _
 unfold eZ
 refine aa (iW (cz (name:=ag "__next__") tB.typeIs slot_si_next (bQ slot_si_next tB.typeIs yj ?_ (yq _))))
 unfold cH.«set_iterator.__next__»
 refine aa (am ?_)
 refine aa (pB ho hd ?_)
 show wpAny _ _ (setEntries a >>= _) _ _ s
 refine aa (iS F2 GQ T.fits ?_)
 erw [if_neg (by simp)]
 dsimp only
 refine aa (Uv (ep:=ep) (i:=i) x (ey hi) ?_)
 erw [bV hw]
 show wpAny _ _ (setField (.ref it) 0 (rawInt ((ZP w t (i + 1)).toNat:Nat)) >>= _) _ _ s
 refine aa (gb ho hd (by simp) ?_)
 have CC:=cI (pZ (·.setIfInBounds 0 (rawInt ((ZP w t (i + 1)).toNat:Nat)))) ho (im (dN hd _))
 have F5:=dN hd (·.setIfInBounds 0 (rawInt ((ZP w t (i + 1)).toNat:Nat)))
 refine aa (gb (s:={s with heap:=s.heap.update it _}) CC F5 (by simp) ?_)
 have BM:=cI (pZ (·.setIfInBounds 1 (rawInt ((i:Int) + 1)))) CC (im (dN F5 _))
 have EX:=dN F5 (·.setIfInBounds 1 (rawInt ((i:Int) + 1)))
 refine am ⟨_,rfl,am (h _ _ (bV hw) ((cu ..).trans (cu ..)) ⟨_,BM,?_,?_⟩)⟩
 ·exact (kj ..).trans ((kj ..).trans hc)
 ·erw [EX]
  have:=Au (i + 1)
  simp [rawInt,bH this]
theorem zDO {a:ah}{t:dF}{Q:Option af->ao->Prop}(hh:A.handled=none)(x:ZAt w s.heap a es ep t)(tB:ZIt s.heap it a es.size es.size ep (ZP w t es.size))
  (hQ:∀ h',gy it s.heap h'->Q none {s with heap:=h'}):wpAny (model prog w) A (eZ (.ref it)) Q E s:=by
 refine Eeaa (tB.h) λ o ho hc hd=>?_
 obtain ⟨⟨oa,F2,IY,GQ⟩,T⟩:=id x
 have hw:(Zi w a ep es).size=es.size:=by
  have:=(y8 w a ep es).length_eq
  rwa [bG,bG] at this
 unfold eZ
 refine aa (iW (cz (name:=ag "__next__") tB.typeIs slot_si_next (bQ slot_si_next tB.typeIs yj ?_ (yq _))))
 unfold cH.«set_iterator.__next__»
 refine aa (am ?_)
 refine aa (pB ho hd ?_)
 show wpAny _ _ (setEntries a >>= _) _ _ s
 refine aa (iS F2 GQ T.fits ?_)
 erw [if_neg (by simp)]
 dsimp only
 refine aa (Uv (ep:=ep) (i:=es.size) x (bn _) ?_)
 erw [fq (dk hw)]
 show wpAny _ _ (setField (.ref it) 2 .none >>= _) _ _ s
 refine aa (gb ho hd (by simp) ?_)
 show wpAny _ _ (pC (.type "StopIteration") [] >>= _) _ _ _
 refine aa ?_
 simp only [pC,pD]
 refine aa (cD ?_ (by size_fits))
 refine aa (m:=iz _ _) (gx (a:=dw) (by first | rfl | (simp only [iz];rfl)) ?_)
 refine cD ?_ (by size_fits)
 simp only [raiseNew]
 refine aa (p7 ?_)
 refine rwE (show A.in1.handled=none from hh) ?_
 refine aa (am (wpAny_throw ?_))
 refine aa (gL (T:="StopIteration") (b:=true) ⟨_,aI _ rfl,rfl⟩ pE ?_)
 exact am (hQ _ (((cu ..).extBut.push _).push _))
theorem V5 (hh:A.handled=none)(I a:ah)(tq:a≠I)(es:Array (Int×af))(ep:Nat)(t:dF) :
  Walks prog w A I [I,a] [I] es.size (λ i v=>((Zi w a ep es).toList.map (·.2))[i]?=some v) (λ i h=>ZIt h I a i es.size ep (ZP w t i)/\ZAt w h a es ep t) where
 sub:=λ b hb=>by simp at hb;simp [hb]
 frame:=λ _ _ _ st hk=>⟨st.1.at λ o e=>hk I (by simp) o e,st.2.at λ o e=>hk a (by simp) o e⟩
 item:=λ i s Q E hi st hQ=>by
  refine zBP tq st.2 st.1 hi λ h' e he Bj x9=>?_
  exact hQ _ h' s.toks (by (erw [a6];erw [mI];erw [he]);rfl) ⟨x9,st.2.at λ o e=>Bj.extBut a o tq e⟩ λ b o hb e=>Bj.extBut b o (λ h=>hb (by simp [h])) e
 done:=λ s Q E st hQ=>zDO hh st.2 st.1 λ h' FN=>hQ h' s.toks λ b o hb e=>FN b o (λ h=>hb (by simp [h])) e
 self:=λ _ _ _ _ st hQ=>zBc st.1 hQ
theorem vt {r:ah}{Q:Bool->ao->Prop}(hT:s.TypeIs (.ref r) "set")(h:Q false s):wpAny (model prog w) A (lk (.ref r)) Q E s:=by
 unfold lk
 refine aa (ia hT PySem.F.slot_set_len.lookup ?_)
 generalize Bb:("set.__len__":String)=id0
 wp_delta
 refine rwE (show splitId id0=some ("set","__len__") from by subst Bb;decide +kernel) ?_
 subst Bb
 refine aa (gL (T:="set") (b:=true) hT (by erw [lu];kernel_rfl) ?_)
 refine hZ (λ AW=>absurd AW (by decide)) (λ _=>?_)
 refine hZ (λ _=>?_) (λ AW=>absurd (by decide +kernel) AW)
 refine aa (mz hT ?_)
 exact am h
theorem zCp {a:ah}{t:dF}:KdlSrc prog w "set" a a es.size (λ i v=>((Zi w a ep es).toList.map (·.2))[i]?=some v) (λ h=>ZAt w h a es ep t) where
 type:=λ _ x=>let ⟨o,ho,hc,_⟩:=x.h;⟨o,ho,hc⟩
 there:=λ _ x=>let ⟨o,ho,_⟩:=x.h;⟨a7 ho,a7 ho⟩
 keep:=λ _ _ x hk=>x.at λ o e=>hk a (.inl rfl) o e
 notList:=by decide
 notTuple:=by decide
 hint:=λ _ _ _ _ x hq=>vt (let ⟨o,ho,hc,_⟩:=x.h;⟨o,ho,hc⟩) hq
 iter:=λ A s hh x=>⟨_,_,(λ _ _ hq=>zAj x hq),V5 hh _ a (aF (let ⟨_,ho,_⟩:=x.h;a7 ho)) es ep t,⟨⟨_,aI _ rfl,rfl,by unfold ZP;split <;> rfl⟩,x.at λ o e=>aq _ e⟩⟩
theorem vC {ws:List af}{l:List Int}(h:cM vs l)(p:ws.Perm vs):∃ l',cM ws l'/\l'.Perm l:=by
 have all:∀ {vs:List af} {l:List Int},cM vs l->l=vs.map λ v=>match v with | .int i _=>i | _=>0:=λ {vs l} h=>by
  induction h with
  | nil=>rfl
  | cons n t _ ih=>erw [ih];rfl
 have back:∀ {ws:List af},(∀ v,v∈ws->∃ i t,v=.int i t)->cM ws (ws.map λ v=>match v with | .int i _=>i | _=>0):=λ {ws}=>by
  induction ws with
  | nil=>exact λ _=>.nil
  | cons v r ih=>intro q;(refine Eee (q v (.head _)) λ i t AU=>?_;obtain rfl:=AU);exact .cons i t (ih λ x m=>q x (.tail _ m))
 have IV:∀ {vs:List af} {l:List Int},cM vs l->∀ v,v∈vs->∃ i t,v=.int i t:=λ {vs l} h=>by
  induction h with
  | nil=>exact λ _ m=>nomatch m
  | cons n t _ ih=>intro v m;rcases aJ.mp m with rfl | m;exact ⟨n,t,rfl⟩;exact ih v m
 exact ⟨_,back λ v m=>IV h v (p.mem_iff.mp m),by erw [all h];exact p.map _⟩
theorem xM {a:ah}{l:List Int}{Q:List af->ao->Prop}(hh:A.handled=none)(x:IsSet prog w s.heap a l)(h:∀ h' tk vs l',(∀ b o,s.heap.get? b=some o->h'.get? b=some o)->l'.Perm l->cM vs l'->Q vs {s with heap:=h',toks:=tk}) :
  wpAny (model prog w) A (oi (.ref a)) Q E s:=by
 obtain ⟨o,es,ep,t,l',ho,GN,hd,AR,hI,hp,T⟩:=x.h
 have hA:ZAt w s.heap a es ep t:=⟨⟨o,ho,GN.1,hd⟩,T⟩
 refine kdu_collect zCp hh hA (by erw [cA];have:=T.n4;exact ae this (nB9 rfl)) λ h' tk acc hk Co=>?_
 have hw:=(y8 w a ep es).map (·.2)
 refine Eea (vC hI hw) λ l2 GG BP=>?_
 have e:acc.toList=(Zi w a ep es).toList.map (·.2):=by
  have hl:acc.toList.length=es.size:=by erw [bG];exact Co.1
  have AL:((Zi w a ep es).toList.map (·.2)).length=es.size:=by have:=hw.length_eq;rw [aj,aj] at this;(erw [aj];erw [this];erw [bG];rfl)
  refine oj λ i=>?_
  rcases rp i es.size with q | q
  ·have hq:i<acc.toList.length:=by rw [hl];exact q
   have:=Co.2 i acc.toList[i] (by refine rwS mI ?_;exact aw hq)
   erw [aw hq];exact this.symm
  ·(erw [dc (by exact lin [_,_,_] [] (.v 0) (.v 1) [(1,.e (.v 0) (.v 2)),(1,.l (.v 2) (.v 1))] tT9 hl q)];erw [dc (by exact lin [_,_,_] [] (.v 0) (.v 1) [(1,.e (.v 0) (.v 2)),(1,.l (.v 2) (.v 1))] tT9 AL q)];rfl)
 erw [e]
 exact h h' tk _ l2 hk (BP.trans hp) GG
end
end Mine.Internal
namespace Mine.Internal
open PySem PySem.Calls PyProof PyProof.Rows PySem.W
set_option tactic.hygienic false
variable {fr:List ah}{b:ah}{o:eV}{x:Option eV}{v:af}{vs:List af}{ds:List D}{A:aM}{C:Cx}{T:Tabs}{n m:Nat}{σ:zA}{Q:D->zA->Prop}{P:Prop}{mo:MO}{es:List (Nat×D)}{K:D->Prop}{motive:List af->Prop}
mutual
noncomputable def hashK (P:iA):Ky->Int
 | .int i=>gu i
 | .str x=>cP P x
 | .nil=>nN (eM [])
 | .cons a r=>nN (eM (hashK P a::hashesK P r))
noncomputable def hashesK (P:iA):Ky->List Int
 | .cons a r=>hashK P a::hashesK P r
 | _=>[]
end
section
variable (T:Tabs)(P:iA)(h:aR)(φ:ah->Prop)(μ:List ah)
inductive IEs:List (Int×af)->List (Int×D)->Prop
 | nil:IEs [] []
 | cons {k:Int} {v:af} {d:D} {r:List (Int×af)} {es:List (Int×D)}:VD h φ μ v d->IEs r es->IEs ((k,v)::r) ((k,d)::es)
inductive REs:List (aN×af)->List (Nat×D)->Prop
 | nil:REs [] []
 | cons {k:Nat} {x:aN} {v:af} {d:D} {r:List (aN×af)} {es:List (Nat×D)}:T.names[k]?=some x->VD h φ μ v d->REs r es->REs ((x,v)::r) ((k,d)::es)
inductive SEs:List dS->List (Nat×D)->Prop
 | nil:SEs [] []
 | cons {k:Nat} {x:aN} {t:iv} {v:af} {d:D} {r:List dS} {es:List (Nat×D)}:T.names[k]?=some x->VD h φ μ v d->SEs r es->SEs (⟨cP P x,.str x t,v⟩::r) ((k,d)::es)
inductive TEs:List (Ky×ah×af)->List (Ky×D)->Prop
 | nil:TEs [] []
 | cons {k:Ky} {xs:List ab} {a:ah} {v:af} {d:D} {r:List (Ky×ah×af)} {es:List (Ky×D)}:VP h φ (.ref a) (.tuple xs)->keyDs xs=some k->(bE xs).depth<=6->VD h φ μ v d->TEs r es ->
   TEs ((k,a,v)::r) ((k,d)::es)
end
def qF (T:Tabs)(prog:bN)(w:cr)(h:aR)(φ:ah->Prop)(μ:List ah)(a:ah)(zz:MO):Prop:=@MO.casesOn (λ _=>Prop) zz (λ xs=>∃ vs n,h.get? a=some (listOf vs.toArray n)/\VPs h φ vs xs) (λ es=>(a==eg)=false/\∃ kvs,h.DictOf (intKind prog w) a kvs/\IEs h φ μ kvs es) (λ es=>(a==eg)=false/\∃ kvs,h.DictOf (strKind prog w) a kvs/\REs T h φ μ kvs es) (λ es=>∃ ds n,h.get? a=some (dictOf ds n)/\SEs T w.params h φ μ ds es) (λ es=>(a==eg)=false/\∃ xs,(∃ o ds ep,h.get? a=some o/\o.ExactDict/\o.data=.dict ds ep/\ds.toList=xs.map (λ x=>(⟨hashK w.params x.1,.ref x.2.1,x.2.2⟩:dS))/\(xs.map (·.1)).Nodup)/\TEs h φ μ xs es) (λ C j=>C∈T.classes/\∃ d,μ[j]?=some d/\h.get? a=some (instObj C d)) True (λ l=>IsSet prog w h a l)
structure Rel (C:Cx)(T:Tabs)(h:aR)(φ:ah->Prop)(μ:List ah)(σ:zA):Prop where
 keep:∀ b o,C.h₀.get? b=some o->h.get? b=some o
 base:∀ b o,C.h₀.get? b=some o->φ b
 frz:∀ a,φ a->∃ o,h.get? a=some o
 len:μ.length=σ.length
 nodup:∀ (i j:Nat) (a:ah),μ[i]?=some a->μ[j]?=some a->i=j
 lt:∀ (i:Nat) (a:ah),μ[i]?=some a->∃ o,h.get? a=some o
 apart:∀ (i:Nat) (a:ah),μ[i]?=some a->φ a->σ[i]?=some .dead
 at_:∀ (i:Nat) (a:ah) (mo:MO),μ[i]?=some a->σ[i]?=some mo->qF T C.prog C.w h φ μ a mo
def FrO (o:eV):Prop:=∃ es n,o.data=.dict es n
def Kept (fr:List ah)(b:ah)(o:eV)(x:Option eV):Prop:=x=some o∨(b∈fr/\∃ sl,x=some {o with slots:=sl})
structure Ext (h:aR)(φ:ah->Prop)(μ:List ah)(h':aR)(j':ah->Prop)(sJ:List ah)(wr:List ah)(fr:List ah:=[]):Prop where
 frz:∀ a,φ a->j' a/\h'.get? a=h.get? a
 new:∀ a,j' a->φ a∨h.get? a=none∨a∈μ
 pre:∀ (i:Nat) (a:ah),μ[i]?=some a->sJ[i]?=some a
 fresh:∀ (i:Nat) (a:ah),sJ[i]?=some a->μ[i]?=some a∨h.get? a=none
 ex:∀ b o,h.get? b=some o->∃ o',h'.get? b=some o'
 oth:∀ b o,h.get? b=some o->b∉μ->b∉wr->Kept fr b o (h'.get? b)
theorem Kept.refl (o:eV):Kept fr b o (some o):=.inl rfl
theorem Kept.trans {y:Option eV}(p:Kept fr b o x)(q:∀ o',x=some o'->Kept fr b o' y):Kept fr b o y:=by
 refine p.elim (λ e=>q _ e) λ p=>.inr ⟨p.1,Ee p.2 λ sl e=>(q _ e).elim (λ e'=>⟨sl,e'⟩) λ p'=>Ee p'.2 λ Kq e'=>⟨Kq,e'⟩⟩
theorem Kept.exact (p:Kept fr b o x)(hc:b∉fr):x=some o:=by
 rcases p with h | ⟨h,_⟩
 ·exact h
 ·exact absurd h hc
section
variable {h h' Be:aR}{φ j' th:ah->Prop}{μ sJ s7 wr D4 fr:List ah}
theorem Ext.refl:Ext h φ μ h φ μ wr fr:=⟨λ _ f=>⟨f,rfl⟩,λ _ f=>.inl f,λ _ _ e=>e,λ _ _ e=>.inl e,λ _ o e=>⟨o,e⟩,λ _ _ e _ _=>e▸Kept.refl _⟩
theorem Ext.back (x:Ext h φ μ h' j' sJ wr fr)(hb:h'.get? b=none):h.get? b=none:=by
 cases e:h.get? b with
 | none=>rfl
 | some o=>refine Ee (x.ex b o e) λ o' e'=>?_;rw [hb] at e';cases e'
theorem Ext.notin (x:Ext h φ μ h' j' sJ wr fr)(hb:h.get? b=some o)(n:b∉μ):b∉sJ:=λ m=>by
 refine Ee (aS.mp m) λ i hi=>?_
 rcases x.fresh i b hi with e | e
 ·exact n (aS.mpr ⟨i,e⟩)
 ·rw [hb] at e;cases e
theorem Ext.notfrz (x:Ext h φ μ h' j' sJ wr fr)(hb:h.get? b=some o)(n:b∉μ)(f:¬ φ b):¬ j' b:=λ m=>by
 rcases x.new b m with e | e | e
 ·exact f e
 ·rw [hb] at e;cases e
 ·exact n e
theorem Ext.trans (x:Ext h φ μ h' j' sJ wr fr)(y:Ext h' j' sJ Be th s7 wr fr):Ext h φ μ Be th s7 wr fr:=by
 refine ⟨λ a f=>⟨(y.frz a (x.frz a f).1).1,(y.frz a (x.frz a f).1).2.trans (x.frz a f).2⟩,λ a f=>?_,λ i a e=>y.pre i a (x.pre i a e),λ i a e=>?_,λ b o e=>?_,λ b o e n w=>?_⟩
 ·rcases y.new a f with e | e | e
  ·exact x.new a e
  ·exact .inr (.inl (x.back e))
  ·refine Ee (aS.mp e) λ i hi=>?_
   rcases x.fresh i a hi with q | q
   ·exact .inr (.inr (aS.mpr ⟨i,q⟩))
   ·exact .inr (.inl q)
 ·rcases y.fresh i a e with q | q
  ·exact x.fresh i a q
  ·exact .inr (x.back q)
 ·refine Ee (x.ex b o e) λ o' e'=>?_
  exact y.ex b o' e'
 ·exact (x.oth b o e n w).trans λ o' e'=>y.oth b o' e' (x.notin e n) w
theorem Ext.wider (x:Ext h φ μ h' j' sJ wr fr)(s:∀ b o,b∈wr->h.get? b=some o->b∈D4):Ext h φ μ h' j' sJ D4 fr :=
 ⟨x.frz,x.new,x.pre,x.fresh,x.ex,λ b o e n w=>x.oth b o e n λ m=>w (s b o m e)⟩
theorem Ext.wid {HW:List ah}(x:Ext h φ μ h' j' sJ wr fr)(s:∀ b o,b∈wr->h.get? b=some o->b∈D4)(t:∀ b o,b∈fr->h.get? b=some o->b∈HW):Ext h φ μ h' j' sJ D4 HW :=
 ⟨x.frz,x.new,x.pre,x.fresh,x.ex,λ b o e n w=>(x.oth b o e n λ m=>w (s b o m e)).imp id λ q=>⟨t b o q.1 e,q.2⟩⟩
theorem Ext.slack (x:Ext h φ μ h' j' sJ wr):Ext h φ μ h' j' sJ wr fr :=
 ⟨x.frz,x.new,x.pre,x.fresh,x.ex,λ b o e n w=>.inl ((x.oth b o e n w).exact λ h=>nomatch h)⟩
theorem Ext.vd (x:Ext h φ μ h' j' sJ wr fr){d:D}(p:VD h φ μ v d):VD h' j' sJ v d:=p.mono x.frz x.pre
theorem Ext.vds (x:Ext h φ μ h' j' sJ wr fr)(p:VDs h φ μ vs ds):VDs h' j' sJ vs ds:=p.mono x.frz x.pre
theorem Ext.vp (x:Ext h φ μ h' j' sJ wr fr){d:ab}(p:VP h φ v d):VP h' j' v d:=p.mono x.frz
theorem Ext.vps (x:Ext h φ μ h' j' sJ wr fr){ds:List ab}(p:VPs h φ vs ds):VPs h' j' vs ds:=p.mono x.frz
end
structure Room (n:Nat)(A:aM):Prop where
 hd:A.handled=none
 depth:A.depth + 2 * n + 10<pF
 units:A.units + 20 * n + 400<cLine
noncomputable def frL (fs:List kH):List ah:=fs.filterMap (·.frame)
noncomputable def frA (A:aM):List ah:=frL (A.frames.getD [])
structure Out (A:aM)(h:aR)(φ:ah->Prop)(μ:List ah):Prop where
 h:∃ fs,A.frames=some fs/\∀ e,e∈fs->e.scope.kind≠.module/\∃ L o,e.frame=some L/\h.get? L=some o/\FrO o/\L∉μ/\¬ φ L
theorem Kept.dat (p:Kept fr b o x):∃ o',x=some o'/\o'.data=o.data:=by
 rcases p with h | ⟨_,sl,h⟩
 ·exact ⟨o,h,rfl⟩
 ·exact ⟨_,h,rfl⟩
theorem Out.ext {h h':aR}{φ j':ah->Prop}{μ sJ:List ah}(x:Out A h φ μ)(e:Ext h φ μ h' j' sJ [] fr):Out A h' j' sJ:=by
 refine Eea (x.h) λ fs hf k=>?_
 refine ⟨fs,hf,λ v hv=>?_⟩
 refine Ea (k v hv) λ k1 k=>?_
 refine Eeeaaaa k λ L o k2 k3 k4 k5 k6=>?_
 refine Eea ((e.oth L o k3 k5 eA).dat) λ o' h1 h2=>?_
 exact ⟨k1,L,o',k2,h1,Eee k4 λ es n q=>⟨es,n,h2.trans q⟩,e.notin k3 k5,e.notfrz k3 k5 k6⟩
structure SatCall (C:Cx)(T:Tabs)(n:Nat)(f:ah)(ds:List D)(σ:zA)(Q:D->zA->Prop):Prop where
 keep:keepIn C.K (.ref f)=true
 code:∀ (A:aM) (s:ao) (φ:ah->Prop) (μ:List ah) (vs:List af),Room n A->Out A s.heap φ μ->Rel C T s.heap φ μ σ->VDs s.heap φ μ vs ds ->
  dZ (model C.prog C.w) A (.call (.ref f) ⟨vs,[]⟩) (λ r s'=>match r with
   | .ok (.ret v)=>∃ h' tk j' sJ d σ',s'={s with heap:=h',toks:=tk}/\Rel C T h' j' sJ σ'/\Ext s.heap φ μ h' j' sJ [] (frA A)/\VD h' j' sJ v d/\Q d σ'
   | _=>False) s
theorem SatCall.run {f:ah}(x:SatCall C T n f ds σ Q)(A:aM)(s:ao)(φ:ah->Prop)(μ:List ah)(vs:List af)(r:Room n A)(ou:Out A s.heap φ μ)(R:Rel C T s.heap φ μ σ)(V:VDs s.heap φ μ vs ds) :
  wpAny (model C.prog C.w) A (call (.ref f) vs) (λ v s'=>∃ h' tk j' sJ d σ',s'={s with heap:=h',toks:=tk}/\Rel C T h' j' sJ σ'/\Ext s.heap φ μ h' j' sJ [] (frA A)/\VD h' j' sJ v d/\Q d σ')
   (λ _ _=>False) s:=nK (fm (x.code A s φ μ vs r ou R V) λ r s' h=>by
 cases r with
 | error e=>exact h
 | ok fl=>cases fl <;> exact h)
theorem Room.le (r:Room m A)(h:n<=m):Room n A:=⟨r.hd,by have:=r.depth;exact lin [_,_,_,_] [] (.a (.a (.a (.v 0) (.m 2 (.v 1))) (.k 10)) (.k 1)) (.v 2) [(2,.l (.v 1) (.v 3)),(1,.l (.a (.a (.a (.v 0) (.m 2 (.v 3))) (.k 10)) (.k 1)) (.v 2))] tT9 h this,by have:=r.units;exact lin [_,_,_,_] [] (.a (.a (.a (.v 0) (.m 20 (.v 1))) (.k 400)) (.k 1)) (.v 2) [(20,.l (.v 1) (.v 3)),(1,.l (.a (.a (.a (.v 0) (.m 20 (.v 3))) (.k 400)) (.k 1)) (.v 2))] tT9 h this⟩
theorem SatCall.up {f:ah}(x:SatCall C T n f ds σ Q)(h:n<=m):SatCall C T m f ds σ Q :=
 ⟨x.keep,λ A s φ μ vs r ou R v=>x.code A s φ μ vs (r.le h) ou R v⟩
def ifT (b:Bool)(P:Prop):Prop:=@gZ (λ _=>Prop) b False P
theorem uR {b:Bool}(h:ifT b P):b=true/\P:=by
 cases b with
 | true=>exact ⟨rfl,h⟩
 | false=>exact h.elim
abbrev Get (σ:zA) (i:Nat) (K:MO->Prop):Prop:=Is σ[i]? K
abbrev YS (σ:zA) (d:D) (K:ab->Prop):Prop:=Is (qj σ d) K
abbrev qY (σ:zA) (d:D) (K:List ab->Prop):Prop:=Is (zu σ d) K
noncomputable def JT (zz:MO):Option (List (Nat×D)):=@MO.casesOn (λ _=>Option (List (Nat×D))) zz (λ _=>none) (λ _=>none) (λ es=>some es) (λ _=>none) (λ _=>none) (λ _ _=>none) none (λ _=>none)
noncomputable def jB (zz:MO):Option (List (Nat×D)):=@MO.casesOn (λ _=>Option (List (Nat×D))) zz (λ _=>none) (λ _=>none) (λ _=>none) (λ es=>some es) (λ _=>none) (λ _ _=>none) none (λ _=>none)
theorem WZ (h:JT mo=some es):mo=.rdict es:=by cases mo with | rdict j=>(erw [so h];rfl) | _=>exact nn h
theorem vB (h:jB mo=some es):mo=.sdict es:=by cases mo with | sdict j=>(erw [so h];rfl) | _=>exact nn h
def Yg (xs:List ab)(x:D)(K:Bool->Prop):Prop:=onP x λ y=>Sh (.tuple xs) y/\K (xs.any λ z=>br z y)
def uV (x:D)(K:Bool->Prop)(mo:MO):Prop:=@MO.casesOn (λ _=>Prop) mo (λ xs=>Yg xs x K) (λ _=>False) (λ _=>False) (λ _=>False) (λ es=>onT x λ k=>Kd (.tuple k)/\Is (keyDs k) λ q=>K (zw q es).isSome) (λ _ _=>False) False (λ _=>False)
def jE (σ:zA)(x:D)(c:D)(K:Bool->Prop):Prop:=@D.casesOn (λ _=>Prop) c (λ y=>Is (Zn y) λ xs=>Yg xs x K) (λ i=>Get σ i (uV x K)) (λ _=>False) (λ _=>False) (λ _=>False) (λ _ _=>False) (λ _ _ _ _=>False)
noncomputable def wo (zz:ab):Option Bool:=@bC (λ _=>Option Bool) zz (some true) (λ _=>some false) (λ _=>some false) (λ _=>some false) (λ _=>some false) (λ _=>some false) (λ _=>none)
noncomputable def isNone (zz:D):Option Bool:=@D.casesOn (λ _=>Option Bool) zz (λ x=>wo x) (λ _=>some false) (λ _=>none) (λ _=>none) (λ _=>some false) (λ _ _=>some false) (λ _ _ _ _=>none)
noncomputable def Qx (zz:D):Option Unit:=@D.casesOn (λ _=>Option Unit) zz (λ x=>@bC (λ _=>Option Unit) x (some ()) (λ _=>none) (λ _=>none) (λ _=>none) (λ _=>none) (λ _=>none) (λ _=>none)) (λ _=>none) (λ _=>none) (λ _=>none) (λ _=>none) (λ _ _=>none) (λ _ _ _ _=>none)
def wpC (op:ke)(σ:zA)(x y:D)(K:Bool->Prop):Prop:=@CmpOp.casesOn (λ _=>Prop) op (YS σ x λ a=>YS σ y λ b=>Sh a b/\K (br a b)) (YS σ x λ a=>YS σ y λ b=>Sh a b/\K (!PyData.eqv a b)) (onI x λ a=>onI y λ b=>K (decide (a<b))) (onI x λ a=>onI y λ b=>K (decide (a<=b))) (onI x λ a=>onI y λ b=>K (decide (b<a))) (onI x λ a=>onI y λ b=>K (decide (b<=a))) (Is (Qx y) λ _=>Is (isNone x) K) (Is (Qx y) λ _=>Is (isNone x) λ b=>K (!b)) (jE σ x y K) (jE σ x y λ b=>K (!b))
def yu (a:List ab)(y:D)(K:D->Prop):Prop:=onL y λ b=>Few (a.length + b.length)/\K (.p (.list (a++b)))
def JB (σ:zA)(x y:D)(K:D->Prop):Prop:=@D.casesOn (λ _=>Prop) x (λ x=>@bC (λ _=>Prop) x False (λ _=>False) (λ a=>onI y λ b=>K (.p (.int (a + b)))) (λ _=>False) (λ a=>yu a y K) (λ a=>onT y λ b=>Few (a.length + b.length)/\K (.p (.tuple (a++b)))) (λ _=>False)) (λ i=>Is (σ[i]?.bind ZO) λ a=>yu a y K) (λ _=>False) (λ _=>False) (λ _=>False) (λ _ _=>False) (λ _ _ _ _=>False)
def qt (σ:zA)(op:lq)(x y:D)(K:D->Prop):Prop:=@Operator.casesOn (λ _=>Prop) op (JB σ x y K) (onI x λ a=>onI y λ b=>K (.p (.int (a - b)))) (onI x λ a=>onI y λ b=>Fit a/\Fit b/\K (.p (.int (a * b)))) False False (onI x λ a=>onI y λ b=>Nz b/\K (.p (.int (Int.fmod a b)))) (onI x λ a=>onI y λ b=>Pw a b/\K (.p (.int (a ^ b.toNat)))) False False False False False (onI x λ a=>onI y λ b=>Nz b/\K (.p (.int (Int.fdiv a b))))
noncomputable def Q4 (zz:MO):Option (List Int):=@MO.casesOn (λ _=>Option (List Int)) zz (λ xs=>ints? xs) (λ es=>some (es.map (·.1))) (λ _=>none) (λ _=>none) (λ _=>none) (λ _ _=>none) none (λ l=>some l)
noncomputable def qx (σ:zA)(zz:D):Option (List Int):=@D.casesOn (λ _=>Option (List Int)) zz (λ x=>(Zn x).bind ints?) (λ i=>σ[i]?.bind Q4) (λ _=>none) (λ _=>none) (λ _=>none) (λ _ _=>none) (λ _ _ _ _=>none)
noncomputable def jO (zz:Bi):Option Nat:=@Bi.casesOn (λ _=>Option Nat) zz none none none none none none none none (some 0) (some 1) (some 2) (some 3) none none none
noncomputable def Ze:ab->Nat->Option Bool
 | .none,_=>some false
 | .bool _,k=>some (bc k 2 || bc k 3)
 | .int _,k=>some (bc k 2)
 | .str _,_=>some false
 | .list _,k=>some (bc k 1)
 | .tuple _,k=>some (bc k 0)
 | .dict _,_=>none
noncomputable def uk (zz:D):Option Bi:=@D.casesOn (λ _=>Option Bi) zz (λ _=>none) (λ _=>none) (λ _=>none) (λ b=>some b) (λ _=>none) (λ _ _=>none) (λ _ _ _ _=>none)
def on1 (ds:List D)(K:D->Prop):Prop:=@bA _ (λ _=>Prop) ds False (λ d r=>@bA _ (λ _=>Prop) r (K d) (λ _ _=>False))
def on2 (ds:List D)(K:D->D->Prop):Prop:=@bA _ (λ _=>Prop) ds False (λ d r=>on1 r λ e=>K d e)
def yV (ds:List D)(K:D->Prop)(K2:D->D->Prop):Prop:=@bA _ (λ _=>Prop) ds False (λ d r=>@bA _ (λ _=>Prop) r (K d) (λ e r=>@bA _ (λ _=>Prop) r (K2 d e) (λ _ _=>False)))
def Zk (m:Bool)(xs:List ab)(σ:zA)(Q:D->zA->Prop):Prop:=@gZ (λ _=>Prop) m (Q (.p (.list xs)) σ) (Q (.obj σ.length) (σ++[.lst xs]))
def hdL (l:List Int)(K:Int->List Int->Prop):Prop:=@bA _ (λ _=>Prop) l False (λ a r=>K a r)
def Xj (d:D)(t:Nat)(σ:zA)(Q:D->zA->Prop):Prop:=@D.casesOn (λ _=>Prop) d (λ x=>Is (Ze x t) λ r=>Q (.p (.bool r)) σ) (λ i=>Is (σ[i]?.bind ZO) λ _=>Q (.p (.bool (bc t 1))) σ) (λ _=>False) (λ _=>False) (λ _=>False) (λ _ _=>False) (λ _ _ _ _=>False)
noncomputable def b2i (b:Bool):Int:=@gZ (λ _=>Int) b 0 1
noncomputable def je (zz:ab):Option Int:=@bC (λ _=>Option Int) zz none (λ b=>some (b2i b)) (λ a=>some a) (λ _=>none) (λ _=>none) (λ _=>none) (λ _=>none)
def Zj (m:Bool)(b:Bi)(ds:List D)(σ:zA)(Q:D->zA->Prop):Prop:=@Bi.casesOn (λ _=>Prop) b (on1 ds λ d=>qY σ d λ xs=>Few xs.length/\Q (.p (.int xs.length)) σ) (on2 ds λ d t=>Is ((uk t).bind jO) λ t=>Xj d t σ Q) (on1 ds λ d=>onI d λ a=>Q (.p (.int a.natAbs)) σ) (yV ds (λ d=>qY σ d λ xs=>Is (ints? xs) λ l=>hdL l λ a r=>Q (.p (.int (ze a r))) σ) λ d e=>onI d λ a=>onI e λ b=>Q (.p (.int (ze a [b]))) σ) (yV ds (λ d=>qY σ d λ xs=>Is (ints? xs) λ l=>hdL l λ a r=>Q (.p (.int (zm a r))) σ) λ d e=>onI d λ a=>onI e λ b=>Q (.p (.int (zm a [b]))) σ) (on1 ds λ d=>qY σ d λ xs=>Is (ints? xs) λ l=>Q (.p (.int l.sum)) σ) (on1 ds λ d=>(Is (qx σ d) λ l=>Lt64 l.length/\Zk m ((ZF l).map .int) σ Q)∨∃ l,zu σ d=some (l.map zI)/\BitsOk l/\Zk m ((ZM l).map zI) σ Q) False (on1 ds λ d=>qY σ d λ xs=>Few xs.length/\Q (.p (.tuple xs)) σ) (on1 ds λ d=>qY σ d λ xs=>Few xs.length/\Zk m xs σ Q) (on1 ds λ d=>onP d λ x=>Is (je x) λ a=>Q (.p (.int a)) σ) False (on1 ds λ d=>onT d λ xs=>Is (qJ xs) λ es=>Nd (es.map (·.1))/\Few xs.length/\Q (.obj σ.length) (σ++[.idict es])) (on1 ds λ d=>onL d λ xs=>Is (ints? xs) λ l=>l.length<=4/\Q (.obj σ.length) (σ++[.iset (dd l)])) (yV ds (λ e=>onI e λ b=>Q (.rng 0 b) σ) λ d e=>onI d λ a=>onI e λ b=>Q (.rng a b) σ)
def jn (i:Nat)(es:List (Int×D))(k:Int)(d:D)(σ:zA)(Q:D->zA->Prop)(zz:Option D):Prop:=@eh _ (λ _=>Prop) zz (Q d (σ.set i (.idict (es++[(k,d)])))) (λ d'=>Q d' σ)
noncomputable def yQ (mo:MO)(k:Nat):Bool:=@MO.casesOn (λ _=>Bool) mo (λ _=>bc k 0 || bc k 3) (λ _=>bc k 1 || bc k 2) (λ _=>false) (λ _=>false) (λ _=>false) (λ _ _=>false) false (λ _=>false)
def yD (i:Nat)(mo:MO)(k:Nat)(ds:List D)(σ:zA)(Q:D->zA->Prop):Prop:=match mo with
 | .lst xs=>match bc k 0 with
  | true=>on1 ds λ d=>onP d λ x=>Few xs.length/\Q (.p .none) (σ.set i (.lst (xs++[x])))
  | false=>ifT (bc k 3) (ds=[]/\∃ l,xs=l.map zI/\BitsOk l/\Q (.p .none) (σ.set i (.lst ((ZM l).map zI))))
 | .idict es=>ifT (bc k 1 || bc k 2) (on2 ds λ e d=>onI e λ q=>match bc k 1 with
  | true=>Q ((zP q es).getD d) σ
  | false=>Few es.length/\jn i es q d σ Q (zP q es))
 | _=>False
noncomputable def zY (C:ah)(k:Nat):List ((ah×Nat)×ah)->Option ah
 | []=>none
 | ((a,j),f)::r=>match bc a C&&bc j k with
  | true=>some f
  | false=>zY C k r
def yy (xs:List ab)(i:D)(Q:D->Prop):Prop:=onI i λ k=>Sm k/\Is ((idx xs.length k).bind λ j=>xs[j]?) λ x=>Q (.p x)
def Qv (i:D)(Q:D->Prop)(mo:MO):Prop:=@MO.casesOn (λ _=>Prop) mo (λ xs=>yy xs i Q) (λ es=>onI i λ k=>Is (zP k es) Q) (λ _=>False) (λ _=>False) (λ es=>onT i λ k=>Kd (.tuple k)/\Is (keyDs k) λ q=>Is (zw q es) Q) (λ _ _=>False) False (λ _=>False)
def jS (σ:zA)(o i:D)(Q:D->Prop):Prop:=@D.casesOn (λ _=>Prop) o (λ x=>Is (Zn x) λ xs=>yy xs i Q) (λ j=>Get σ j (Qv i Q)) (λ _=>False) (λ _=>False) (λ _=>False) (λ _ _=>False) (λ _ _ _ _=>False)
def zBV (o:Option (List ab))(k:Int)(Q:D->Prop):Prop:=Is o λ xs=>Sm k/\0<=k/\Few xs.length/\Q (.p (.list (xs.take k.toNat)))
def yn (σ:zA)(o hi:D)(Q:D->Prop):Prop:=onI hi λ k=>match o with
 | .p x=>match x with
  | .str x=>Sm k/\Few x.cps.size/\bu (ff x none (some k))=true/\Q (.p (.str (ff x none (some k))))
  | .list xs=>zBV (some xs) k Q
  | _=>False
 | _=>False
def Qt (T:Tabs)(σ:zA)(i:Nat)(K:ah->Nat->List (Nat×D)->Prop):Prop:=Get σ i λ mo=>match mo with
 | .inst C j=>Is (σ[j]?.bind jB) λ fs=>K C j fs
 | _=>False
def noO {α:Type}(o:Option α)(P:Prop):Prop:=@eh _ (λ _=>Prop) o P (λ _=>False)
def ja (T:Tabs)(σ:zA)(o:D)(k:Nat)(Q:D->Prop):Prop:=onO o λ i=>Qt T σ i λ K _ fs=>noO (zY K k T.meth) (Is (look k fs) Q)
noncomputable def z5 (a b:Int):List ab:=(gX (b - a).toNat).map λ (j:Nat)=>be (a + j)
noncomputable def wN (xs ys:List ab):List ab:=(xs.zip ys).map λ p=>.tuple [p.1,p.2]
noncomputable def zpO (d e:D):Option (Option Nat):=(isP e).bind λ _=>match d with
 | .p _=>some none
 | .obj i=>some (some i)
 | _=>none
def zk (σ:zA)(d:D)(Q:List ab->Option (Nat×List ab)->Prop):Prop:=@D.casesOn (λ _=>Prop) d (λ x=>Is (Zn x) λ xs=>Q xs none) (λ i=>Is (σ[i]?.bind ZO) λ xs=>Q xs (some (i,xs))) (λ _=>False) (λ _=>False) (λ _=>False) (λ a b=>Rg a b/\Q (z5 a b) none) (λ d e xs ys=>Is (zpO d e) λ o=>Q (wN xs ys) (o.map λ i=>(i,xs)))
def zS (i:Option (Nat×List ab))(σ:zA)(K:Prop):Prop:=match i with
 | none=>K
 | some (i,xs)=>σ[i]?=some (.lst xs)/\K
noncomputable def mkD (kind:Nat)(ks:List Nat)(ds:List D):Option MO:=@iB (λ _=>Option MO) kind (gd (bc ks.length ds.length) (some (.rdict (ks.zip ds)))) (λ k=>@iB (λ _=>Option MO) k (some (.idict [])) (λ _=>some (.tdict [])))
def onN (ρ:Rho)(i:Nat)(K:D->Prop):Prop:=Is (ρ[i]?.bind id) K
def XT (m:Bool)(P:Prop):Prop:=@gZ (λ _=>Prop) m P False
def uI (d:D)(acc:List ab)(K:List ab->Prop):Prop:=onP d λ x=>Few acc.length/\K (acc++[x])
noncomputable def zFj (zz:ab):Bool:=@bC (λ _=>Bool) zz true (λ _=>true) (λ _=>true) (λ _=>false) (λ _=>false) (λ _=>false) (λ _=>false)
def YU (d:D)(P:Prop):Prop:=onP d λ x=>ifT (zFj x) P
section
variable (C:Cx)(T:Tabs)(n:Nat)
mutual
noncomputable def wpE:Ex->Rho->zA->(D->zA->Prop)->Prop
 | .nm i,ρ,σ,Q=>onN ρ i λ d=>Q d σ
 | .gl g,_,σ,Q=>Is T.glob[g]? λ p=>Q p.2 σ
 | .c d,_,σ,Q=>Q (.p d) σ
 | .tup es,ρ,σ,Q=>wpEs es ρ σ λ ds σ'=>Q (Yi ds) σ'
 | .lst m es,ρ,σ,Q=>wpEs es ρ σ λ ds σ'=>Is (QN ds) λ xs=>Zk m xs σ' Q
 | .dct kind ks es,ρ,σ,Q=>wpEs es ρ σ λ ds σ'=>Is (mkD kind ks ds) λ mo=>Q (.obj σ'.length) (σ'++[mo])
 | .bin op a b,ρ,σ,Q=>wpE a ρ σ λ x σ'=>wpE b ρ σ' λ y sK=>qt sK op x y λ d=>Q d sK
 | .neg a,ρ,σ,Q=>wpE a ρ σ λ x σ'=>onI x λ i=>Q (.p (.int (-i))) σ'
 | .not a,ρ,σ,Q=>wpE a ρ σ λ x σ'=>isB x λ b=>Q (.p (.bool (!b))) σ'
 | .and es,ρ,σ,Q=>wpAnd es ρ σ Q
 | .or es,ρ,σ,Q=>wpOr es ρ σ Q
 | .cmp a op b,ρ,σ,Q=>wpE a ρ σ λ x σ'=>wpE b ρ σ' λ y sK=>wpC op sK x y λ r=>Q (.p (.bool r)) sK
 | .cmp2 a op b Af c,ρ,σ,Q=>wpE a ρ σ λ x σ'=>wpE b ρ σ' λ y sK=>wpC op sK x y λ r =>
   Br r (wpE c ρ sK λ z sO=>wpC Af sO y z λ r'=>Q (.p (.bool r')) sO) (Q (.p (.bool false)) sK)
 | .ite c a b,ρ,σ,Q=>wpE c ρ σ λ x σ'=>isB x λ r=>Br r (wpE a ρ σ' Q) (wpE b ρ σ' Q)
 | .call m f args,ρ,σ,Q=>wpE f ρ σ λ g σ'=>wpEs args ρ σ' λ ds sK=>match g with
  | .fn a=>XT m (SatCall C T n a ds sK Q)
  | .bi b=>Zj m b ds sK Q
  | _=>False
 | .meth o k args,ρ,σ,Q=>wpE o ρ σ λ x σ'=>onO x λ i=>Get σ' i λ mo=>match mo with
  | .inst K j=>Is (σ'[j]?.bind jB) λ fs=>noO (look k fs) (Is (zY K k T.meth) λ f=>wpEs args ρ σ' λ ds sK=>SatCall C T n f (.obj i::ds) sK Q)
  | mo=>ifT (yQ mo k) (wpEs args ρ σ' λ ds sK=>Get sK i λ mo'=>yD i mo' k ds sK Q)
 | .attr o k,ρ,σ,Q=>wpE o ρ σ λ x σ'=>ja T σ' x k λ d=>Q d σ'
 | .sub o i,ρ,σ,Q=>wpE o ρ σ λ x σ'=>wpE i ρ σ' λ y sK=>jS sK x y λ d=>Q d sK
 | .subk o k,ρ,σ,Q=>wpE o ρ σ λ x σ'=>onO x λ i=>Is (σ'[i]?.bind JT) λ fs=>Is (look k fs) λ d=>Q d σ'
 | .upto o hi,ρ,σ,Q=>wpE o ρ σ λ x σ'=>wpE hi ρ σ' λ y sK=>yn sK x y λ d=>Q d sK
 | .comp m k s6 t it ifs gens,ρ,σ,Q=>wpE it ρ σ λ d σ'=>zk σ' d λ xs i=>Few xs.length /\
   zH (λ x (a:List ab×zA) K=>Is (Zd t x (ρ++bD k none)) λ sL=>wpIfs ifs sL a.2 λ b sY =>
    Br b (wpG (λ ρ σ K=>wpE s6 ρ σ K) gens sL sY a.1 λ tm sO=>zS i sO (K (tm,sO))) (zS i sY (K (a.1,sY)))) xs ([],σ') λ a=>Zk m a.1 a.2 Q
 | .zip a b,ρ,σ,Q=>wpE a ρ σ λ x σ'=>wpE b ρ σ' λ y sK=>qY sK x λ xs=>qY sK y λ ys=>Q (.zp x y xs ys) sK
 | .fstr pre e,ρ,σ,Q=>wpE e ρ σ λ x σ'=>onI x λ i=>Sm i/\Q (.p (.str (pre++ag (toString i)))) σ'
noncomputable def wpEs:List Ex->Rho->zA->(List D->zA->Prop)->Prop
 | [],_,σ,Q=>Q [] σ
 | e::es,ρ,σ,Q=>wpE e ρ σ λ d σ'=>wpEs es ρ σ' λ ds sK=>Q (d::ds) sK
noncomputable def wpAnd:List Ex->Rho->zA->(D->zA->Prop)->Prop
 | [],_,_,_=>False
 | e::es,ρ,σ,Q=>match es with
  | []=>wpE e ρ σ Q
  | e'::r=>wpE e ρ σ λ x σ'=>isB x λ b=>Br b (wpAnd (e'::r) ρ σ' Q) (Q (.p (.bool false)) σ')
noncomputable def wpOr:List Ex->Rho->zA->(D->zA->Prop)->Prop
 | [],_,_,_=>False
 | e::es,ρ,σ,Q=>match es with
  | []=>wpE e ρ σ Q
  | e'::r=>wpE e ρ σ λ x σ'=>isB x λ b=>Br b (Q (.p (.bool true)) σ') (wpOr (e'::r) ρ σ' Q)
noncomputable def wpIfs:List Ex->Rho->zA->(Bool->zA->Prop)->Prop
 | [],_,σ,K=>K true σ
 | e::es,ρ,σ,K=>wpE e ρ σ λ x σ'=>isB x λ b=>Br b (wpIfs es ρ σ' K) (K false σ')
noncomputable def wpG (W:Rho->zA->(D->zA->Prop)->Prop):List Gn->Rho->zA->List ab->(List ab->zA->Prop)->Prop
 | [],ρ,σ,acc,Q=>W ρ σ λ d σ'=>uI d acc λ tm=>Q tm σ'
 | .mk t it ifs::gs,ρ,σ,acc,Q=>wpE it ρ σ λ d σ'=>zk σ' d λ xs i=>Few xs.length /\
   zH (λ x (a:List ab×zA) K=>Is (Zd t x ρ) λ sL=>wpIfs ifs sL a.2 λ b sY =>
    Br b (wpG W gs sL sY a.1 λ tm sO=>zS i sO (K (tm,sO))) (zS i sY (K (a.1,sY)))) xs (acc,σ') λ a=>Q a.1 a.2
end
def VJ (p:Pt)(d:D)(ρ:Rho)(K:Rho->Prop):Prop:=match p with
 | .nm i=>K (ρ.set i (some d))
 | .tup ps=>onP d λ x=>Is (Zd (.tup ps) x ρ) K
def Vj (i:Nat)(es:List (Ky×D))(q:Ky)(d:D)(σ:zA)(K:zA->Prop)(zz:Option D):Prop:=@eh _ (λ _=>Prop) zz (K (σ.set i (.tdict (es++[(q,d)])))) (λ _=>False)
def Ul (σ:zA)(i:Nat)(y d:D)(K:zA->Prop):Prop:=Get σ i λ mo=>match mo with
 | .lst xs=>onI y λ k=>onP d λ x=>Sm k/\k<0/\Is (idx xs.length k) λ j=>K (σ.set i (.lst (xs.set j x)))
 | .idict es=>onI y λ k=>Few es.length/\K (σ.set i (.idict (Qc k d es)))
 | .tdict es=>onT y λ k=>Kd (.tuple k)/\Is (keyDs k) λ q=>Few es.length/\Vj i es q d σ K (zw q es)
 | _=>False
noncomputable def Yn (zz:D):Option (List D):=@D.casesOn (λ _=>Option (List D)) zz (λ x=>(Ye x).bind λ xs=>some (xs.map .p)) (λ _=>none) (λ _=>none) (λ _=>none) (λ ds=>some ds) (λ _ _=>none) (λ _ _ _ _=>none)
mutual
noncomputable def wpT:Tg->D->Rho->zA->(Rho->zA->Prop)->Prop
 | .pt p,d,ρ,σ,Q=>VJ p d ρ λ sL=>Q sL σ
 | .attr o k,d,ρ,σ,Q=>wpE C T n o ρ σ λ x σ'=>onO x λ i=>Qt T σ' i λ K j fs=>noO (zY K k T.meth) (Lt64 fs.length/\Q ρ (σ'.set j (.sdict (put k d fs))))
 | .sub o i,d,ρ,σ,Q=>wpE C T n o ρ σ λ x σ'=>wpE C T n i ρ σ' λ y sK=>onO x λ i=>Ul sK i y d λ sO=>Q ρ sO
 | .subk o k,d,ρ,σ,Q=>wpE C T n o ρ σ λ x σ'=>onO x λ i=>Is (σ'[i]?.bind JT) λ fs=>Few fs.length/\Q ρ (σ'.set i (.rdict (put k d fs)))
 | .tup ts,d,ρ,σ,Q=>Is (Yn d) λ ds=>ifT (bc ts.length ds.length) (wpTs ts ds ρ σ Q)
noncomputable def wpTs:List Tg->List D->Rho->zA->(Rho->zA->Prop)->Prop
 | [],ds,ρ,σ,Q=>match ds with
  | []=>Q ρ σ
  | _::_=>False
 | t::ts,ds,ρ,σ,Q=>match ds with
  | []=>False
  | d::ds=>wpT t d ρ σ λ sL σ'=>wpTs ts ds sL σ' Q
end
def jv (fl:Fl)(P X:Prop):Prop:=@Fl.casesOn (λ _=>Prop) fl P X (λ _=>X)
def yB (fl:Fl)(X:D->Prop)(P:Prop):Prop:=@Fl.casesOn (λ _=>Prop) fl P P (λ d=>X d)
mutual
noncomputable def wpS:St->Rho->zA->(Fl->Rho->zA->Prop)->Prop
 | .expr e,ρ,σ,Q=>wpE C T n e ρ σ λ d σ'=>YU d (Q .next ρ σ')
 | .asg t e,ρ,σ,Q=>wpE C T n e ρ σ λ d σ'=>wpT C T n t d ρ σ' λ sL sK=>Q .next sL sK
 | .ite c a b,ρ,σ,Q=>wpE C T n c ρ σ λ x σ'=>isB x λ r=>Br r (wpSs a ρ σ' Q) (wpSs b ρ σ' Q)
 | .for t it body,ρ,σ,Q=>wpE C T n it ρ σ λ d σ'=>zk σ' d λ xs i=>Few xs.length /\
   zH (λ x (a:Rho×zA) K=>Is (Zd t x a.1) λ sL=>wpSs body sL a.2 λ fl t6 sK=>yB fl (λ d=>Q (.ret d) t6 sK) (zS i sK (K (t6,sK)))) xs (ρ,σ') λ a=>Q .next a.1 a.2
 | .ret e,ρ,σ,Q=>wpE C T n e ρ σ λ d σ'=>Q (.ret d) ρ σ'
 | .retF e,ρ,σ,Q=>wpE C T n e ρ σ λ d σ'=>Is (Yc σ' d) λ x=>Q (.ret (.p x.1)) ρ x.2
 | .retN,ρ,σ,Q=>Q (.ret (.p .none)) ρ σ
 | .cont,ρ,σ,Q=>Q .cont ρ σ
 | .raise,_,_,_=>False
noncomputable def wpSs:List St->Rho->zA->(Fl->Rho->zA->Prop)->Prop
 | [],ρ,σ,Q=>Q .next ρ σ
 | s::ss,ρ,σ,Q=>wpS s ρ σ λ fl sL σ'=>jv fl (wpSs ss sL σ' Q) (Q fl sL σ')
end
end
section
variable {h:aR}{φ:ah->Prop}{μ:List ah}{vs:List af}{ds:List D}
theorem Xs (tj:VDs h φ μ vs ds)(k:on1 ds K):∃ v d,vs=[v]/\ds=[d]/\VD h φ μ v d/\K d :=
 @bA D (λ ds=>VDs h φ μ vs ds->on1 ds K->∃ v d,vs=[v]/\ds=[d]/\VD h φ μ v d/\K d) ds (λ _ k=>k.elim) (λ d r=>@bA D (λ r=>VDs h φ μ vs (d::r)->on1 (d::r) K->∃ v d',vs=[v]/\d::r=[d']/\VD h φ μ v d'/\K d') r
  (λ tj k=>Eeeaa tj.icons λ v w e V W=>⟨v,d,e.trans (congrArg (v::·) W.inil),rfl,V,k⟩) λ _ _ _ k=>k.elim) tj k
theorem zAS {K:D->D->Prop}(tj:VDs h φ μ vs ds)(k:on2 ds K):∃ v w d e,vs=[v,w]/\ds=[d,e]/\VD h φ μ v d/\VD h φ μ w e/\K d e :=
 @bA D (λ ds=>VDs h φ μ vs ds->on2 ds K->∃ v w d e,vs=[v,w]/\ds=[d,e]/\VD h φ μ v d/\VD h φ μ w e/\K d e) ds (λ _ k=>k.elim)
  (λ d r tj k=>Eeeaa tj.icons λ v w e1 V tv=>Eeeaaa (Xs tv k) λ w' e e2 e3 W k=>⟨v,w',d,e,e1.trans (congrArg (v::·) e2),congrArg (d::·) e3,V,W,k⟩) tj k
@[elab_as_elim] theorem qT (V:VDs h φ μ vs ds)(k:on1 ds K)(f:∀ v d,VD h φ μ v d->K d->motive [v]):motive vs:=Eeeaaa (Xs V k) λ v d e _ p q=>e▸f v d p q
@[elab_as_elim] theorem zAv {K:D->D->Prop}(V:VDs h φ μ vs ds)(k:on2 ds K)(f:∀ v w d e,VD h φ μ v d->VD h φ μ w e->K d e->motive [v,w]):motive vs:=Eeeeeaaaa (zAS V k) λ v w d e q _ a b c=>q▸f v w d e a b c
theorem UR {K2:D->D->Prop}(tj:VDs h φ μ vs ds)(k:yV ds K K2):(∃ v d,vs=[v]/\VD h φ μ v d/\K d)∨∃ v w d e,vs=[v,w]/\VD h φ μ v d/\VD h φ μ w e/\K2 d e:=by
 cases ds with
 | nil=>exact k.elim
 | cons d r =>
  refine Eeeaa tj.icons λ v w e1 V tv=>?_
  cases r with
  | nil=>exact .inl ⟨v,d,e1.trans (congrArg (v::·) tv.inil),V,k⟩
  | cons e r=>exact .inr (Eeeaaa (Xs (K:=K2 d) tv k) λ w' e' e2 e3 W k=>⟨v,w',d,e',e1.trans (congrArg (v::·) e2),V,W,k⟩)
end
theorem Xq {α:Type}{o:Option α}(h:noO o P):o=none/\P:=by
 cases o with
 | none=>exact ⟨rfl,h⟩
 | some _=>exact h.elim
theorem UJ {i:Nat}{K:ah->Nat->List (Nat×D)->Prop}(h:Qt T σ i K):∃ C j fs,σ[i]?=some (.inst C j)/\σ[j]?=some (.sdict fs)/\K C j fs:=by
 refine Eea (Is.h h) λ mo e h=>?_
 cases mo with
 | inst C j =>
  refine Eea (Is.h h) λ fs e' h=>?_
  refine Eea (ob e') λ mo e2 e3=>?_
  obtain rfl:=vB e3
  exact ⟨C,j,fs,e,e2,h⟩
 | _=>exact h.elim
end Mine.Internal
namespace Mine.Internal
open PySem PySem.Calls PyProof.Rows PySem.W
set_option tactic.hygienic false
variable {h':aR}{φ j':ah->Prop}{μ sJ fr:List ah}{b B:ah}{ρ s0:Rho}{A:aM}{C:Cx}{T:Tabs}{s tz:ao}{mo:MO}{prog:bN}{w:cr}{i:Nat}{o:eV}{xs:List ab}{v:af}{vs:List af}{x:aN}
structure Fm where
 env:kH
 ks:List (aN×aW)
 own:List ah
 fs:List kH
variable {F:Fm}
inductive OptV (h:aR)(φ:ah->Prop)(μ:List ah):Option af->Option (Option D)->Prop
 | no (o:Option af):OptV h φ μ o (some none)
 | is {v:af} {d:D}:VD h φ μ v d->OptV h φ μ (some v) (some (some d))
def acc (k:aW):Prop:=k=.local∨k=.cell∨k=.free
structure FrI (F:Fm)(h:aR)(φ:ah->Prop)(μ:List ah)(ρ:Rho):Prop where
 kind:F.env.scope.kind=.function
 glob:F.env.globals=cv
 blt:F.env.builtins=fH
 len:ρ.length=F.ks.length
 loc:∃ m,h.Ns F.env.locals m/\∀ (i:Nat) (x:aN),F.ks[i]?=some (x,NameKind.local)->F.env.kindOf x=some .local/\OptV h φ μ (m x) ρ[i]?
 cell:∀ (i:Nat) (x:aN) (k:aW),F.ks[i]?=some (x,k)->(k=.cell∨k=.free)->(F.env.kindOf x=some .cell∨(k=.free/\F.env.kindOf x=some .free))/\∃ c v,F.env.cells.lookup x=some c/\h.IsCell c v/\OptV h φ μ v ρ[i]?/\(k=.cell->c∈F.own)
 uniq:∀ (i j:Nat) (x:aN) (k k':aW),F.ks[i]?=some (x,k)->F.ks[j]?=some (x,k')->acc k->acc k'->i=j
 Lμ:F.env.locals∉μ
 Lφ:¬ φ F.env.locals
 cμ:∀ x c,F.env.cells.lookup x=some c->(∃ o,h.get? c=some o)/\c∉μ/\¬ φ c/\c≠F.env.locals
 cinj:∀ x y c,F.env.cells.lookup x=some c->F.env.cells.lookup y=some c->x=y
 own:∀ c,c∈F.own->∃ o,h.get? c=some o
 outs:∀ v,v∈F.fs->v.scope.kind≠.module/\∃ L,v.frame=some L/\(L=F.env.locals∨∃ o,h.get? L=some o/\FrO o/\L∉μ/\¬ φ L/\L∉F.own/\L≠F.env.locals)
theorem OptV.mono {h:aR}(k:∀ a,φ a->j' a/\h'.get? a=h.get? a)(m:∀ (i:Nat) (a:ah),μ[i]?=some a->sJ[i]?=some a)
  {o:Option af} {d:Option (Option D)} (p:OptV h φ μ o d):OptV h' j' sJ o d:=by
 cases p with
 | no o=>exact .no o
 | is q=>exact .is (q.mono k m)
theorem JZ {h:aR}{a:ah}{m:aN->Option af}(n:h.Ns a m)(k:∀ o,h.get? a=some o->Kept fr b o (h'.get? a)):h'.Ns a m:=by
 (refine Eeeeaa (n) λ o es ep ho hd r=>?_;try clear n)
 rcases k o ho with e | ⟨_,sl,e⟩
 ·exact ⟨o,es,ep,e,hd,r⟩
 ·exact ⟨_,es,ep,e,hd,r⟩
theorem vH {h:aR}{a:ah}{v:Option af}(n:h.IsCell a v)(k:∀ o,h.get? a=some o->Kept fr b o (h'.get? a)):h'.IsCell a v:=by
 (refine Eea (n) λ o ho hd=>?_;try clear n)
 rcases k o ho with e | ⟨_,sl,e⟩
 ·exact ⟨o,e,hd⟩
 ·exact ⟨_,e,hd⟩
theorem FrI.outsK {h:aR}(x:FrI F h φ μ ρ)(k:∀ v L o,v∈F.fs->v.frame=some L->h.get? L=some o->L∉μ->¬ φ L->L∉F.own->L≠F.env.locals->(∃ o',h'.get? L=some o'/\o'.data=o.data)/\L∉sJ/\¬ j' L) :
  ∀ v,v∈F.fs->v.scope.kind≠.module/\∃ L,v.frame=some L/\(L=F.env.locals∨∃ o,h'.get? L=some o/\FrO o/\L∉sJ/\¬ j' L/\L∉F.own/\L≠F.env.locals):=λ v hv=>by
 (refine Ea (x.outs v hv) λ h1 tM=>?_;refine Eea tM λ L h2 h3=>?_)
 refine ⟨h1,L,h2,h3.imp id λ ⟨o,a,b,c,f,d,e⟩=>?_⟩
 refine Eaa (k v L o hv h2 a c f d e) λ Bu e3 e4=>?_
 refine Eea Bu λ o' e1 e2=>?_
 exact ⟨o',e1,let ⟨es,n,q⟩:=b;⟨es,n,e2.trans q⟩,e3,e4,d,e⟩
theorem FrI.ne_out {h:aR}(x:FrI F h φ μ ρ)(hB:h.get? B=none){v:kH}{L:ah}(hv:v∈F.fs)(hL:v.frame=some L):L≠B:=λ e=>by
 subst e
 (refine Ea (x.outs v hv) λ _ Aw=>?_;refine Eea Aw λ L' h2 h3=>?_)
 rw [hL] at h2;(injection h2 with y1y0;subst y1y0)
 rcases h3 with h3 | ⟨o,h3,_⟩
 ·(refine Eea (x.loc) λ m Bt=>?_;(refine Eeeea (Bt) λ o _ _ ho _=>?_;try clear Bt);intro _)
  rw [<- h3,hB] at ho;cases ho
 ·rw [hB] at h3;cases h3
theorem jb {fs:List kH}(h:A.frames=some fs):frA A=frL fs:=by
 unfold frA;erw [h];rfl
theorem FrI.ne_fr {h:aR}(x:FrI F h φ μ ρ)(hB:h.get? B=none):B∉frL F.fs:=λ m=>by
 refine Eea (cx.mp m) λ v hv hL=>?_
 exact x.ne_out hB hv hL rfl
theorem FrI.out {h:aR}(x:FrI F h φ μ ρ)(hF:A.frames=some F.fs):Out A h φ μ:=⟨F.fs,hF,λ v hv=>by
 (refine Ea (x.outs v hv) λ h1 Ch=>?_;refine Eea Ch λ L h2 h3=>?_)
 rcases h3 with h3 | ⟨o,h3,h4,h5,h6,_⟩
 ·(refine Eea (x.loc) λ m AY=>?_;(refine Eeeeaa (AY) λ o es ep ho hd _=>?_;try clear AY);intro _)
  exact ⟨h1,L,o,h2,h3▸ho,⟨es,ep,hd⟩,h3▸x.Lμ,h3▸x.Lφ⟩
 ·exact ⟨h1,L,o,h2,h3,h4,h5,h6⟩⟩
theorem FrI.ext {h:aR}{wr:List ah}(x:FrI F h φ μ ρ)(e:Ext h φ μ h' j' sJ wr fr)
  (hL:F.env.locals∉wr) (hc:∀ y c,F.env.cells.lookup y=some c->c∉wr) (ho:∀ v L,v∈F.fs->v.frame=some L->L≠F.env.locals->L∉wr):FrI F h' j' sJ ρ:=by
 refine Eea (x.loc) λ m hn hm=>?_
 refine ⟨x.kind,x.glob,x.blt,x.len,⟨m,JZ hn λ o ho=>e.oth _ o ho x.Lμ hL,λ i y hi=>⟨(hm i y hi).1,(hm i y hi).2.mono e.frz e.pre⟩⟩,λ i y k hi hk=>?_,x.uniq,
  (by (refine Eeeea (hn) λ o _ _ ho _=>?_;try clear hn);exact e.notin ho x.Lμ),(by (refine Eeeea (hn) λ o _ _ ho _=>?_;try clear hn);exact e.notfrz ho x.Lμ x.Lφ),λ y c hy=>?_,x.cinj,λ c hc=>let ⟨o,ho⟩:=x.own c hc;e.ex c o ho,x.outsK λ v L o hv hf h1 h2 h3 _ h4=>⟨(e.oth L o h1 h2 (ho v L hv hf h4)).dat,e.notin h1 h2,e.notfrz h1 h2 h3⟩⟩
 ·(refine Ea (x.cell i y k hi hk) λ h1 B0=>?_;refine Eeeaaa B0 λ c v Ah Ap BU BO=>?_)
  exact ⟨h1,c,v,Ah,vH Ap λ o ho=>e.oth _ o ho (x.cμ y c Ah).2.1 (hc y c Ah),BU.mono e.frz e.pre,BO⟩
 ·(refine Z0 (x.cμ y c hy) λ Bm=>?_;(refine Ee (Bm) λ o h0=>?_;try clear Bm);intro h1 h2 h3)
  exact ⟨e.ex c o h0,e.notin h0 h1,e.notfrz h0 h1 h2,h3⟩
structure Go (C:Cx)(T:Tabs)(F:Fm)(s:ao)(φ:ah->Prop)(μ:List ah)(s':ao)(j':ah->Prop)(sJ:List ah)(sL:Rho)(σ':zA):Prop where
 st:∃ h tk,s'={s with heap:=h,toks:=tk}
 rel:Rel C T s'.heap j' sJ σ'
 fr:FrI F s'.heap j' sJ sL
 ext:Ext s.heap φ μ s'.heap j' sJ (F.env.locals::F.own) (frL F.fs)
@[elab_as_elim] theorem Go.mst {s':ao}{sL:Rho}{σ':zA}{motive:ao->Prop}(G:Go C T F s φ μ s' j' sJ sL σ')(k:∀ h tk,motive {s with heap:=h,toks:=tk}):motive s':=Eee G.st λ h tk e=>e▸k h tk
theorem Go.refl {σ:zA}(R:Rel C T s.heap φ μ σ)(I:FrI F s.heap φ μ ρ):Go C T F s φ μ s φ μ ρ σ :=
 ⟨⟨s.heap,s.toks,rfl⟩,R,I,.refl⟩
theorem Go.trans {C:Cx}{T:Tabs}{F:Fm}{s s' tz:ao}{φ j' th:ah->Prop}{μ sJ s7:List ah}{sL t6:Rho}{σ' sK:zA}
  (x:Go C T F s φ μ s' j' sJ sL σ') (y:Go C T F s' j' sJ tz th s7 t6 sK):Go C T F s φ μ tz th s7 t6 sK:=by
 (refine Eee (x.st) λ h tk AD=>?_;obtain rfl:=AD)
 (refine Eee (y.st) λ h' A9 Bo=>?_;obtain rfl:=Bo)
 exact ⟨⟨h',A9,rfl⟩,y.rel,y.fr,x.ext.trans y.ext⟩
theorem Go.tok {C:Cx}{T:Tabs}{F:Fm}{s s':ao}{φ j':ah->Prop}{μ sJ:List ah}{sL:Rho}{σ':zA}
  (x:Go C T F s φ μ s' j' sJ sL σ') (tk:Nat):Go C T F s φ μ {s' with toks:=tk} j' sJ sL σ':=by
 (refine Eee (x.st) λ h A9 D5=>?_;obtain rfl:=D5)
 exact ⟨⟨h,tk,rfl⟩,x.rel,x.fr,x.ext⟩
section
variable {C:Cx}{T:Tabs}{F:Fm}{s s':ao}{φ j':ah->Prop}{μ sJ:List ah}{ρ sL:Rho}{σ σ':zA}
theorem Go.of_extF {tk:Nat}(I:FrI F s.heap φ μ ρ)(R':Rel C T h' j' sJ σ')(e:Ext s.heap φ μ h' j' sJ [] (frL F.fs)) :
  Go C T F s φ μ {s with heap:=h',toks:=tk} j' sJ ρ σ' :=
 ⟨⟨h',tk,rfl⟩,R',I.ext e (λ h=>nomatch h) (λ _ _ _ h=>nomatch h) (λ _ _ _ _ _ h=>nomatch h),e.wider λ _ _ h=>nomatch h⟩
theorem Go.of_ext {tk:Nat}(I:FrI F s.heap φ μ ρ)(R':Rel C T h' j' sJ σ')(e:Ext s.heap φ μ h' j' sJ []) :
  Go C T F s φ μ {s with heap:=h',toks:=tk} j' sJ ρ σ':=Go.of_extF I R' e.slack
theorem zj (h:aR):h.get? h.objs.size=none:=dp (bn _)
noncomputable def WI (mo:MO):Bool:=@MO.casesOn (λ _=>Bool) mo (λ _=>false) (λ _=>false) (λ _=>false) (λ _=>false) (λ _=>false) (λ _ _=>false) true (λ _=>false)
theorem Rel.notin_none (R:Rel C T s.heap φ μ σ)(hb:s.heap.get? b=none):b∉μ:=λ h=>Ee (aS.mp h) λ i hi=>Ee (R.lt i _ hi) λ _ e=>nn (hb.symm.trans e)
theorem Rel.notfrz_none (R:Rel C T s.heap φ μ σ)(hb:s.heap.get? b=none):¬ φ b:=λ h=>Ee (R.frz _ h) λ _ e=>nn (hb.symm.trans e)
theorem yM {P:Prop}(e:mo=.dead∨P)(h:WI mo=false):P:=e.resolve_left λ q=>a5 (h.symm.trans (congrArg WI q))
theorem DictOf.eqAt {K:Type}[DecidableEq K]{kd:KeyKind prog w K}{h:aR}{a:ah}{kvs:List (K×af)}(x:h.DictOf kd a kvs)(e:h'.get? a=h.get? a):h'.DictOf kd a kvs :=
 Eeeea x λ o es ep ho r=>⟨o,es,ep,e.trans ho,r⟩
section
variable {h h':aR}{μ sJ:List ah}{P:iA}
theorem IEs.mono {kvs:List (Int×af)}{es:List (Int×D)}(q:IEs h φ μ kvs es)(k:∀ a,φ a->j' a/\h'.get? a=h.get? a)(m:∀ (i:Nat) (a:ah),μ[i]?=some a->sJ[i]?=some a):IEs h' j' sJ kvs es:=@IEs.rec h φ μ (λ kvs es _=>IEs h' j' sJ kvs es) .nil (λ p _ ih=>.cons (p.mono k m) ih) kvs es q
theorem REs.mono {kvs:List (aN×af)}{es:List (Nat×D)}(q:REs T h φ μ kvs es)(k:∀ a,φ a->j' a/\h'.get? a=h.get? a)(m:∀ (i:Nat) (a:ah),μ[i]?=some a->sJ[i]?=some a):REs T h' j' sJ kvs es:=@REs.rec T h φ μ (λ kvs es _=>REs T h' j' sJ kvs es) .nil (λ n p _ ih=>.cons n (p.mono k m) ih) kvs es q
theorem SEs.mono {kvs:List dS}{es:List (Nat×D)}(q:SEs T P h φ μ kvs es)(k:∀ a,φ a->j' a/\h'.get? a=h.get? a)(m:∀ (i:Nat) (a:ah),μ[i]?=some a->sJ[i]?=some a):SEs T P h' j' sJ kvs es:=@SEs.rec T P h φ μ (λ kvs es _=>SEs T P h' j' sJ kvs es) .nil (λ n p _ ih=>.cons n (p.mono k m) ih) kvs es q
theorem TEs.mono {kvs:List (Ky×ah×af)}{es:List (Ky×D)}(q:TEs h φ μ kvs es)(k:∀ a,φ a->j' a/\h'.get? a=h.get? a)(m:∀ (i:Nat) (a:ah),μ[i]?=some a->sJ[i]?=some a):TEs h' j' sJ kvs es:=@TEs.rec h φ μ (λ kvs es _=>TEs h' j' sJ kvs es) .nil (λ p hk hd v _ ih=>.cons (p.mono k) hk hd (v.mono k m) ih) kvs es q
end
theorem Zp {h:aR}{μ sJ:List ah}{a:ah}(x:qF T prog w h φ μ a mo)(k:∀ a,φ a->j' a/\h'.get? a=h.get? a)(m:∀ (i:Nat) (a:ah),μ[i]?=some a->sJ[i]?=some a)
  (e:mo=.dead∨h'.get? a=h.get? a):qF T prog w h' j' sJ a mo :=
 @MO.casesOn (λ mo=>qF T prog w h φ μ a mo->(mo=.dead∨h'.get? a=h.get? a)->qF T prog w h' j' sJ a mo) mo
  (λ _ x e=>Eeea x λ vs n ho r=>⟨vs,n,(yM e rfl).trans ho,r.mono k⟩)
  (λ _ x e=>⟨x.1,Eea x.2 λ kvs p q=>⟨kvs,DictOf.eqAt p (yM e rfl),q.mono k m⟩⟩)
  (λ _ x e=>⟨x.1,Eea x.2 λ kvs p q=>⟨kvs,DictOf.eqAt p (yM e rfl),q.mono k m⟩⟩)
  (λ _ x e=>Eeea x λ ds n ho r=>⟨ds,n,(yM e rfl).trans ho,r.mono k m⟩)
  (λ _ x e=>⟨x.1,Eea x.2 λ xs p q=>⟨xs,Eeeea p λ o ds ep ho r=>⟨o,ds,ep,(yM e rfl).trans ho,r⟩,q.mono k m⟩⟩)
  (λ _ _ x e=>⟨x.1,Eea x.2 λ d h1 h2=>⟨d,m _ _ h1,(yM e rfl).trans h2⟩⟩)
  (λ _ _=>trivial) (λ _ x e=>⟨Eeee x.h λ o es ep r=>Ee r λ t r=>Eea r λ l' ho r=>⟨o,es,ep,t,l',(yM e rfl).trans ho,r⟩⟩) x e
theorem jX {α:Type}{l:List α}{a:α}(e:l[i]?=some a):a∈l:=aS.mpr ⟨i,e⟩
theorem QY {α:Type}{l:List α}{a:α}(e:l[i]?=some a):i<l.length:=(av.mp e).1
theorem xr {α:Type}{l:List α}{x:α}{a:α}(e:l[i]?=some a):(l++[x])[i]?=some a:=(aB (QY e)).trans e
theorem Zu {α:Type}{x:α}(l:List α):∀ {i:Nat} {a:α},(l++[x])[i]?=some a->l[i]?=some a∨(i=l.length/\a=x) :=
 @dQ α (λ l=>∀ {i:Nat} {a:α},(l++[x])[i]?=some a->l[i]?=some a∨(i=l.length/\a=x)) (λ {i _}=>@iB (λ i=>[x][i]?=some _->([]:List α)[i]?=some _∨(i=0/\_=x)) i (λ e=>.inr ⟨rfl,(so e).symm⟩) λ _ e=>nn e)
  (λ b l ih {i _}=>@iB (λ i=>(b::l++[x])[i]?=some _->(b::l)[i]?=some _∨(i=l.length + 1/\_=x)) i (λ e=>.inl e) λ _ e=>(ih e).imp id λ q=>⟨congrArg (· + 1) q.1,q.2⟩) l
theorem zAR {α:Type}{l:List α}{j:Nat}{x a:α}(e:(l.set i x)[j]?=some a):(i=j/\a=x)∨(i≠j/\l[j]?=some a):=by
 by_cases h:i=j
 ·subst h
  have hl:i<l.length:=by have:=QY e;rw [eW] at this;exact this
  rw [fu hl] at e
  exact .inl ⟨rfl,(so e).symm⟩
 ·rw [dq h] at e;exact .inr ⟨h,e⟩
theorem Rel.grow (R:Rel C T s.heap φ μ σ)(k:∀ b o,s.heap.get? b=some o->h'.get? b=some o):Rel C T h' φ μ σ/\Ext s.heap φ μ h' φ μ []:=by
 have kf:∀ a,φ a->φ a/\h'.get? a=s.heap.get? a:=λ a f=>⟨f,by refine Ee (R.frz a f) λ o e=>?_;erw [e];exact k a o e⟩
 have X:Ext s.heap φ μ h' φ μ []:=⟨kf,λ a f=>.inl f,λ _ _ e=>e,λ _ _ e=>.inl e,λ b o e=>⟨o,k b o e⟩,λ b o e _ _=>(k b o e)▸Kept.refl _⟩
 refine ⟨⟨λ b o e=>k b o (R.keep b o e),R.base,λ a f=>let ⟨o,e⟩:=R.frz a f;⟨o,k a o e⟩,R.len,R.nodup,λ i a e=>let ⟨o,e'⟩:=R.lt i a e;⟨o,k a o e'⟩,R.apart,λ i a mo e e'=>?_⟩,X⟩
 refine Ee (R.lt i a e) λ o eo=>?_
 exact Zp (R.at_ i a mo e e') kf (λ _ _ e=>e) (.inr ((k a o eo).trans eo.symm))
theorem Rel.more {D:ah}{h:aR}(R:Rel C T h φ μ σ)(hD:h.get? D=some o)(hm:D∉μ):Rel C T h (λ a=>φ a∨a=D) μ σ:=by
 have kf:∀ a,φ a->(φ a∨a=D)/\h.get? a=h.get? a:=λ a f=>⟨.inl f,rfl⟩
 refine ⟨R.keep,λ b o e=>.inl (R.base b o e),λ a f=>f.elim (R.frz a) λ e=>⟨o,e▸hD⟩,R.len,R.nodup,R.lt,λ i a e f=>f.elim (R.apart i a e) λ q=>absurd (aS.mpr ⟨i,q▸e⟩) hm,λ i a mo e e'=>?_⟩
 exact Zp (R.at_ i a mo e e') kf (λ _ _ e=>e) (.inr rfl)
theorem Rel.newF {D:ah}(R:Rel C T s.heap φ μ σ)(k:∀ b o,s.heap.get? b=some o->h'.get? b=some o)(hD:s.heap.get? D=none)(Cz:h'.get? D=some o) :
  Rel C T h' (λ a=>φ a∨a=D) μ σ/\Ext s.heap φ μ h' (λ a=>φ a∨a=D) μ []:=by
 refine Ea (R.grow k) λ R' X=>?_
 refine ⟨R'.more Cz (R.notin_none hD),⟨λ a f=>⟨.inl f,(X.frz a f).2⟩,λ a f=>f.elim .inl λ e=>.inr (.inl (e▸hD)),X.pre,X.fresh,X.ex,X.oth⟩⟩
theorem Rel.pushF (R:Rel C T s.heap φ μ σ)(o:eV)(hf:o.isFreed=false):Rel C T (s.heap.push o) (λ a=>φ a∨a=s.heap.objs.size) μ σ /\
  Ext s.heap φ μ (s.heap.push o) (λ a=>φ a∨a=s.heap.objs.size) μ []/\(s.heap.push o).get? s.heap.objs.size=some o:=by
 have g:=aI s.heap hf
 refine Ea (R.newF (λ b o' e=>aq o e) (zj _) g) λ R' X=>?_
 exact ⟨R',X,g⟩
theorem Rel.newM {D:ah}(R:Rel C T s.heap φ μ σ)(k:∀ b o,s.heap.get? b=some o->h'.get? b=some o)(hD:s.heap.get? D=none)(o:eV)(Cz:h'.get? D=some o)(mo:MO)
  (hm:(∀ a,φ a->φ a/\h'.get? a=s.heap.get? a)->qF T C.prog C.w h' φ (μ++[D]) D mo) :
  Rel C T h' φ (μ++[D]) (σ++[mo])/\Ext s.heap φ μ h' φ (μ++[D]) []/\(μ++[D])[σ.length]?=some D:=by
 refine Ea (R.grow k) λ R' X'=>?_
 have nm:=R.notin_none hD
 have X:Ext s.heap φ μ h' φ (μ++[D]) []:=⟨X'.frz,λ _ f=>.inl f,λ _ _ e=>xr e,λ i a e=>(Zu μ e).imp id λ (q:i=μ.length/\a=D)=>q.2▸hD,X'.ex,X'.oth⟩
 refine ⟨⟨R'.keep,R'.base,R'.frz,?_,λ i j a ei ej=>?_,λ i a e=>?_,λ i a e f=>?_,λ i a mo' e e'=>?_⟩,X,R.len▸aX⟩
 ·(erw [ak];erw [ak];erw [R.len]);rfl
 ·exact (Zu μ ei).elim (λ h=>(Zu μ ej).elim (λ h'=>R.nodup i j a h h') λ h'=>absurd (h'.2▸jX h) nm) λ h=>(Zu μ ej).elim (λ h'=>absurd (h.2▸jX h') nm) λ h'=>h.1.trans h'.1.symm
 ·exact (Zu μ e).elim (λ h=>R'.lt i a h) λ h=>⟨o,h.2▸Cz⟩
 ·exact (Zu μ e).elim (λ h=>xr (R.apart i a h f)) λ h=>absurd (h.2▸f) (R.notfrz_none hD)
 ·refine (Zu μ e).elim (λ h=>?_) λ h=>?_
  ·refine (Zu σ e').elim (λ e'=>Ee (R.lt i a h) λ o2 e2=>Zp (R.at_ i a mo' h e') X'.frz X.pre (.inr ((k a o2 e2).trans e2.symm))) λ q=>absurd (QY h) (oS (R.len▸q.1▸bn _))
  ·refine (Zu σ e').elim (λ e'=>absurd (QY e') (oS (R.len▸h.1▸bn _))) λ q=>?_
   (erw [h.2];erw [q.2]);exact hm X'.frz
theorem Rel.pushM (R:Rel C T s.heap φ μ σ)(o:eV)(mo:MO)(hf:o.isFreed=false)(hm:∀ h',h'.get? s.heap.objs.size=some o->(∀ a,φ a->φ a/\h'.get? a=s.heap.get? a)->qF T C.prog C.w h' φ (μ++[s.heap.objs.size]) s.heap.objs.size mo) :
  Rel C T (s.heap.push o) φ (μ++[s.heap.objs.size]) (σ++[mo])/\Ext s.heap φ μ (s.heap.push o) φ (μ++[s.heap.objs.size]) []/\(μ++[s.heap.objs.size])[σ.length]?=some s.heap.objs.size:=by
 have g:=aI s.heap hf
 exact R.newM (λ b o' e=>aq o e) (zj _) o g mo (hm _ g)
theorem Rel.updG {a:ah}{mo':MO}(R:Rel C T s.heap φ μ σ)(ha:μ[i]?=some a)(hi:σ[i]?=some mo)(hd:mo≠.dead)(hs:∀ b o,b≠a->s.heap.get? b=some o->h'.get? b=some o)(hx:∃ o,h'.get? a=some o)
  (hm:(∀ a,φ a->φ a/\h'.get? a=s.heap.get? a)->qF T C.prog C.w h' φ μ a mo'):Rel C T h' φ μ (σ.set i mo')/\Ext s.heap φ μ h' φ μ []:=by
 have na:¬ φ a:=λ f=>hd (so (hi.symm.trans (R.apart i a ha f)))
 have HK:∀ b,b≠a->(∃ o,s.heap.get? b=some o)->h'.get? b=s.heap.get? b:=λ b hb h=>Ee h λ o e=>(hs b o hb e).trans e.symm
 have k:∀ b,φ b->φ b/\h'.get? b=s.heap.get? b:=λ b f=>⟨f,HK b (λ e=>na (e▸f)) (R.frz b f)⟩
 have ex:∀ b o,s.heap.get? b=some o->∃ o',h'.get? b=some o':=λ b o e=>(rq (b=a)).elim (λ q=>q▸hx) λ q=>⟨o,hs b o q e⟩
 refine ⟨⟨λ b o e=>hs b o (λ q=>na (q▸R.base b o e)) (R.keep b o e),R.base,λ b f=>Ee (R.frz b f) λ o e=>ex b o e,by erw [eW];exact R.len,R.nodup,
  λ j b e=>Ee (R.lt j b e) λ o e'=>ex b o e',λ j b e f=>?_,λ j b Cb e e'=>?_⟩,⟨k,λ _ f=>.inl f,λ _ _ e=>e,λ _ _ e=>.inl e,ex,λ b o e nb _=>.inl (hs b o (λ q=>nb (q▸jX ha)) e)⟩⟩
 ·exact (dq λ (h:i=j)=>na (so (ha.symm.trans (h▸e))▸f)).trans (R.apart j b e f)
 ·refine (zAR e').elim (λ (q:i=j/\Cb=mo')=>?_) λ q=>Zp (R.at_ j b Cb e q.2) k (λ _ _ e=>e) (.inr (HK b (λ x=>q.1 (R.nodup i j a ha (x▸e))) (R.lt j b e)))
  (erw [q.2];erw [so ((show μ[i]?=some b from q.1.symm▸e).symm.trans ha)])
  exact hm k
theorem Rel.upd {a:ah}{mo':MO}(R:Rel C T s.heap φ μ σ)(ha:μ[i]?=some a)(hi:σ[i]?=some mo)(hd:mo≠.dead)(hs:cn a s.heap h')(hx:∃ o,h'.get? a=some o)
  (hm:(∀ a,φ a->φ a/\h'.get? a=s.heap.get? a)->qF T C.prog C.w h' φ μ a mo'):Rel C T h' φ μ (σ.set i mo')/\Ext s.heap φ μ h' φ μ []:=R.updG ha hi hd (λ b _ hb e=>(hs.2 b hb).trans e) hx hm
theorem Rel.freeze {a:ah}(R:Rel C T s.heap φ μ σ)(ha:μ[i]?=some a)(hi:σ[i]?=some (.lst xs)) :
  Rel C T s.heap (λ b=>φ b∨b=a) μ (σ.set i .dead)/\Ext s.heap φ μ s.heap (λ b=>φ b∨b=a) μ []/\VP s.heap (λ b=>φ b∨b=a) (.ref a) (.list xs):=by
 have k:∀ b,φ b->(φ b∨b=a)/\s.heap.get? b=s.heap.get? b:=λ b f=>⟨.inl f,rfl⟩
 refine Eeea (R.at_ i a _ ha hi) λ vs n ho hp=>?_
 refine ⟨⟨R.keep,λ b o e=>.inl (R.base b o e),λ b f=>f.elim (R.frz b) λ e=>e▸R.lt i a ha,by erw [eW];exact R.len,R.nodup,R.lt,λ j b e f=>?_,λ j b Cb e e'=>?_⟩,
  ⟨k,λ b f=>f.elim .inl λ e=>.inr (.inr (e▸jX ha)),λ _ _ e=>e,λ _ _ e=>.inl e,λ b o e=>⟨o,e⟩,λ b o e _ _=>.inl e⟩,.lst (.inr rfl) ⟨_,ho,rfl,_,rfl⟩ (hp.mono k)⟩
 ·refine (rq (i=j)).elim (λ q=>q▸fu (QY hi)) λ q=>(dq q).trans (f.elim (R.apart j b e) λ x=>absurd (R.nodup i j b (x▸ha) e) q)
 ·exact (zAR e').elim (λ (q:i=j/\Cb=.dead)=>q.2▸trivial) λ q=>Zp (R.at_ j b Cb e q.2) k (λ _ _ e=>e) (.inr rfl)
end
def NoE:af->ao->Prop:=λ _ _=>False
def PV (C:Cx)(T:Tabs)(F:Fm)(s:ao)(φ:ah->Prop)(μ:List ah)(ρ:Rho)(Q:D->zA->Prop):af->ao->Prop:=λ v s' =>
 ∃ j' sJ d σ',Go C T F s φ μ s' j' sJ ρ σ'/\VD s'.heap j' sJ v d/\Q d σ'
def PVs (C:Cx)(T:Tabs)(F:Fm)(s:ao)(φ:ah->Prop)(μ:List ah)(ρ:Rho)(Q:List D->zA->Prop):List af->ao->Prop:=λ vs s' =>
 ∃ j' sJ ds σ',Go C T F s φ μ s' j' sJ ρ σ'/\VDs s'.heap j' sJ vs ds/\Q ds σ'
def PB (C:Cx)(T:Tabs)(F:Fm)(s:ao)(φ:ah->Prop)(μ:List ah)(ρ:Rho)(K:Bool->zA->Prop):Bool->ao->Prop:=λ b s' =>
 ∃ j' sJ σ',Go C T F s φ μ s' j' sJ ρ σ'/\K b σ'
section
variable {C:Cx}{T:Tabs}{F:Fm}{s s':ao}{φ j':ah->Prop}{μ sJ:List ah}{ρ sL:Rho}{σ σ':zA}{A:aM}
theorem pvI {Q:D->zA->Prop}{d:D}(G:Go C T F s φ μ s' j' sJ ρ σ')(V:VD s'.heap j' sJ v d)(q:Q d σ'):PV C T F s φ μ ρ Q v s':=⟨j',sJ,d,σ',G,V,q⟩
theorem pbI {K:Bool->zA->Prop}{b:Bool}(G:Go C T F s φ μ s' j' sJ ρ σ')(q:K b σ'):PB C T F s φ μ ρ K b s':=⟨j',sJ,σ',G,q⟩
theorem PV.up {Q:D->zA->Prop}(G:Go C T F s φ μ s' j' sJ s0 σ')(h:PV C T F s' j' sJ ρ Q v tz):PV C T F s φ μ ρ Q v tz:=by
 (refine Eeeeeaa (h) λ tx tD d sY x8 V q=>?_;try clear h)
 exact pvI (G.trans x8) V q
theorem PB.up {Q:Bool->zA->Prop}{v:Bool}(G:Go C T F s φ μ s' j' sJ s0 σ')(h:PB C T F s' j' sJ ρ Q v tz):PB C T F s φ μ ρ Q v tz:=by
 (refine Eeeea (h) λ tx tD sY x8 q=>?_;try clear h)
 exact pbI (G.trans x8) q
noncomputable def DX (C:Cx)(T:Tabs)(F:Fm)(A:aM)(t:kI af)(ρ:Rho)(σ:zA)(Q:D->zA->Prop):Prop :=
 ∀ (s:ao) (φ:ah->Prop) (μ:List ah),Rel C T s.heap φ μ σ->FrI F s.heap φ μ ρ->wpAny (model C.prog C.w) A t (PV C T F s φ μ ρ Q) NoE s
noncomputable def DXs (C:Cx)(T:Tabs)(F:Fm)(A:aM)(t:kI (List af))(ρ:Rho)(σ:zA)(Q:List D->zA->Prop):Prop :=
 ∀ (s:ao) (φ:ah->Prop) (μ:List ah),Rel C T s.heap φ μ σ->FrI F s.heap φ μ ρ->wpAny (model C.prog C.w) A t (PVs C T F s φ μ ρ Q) NoE s
noncomputable def DB (C:Cx)(T:Tabs)(F:Fm)(A:aM)(t:kI Bool)(ρ:Rho)(σ:zA)(K:Bool->zA->Prop):Prop :=
 ∀ (s:ao) (φ:ah->Prop) (μ:List ah),Rel C T s.heap φ μ σ->FrI F s.heap φ μ ρ->wpAny (model C.prog C.w) A t (PB C T F s φ μ ρ K) NoE s
theorem DX.seq {t:kI af}{W:D->zA->Prop}{E:af->ao->Prop}{X:af->ao->Prop}(hx:DX C T F A t ρ σ W)(R:Rel C T s.heap φ μ σ)(I:FrI F s.heap φ μ ρ)
  (k:∀ s' j' sJ v d σ',Go C T F s φ μ s' j' sJ ρ σ'->VD s'.heap j' sJ v d->W d σ'->X v s'):wpAny (model C.prog C.w) A t X E s :=
 ay (hx s φ μ R I) (λ v s' h=>Eeeeeaa h λ j' sJ d σ' G V q=>k s' j' sJ v d σ' G V q) λ _ _ e=>lr e
theorem DXs.seq {t:kI (List af)}{W:List D->zA->Prop}{E:af->ao->Prop}{X:List af->ao->Prop}(hx:DXs C T F A t ρ σ W)(R:Rel C T s.heap φ μ σ)(I:FrI F s.heap φ μ ρ)
  (k:∀ s' j' sJ v d σ',Go C T F s φ μ s' j' sJ ρ σ'->VDs s'.heap j' sJ v d->W d σ'->X v s'):wpAny (model C.prog C.w) A t X E s :=
 ay (hx s φ μ R I) (λ v s' h=>Eeeeeaa h λ j' sJ d σ' G V q=>k s' j' sJ v d σ' G V q) λ _ _ e=>lr e
theorem DB.seq {t:kI Bool}{W:Bool->zA->Prop}{E:af->ao->Prop}{X:Bool->ao->Prop}(hx:DB C T F A t ρ σ W)(R:Rel C T s.heap φ μ σ)(I:FrI F s.heap φ μ ρ)
  (k:∀ s' j' sJ b σ',Go C T F s φ μ s' j' sJ ρ σ'->W b σ'->X b s'):wpAny (model C.prog C.w) A t X E s :=
 ay (hx s φ μ R I) (λ b s' h=>Eeeea h λ j' sJ σ' G q=>k s' j' sJ b σ' G q) λ _ _ e=>lr e
theorem zh {Q:D->zA->Prop}{d:D}(R:Rel C T s.heap φ μ σ)(I:FrI F s.heap φ μ ρ)(V:VD s.heap φ μ v d)(q:Q d σ)(tk:Nat) :
  PV C T F s φ μ ρ Q v {s with toks:=tk}:=pvI ((Go.refl R I).tok tk) V q
theorem zt {Q:D->zA->Prop}{d:D}(R:Rel C T s.heap φ μ σ)(I:FrI F s.heap φ μ ρ)(V:VD s.heap φ μ v d)(q:Q d σ) :
  PV C T F s φ μ ρ Q v s:=pvI (Go.refl R I) V q
theorem qp {h:aR}:∀ {vs:List af} {ds:List D} {xs:List ab},VDs h φ μ vs ds->QN ds=some xs->VPs h φ vs xs
 | _,[],_,V,e=>by cases V.inil;obtain rfl:=so e;exact .nil
 | _,_::_,_,tj,e=>by
  refine tj.mcons λ v w V W=>?_
  refine Eea (ob e) λ x e1 e3=>?_
  refine Eea (ob e3) λ ys e2 e4=>?_
  obtain rfl:=wp e1
  obtain rfl:=so e4
  exact .cons V.ip (qp W e2)
theorem Zo {h:aR}:∀ {vs:List af} {ds:List D},VDs h φ μ vs ds->vs.length=ds.length
 | _,[],V=>by cases V.inil;rfl
 | _,_::_,tj=>by refine tj.mcons λ v w V W=>?_;exact congrArg (· + 1) (Zo W)
theorem Vh {h:aR}{a:ah}{ds:List D}(f:φ a)(t:Tup h a vs.toArray)(V:VDs h φ μ vs ds):VD h φ μ (.ref a) (Yi ds):=by
 show VD h φ μ (.ref a) (jm ds (QN ds))
 cases e:QN ds with
 | some xs=>exact .p (.tup f t (qp V e))
 | none=>exact .tup f t V
theorem Wr {Q:D->zA->Prop}{ds:List D}(R:Rel C T s.heap φ μ σ)(I:FrI F s.heap φ μ ρ)(V:VDs s.heap φ μ vs ds)(hn:vs.length<=cJ)(q:Q (Yi ds) σ) :
  wpAny (model C.prog C.w) A (pD vs) (PV C T F s φ μ ρ Q) NoE s:=by
 refine Eaa (R.pushF {cls:=.type "tuple",data:=.seq vs.toArray} rfl) λ R' X g=>?_
 refine cD ?_ (by show vs.toArray.size<=cJ;erw [aK];exact hn)
 exact ⟨_,μ,Yi ds,σ,Go.of_ext (tk:=s.toks) I R' X,Vh (.inr rfl) (Tup.new g) (X.vds V),q⟩
theorem WF {Q:D->zA->Prop}(R:Rel C T s.heap φ μ σ)(I:FrI F s.heap φ μ ρ)(V:VPs s.heap φ vs xs)(hn:vs.length<=cJ)(q:Q (.p (.list xs)) σ) :
  wpAny (model C.prog C.w) A (newList vs) (PV C T F s φ μ ρ Q) NoE s:=by
 refine Eaa (R.pushF {cls:=.type "list",data:=.seq vs.toArray} rfl) λ R' X g=>?_
 refine cD ?_ (by show vs.toArray.size<=cJ;erw [aK];exact hn)
 exact pvI (Go.of_ext (tk:=s.toks) I R' X) (.p (.lst (.inr rfl) ⟨_,g,rfl,_,rfl⟩ (X.vps V))) q
theorem vX {Q:D->zA->Prop}(R:Rel C T s.heap φ μ σ)(I:FrI F s.heap φ μ ρ)(V:VPs s.heap φ vs xs)(hn:vs.length<=cJ)
  (q:Q (.obj σ.length) (σ++[.lst xs])):wpAny (model C.prog C.w) A (newList vs) (PV C T F s φ μ ρ Q) NoE s:=by
 refine Eaa (R.pushM {cls:=.type "list",data:=.seq vs.toArray} (.lst xs) rfl λ h' e k=>⟨vs,_,e,V.mono k⟩) λ R' X g=>?_
 refine cD ?_ (by show vs.toArray.size<=cJ;erw [aK];exact hn)
 exact pvI (Go.of_ext (tk:=s.toks) I R' X) (.obj g) q
theorem OptV.iis {h:aR}{o:Option af}{d:D}(x:OptV h φ μ o (some (some d))):∃ v,o=some v/\VD h φ μ v d:=by cases x with | is V=>exact ⟨_,rfl,V⟩
theorem zBq {Q:D->zA->Prop}{k:aW}{pos:dD}{d:D}(R:Rel C T s.heap φ μ σ)(I:FrI F s.heap φ μ ρ)(hk:F.ks[i]?=some (x,k))(ha:k=.local∨k=.cell∨k=.free)
  (hd:ρ[i]?=some (some d)) (hx:(x==("__debug__":aN))=false) (hc:(x==("__classdict__":aN))=false) (q:Q d σ) :
  wpAny (model C.prog C.w) A (eval (.Name x pos) F.env) (PV C T F s φ μ ρ Q) NoE s:=by
 rcases ha with rfl | ha
 ·refine Eea (I.loc) λ m hn hm=>?_
  refine Ea (hm i x hk) λ h1 h2=>?_
  rw [hd] at h2
  refine Eea (h2.iis) λ v hv V=>?_
  exact g7 (er I.kind h1 hn hv (zt R I V q)) hx
 ·(refine Ea (I.cell i x k hk ha) λ h1 tM=>?_;refine Eeeaaa tM λ c v h2 h3 h4 _=>?_)
  rw [hd] at h4
  (refine Eea (h4.iis) λ v A8=>?_;obtain rfl:=A8;intro V)
  rcases h1 with h1 | ⟨_,h1⟩
  ·exact g7 (wpAny_loadName_cell I.kind h1 h2 h3 (zt R I V q)) hx
  ·exact g7 (ny I.kind h1 h2 h3 (zt R I V q) hc) hx
def jy (C:Cx)(x:aN)(d:D):Prop:=∃ v,(C.mg x=some v∨(C.mg x=none/\C.mb x=some v))/\(∀ (h:aR) (φ:ah->Prop) (μ:List ah),(∀ b o,C.h₀.get? b=some o->h.get? b=some o)->(∀ b o,C.h₀.get? b=some o->φ b)->VD h φ μ v d)
structure Cx.Good (C:Cx):Prop where
 X:C.K.In C.h₀
 g:C.h₀.Ns cv C.mg
 b:C.h₀.Ns fH C.mb
 lim:C.h₀.NoLimit
theorem zBk {X:af->ao->Prop}{E:af->ao->Prop}{pos:dD}{d:D}(Y:C.Good)(R:Rel C T s.heap φ μ σ)(I:FrI F s.heap φ μ ρ)(hk:F.env.kindOf x=some .globalImplicit)(hg:jy C x d)
  (hx:(x==("__debug__":aN))=false) (q:∀ v,VD s.heap φ μ v d->X v s):wpAny (model C.prog C.w) A (eval (.Name x pos) F.env) X E s:=by
 (refine Eea (hg) λ v hv V=>?_;try clear hg)
 have n1:s.heap.Ns F.env.globals C.mg:=by erw [I.glob];exact Y.g.keeps R.keep
 have n2:s.heap.Ns F.env.builtins C.mb:=by erw [I.blt];exact Y.b.keeps R.keep
 have q:=q v (V _ _ _ R.keep R.base)
 rcases hv with hv | ⟨hm,hv⟩
 ·exact mS I.kind hk (loadGlobal_global n1 hv q) hx
 ·exact mS I.kind hk (nO n1 hm n2 hv q) hx
theorem xP {Q:D->zA->Prop}{pos:dD}{d:D}(Y:C.Good)(R:Rel C T s.heap φ μ σ)(I:FrI F s.heap φ μ ρ)(hk:F.env.kindOf x=some .globalImplicit)(hg:jy C x d)
  (hx:(x==("__debug__":aN))=false) (q:Q d σ):wpAny (model C.prog C.w) A (eval (.Name x pos) F.env) (PV C T F s φ μ ρ Q) NoE s :=
 zBk Y R I hk hg hx λ _ V=>zt R I V q
noncomputable def wf:Const->Option ab
 | .none=>some .none
 | .bool b=>some (.bool b)
 | .int i=>some (.int i)
 | .str x=>gd (bu x) (some (.str x))
 | _=>none
theorem Vo {Q:D->zA->Prop}{c:Const}{k:Nat}{pos:dD}{x:ab}(R:Rel C T s.heap φ μ σ)(I:FrI F s.heap φ μ ρ)(h:wf c=some x)(q:Q (.p x) σ) :
  wpAny (model C.prog C.w) A (eval (.Constant c k pos) F.env) (PV C T F s φ μ ρ Q) NoE s:=by
 cases c with
 | none=>obtain rfl:=so h;exact nz (zt R I (.p .none) q)
 | bool b=>obtain rfl:=so h;exact wpAny_Constant_bool (zt R I (.p (.bool _)) q)
 | int i=>obtain rfl:=so h;exact wpAny_Constant_int (zh R I (.p (.int _ _)) q _)
 | str y=>refine Ea (og h) λ o h'=>?_;obtain rfl:=so h';exact fc (zh R I (.p (.str _ _ o)) q _)
 | _=>exact nn h
end
end Mine.Internal
namespace Mine.Internal
open PySem PySem.Calls PyProof.Rows PySem.W PySem.SeqAt
set_option tactic.hygienic false
section
variable {C:Cx}{T:Tabs}{F:Fm}{s s':ao}{φ j':ah->Prop}{μ sJ:List ah}{ρ sL:Rho}{σ σ':zA}{A:aM}{n:Nat}
theorem jj (R:Rel C T s.heap φ μ σ){i:Nat}{a:ah}{xs:List ab}(m:μ[i]?=some a)(h:σ[i]?.bind ZO=some xs):∃ vs k,s.heap.get? a=some (listOf vs.toArray k)/\VPs s.heap φ vs xs:=R.at_ i a _ m (QI h)
mutual
theorem Ql (R:Rel C T s.heap φ μ σ):∀ (d:D) {v:af} {x:ab},VD s.heap φ μ v d->qj σ d=some x->(∃ as,dW s.heap v x as)/\x.canLay0=true
 | .p y,v,x,V,e=>by obtain rfl:=so e;exact ⟨V.ip.reads,V.ip.canLay⟩
 | .obj i,v,x,V,e=>by
  refine V.mobj λ a ha=>?_
  refine Eea (ob e) λ xs hi e1=>?_
  obtain rfl:=so e1
  refine Eeea (jj R ha hi) λ vs k ho hp=>?_
  refine Ee (hp.reads) λ as r=>?_
  exact ⟨⟨_,.list ho rfl rfl r⟩,hp.canLay⟩
 | .tup ds,v,x,V,e=>by
  refine V.mtup λ a vs f ht r=>?_
  refine Eea (ob e) λ xs Ev e1=>?_
  obtain rfl:=so e1
  (refine Ea (derefs_reads R ds r Ev) λ Bt=>?_;(refine Ee (Bt) λ as q=>?_;try clear Bt);intro c)
  (refine Eeaa (ht.t) λ o ho hc tM=>?_;refine Ee tM λ k hd=>?_)
  exact ⟨⟨as,.tuple ho hc hd q⟩,c⟩
 | .fn _,_,_,_,e=>nn e
 | .bi _,_,_,_,e=>nn e
 | .rng _ _,_,_,_,e=>nn e
 | .zp _ _ _ _,_,_,_,e=>nn e
theorem derefs_reads (R:Rel C T s.heap φ μ σ):∀ (ds:List D) {vs:List af} {xs:List ab},VDs s.heap φ μ vs ds->derefs σ ds=some xs->(∃ as,bI s.heap vs xs as)/\dX xs=true
 | [],vs,xs,V,e=>by
  cases V.inil;obtain rfl:=so e
  exact ⟨⟨_,.nil⟩,rfl⟩
 | d::ds,vs,xs,V,e=>by
  refine V.mcons λ v w p r=>?_
  refine Eea (ob e) λ x hx e1=>?_
  refine Eea (ob e1) λ ys I9 e2=>?_
  obtain rfl:=so e2
  (refine Ea (Ql R d p hx) λ A8=>?_;(refine Ee (A8) λ as q=>?_;try clear A8);intro c)
  (refine Ea (derefs_reads R ds r I9) λ Bm=>?_;(refine Ee (Bm) λ bs q'=>?_;try clear Bm);intro c')
  exact ⟨⟨_,.cons q q'⟩,(bt ..).mpr ⟨c,c'⟩⟩
end
theorem zCT {x y:ab}(hA:Room n A)(h:Sh x y):A.units + min x.depth y.depth<cLine :=
 cg (ae (dE h.h _) (pG (aH _ (20 * n)) (of_decide_eq_true rfl:64<=400))) hA.units
theorem US (xs:List ab):(bE xs).depth=bp xs + 1:=by simp [kn]
theorem zEW (xs:List ab):(mQ xs).depth=bp xs + 1:=by simp [kn]
theorem qq {xs:List ab}{y:ab}(hA:Room n A)(h:Sh (.tuple xs) y):A.units + 1 + min (bp xs) y.depth<cLine :=
 cg (ae (dE (ae (Nat.le_min.mpr ⟨ae (hU _ _) (dj _),dG _ _⟩) (US xs▸h.h)) _) (show A.units + 65<=A.units + 20 * n + 400 from pG (aH _ (20 * n)) (oD9 rfl))) hA.units
theorem Qn {h:aR}{v:af}{x:ab}{xs:List ab}(V:VP h φ v x)(e:Zn x=some xs):∃ a vs,v=.ref a/\φ a/\VPs h φ vs xs/\((x=.tuple xs/\Tup h a vs.toArray)∨(x=.list xs/\h.IsList a vs.toArray)):=by
 cases x with
 | tuple ys=>obtain rfl:=so e;refine V.mtup λ a vs f t r=>?_;exact ⟨a,vs,rfl,f,r,.inl ⟨rfl,t⟩⟩
 | list ys=>obtain rfl:=so e;refine V.mlst λ a vs f t r=>?_;exact ⟨a,vs,rfl,f,r,.inr ⟨rfl,t⟩⟩
 | _=>exact nn e
theorem uZ (R:Rel C T s.heap φ μ σ){d:D}{v:af}{xs:List ab}(V:VD s.heap φ μ v d)(e:zu σ d=some xs) :
  ∃ a vs,v=.ref a/\(kc s.heap a vs.toArray∨s.heap.IsList a vs.toArray)/\VPs s.heap φ vs xs:=by
 cases d with
 | p x =>
  refine Eeeaaa (Qn V.ip e) λ a vs e1 _ r h=>?_
  exact ⟨a,vs,e1,h.imp (·.2.t) (·.2),r⟩
 | obj i =>
  refine Eea (V.iobj) λ a e1 m=>?_
  refine Eeea (jj R m e) λ vs k ho hp=>?_
  exact ⟨a,vs,e1,.inr ⟨_,ho,rfl,_,rfl⟩,hp⟩
 | _=>exact nn e
@[elab_as_elim] theorem Q2 (R:Rel C T s.heap φ μ σ){d:D}{v:af}{xs:List ab}{motive:af->Prop}(V:VD s.heap φ μ v d)(e:zu σ d=some xs)(k:∀ a vs,kc s.heap a vs.toArray∨s.heap.IsList a vs.toArray->VPs s.heap φ vs xs->motive (.ref a)):motive v:=Eeeaa (uZ R V e) λ a vs e p q=>e▸k a vs p q
theorem UL {v:af}{d:D}{b:Bool}(V:VD s.heap φ μ v d)(e:isNone d=some b):(v==.none)=b:=by
 cases d with
 | p x=>cases x with
  | none=>cases V.ip.inone;exact so e
  | bool _=>cases V.ip.ibool;exact so e
  | int _=>refine V.ip.mint λ _=>?_;exact so e
  | str _=>refine V.ip.mstr λ _ _=>?_;exact so e
  | list _=>(refine Eeea (V.ip.ilst) λ _ _ Hp=>?_;obtain rfl:=Hp;intro _);exact so e
  | tuple _=>(refine Eeea (V.ip.itup) λ _ _ DH=>?_;obtain rfl:=DH;intro _);exact so e
  | dict _=>exact nn e
 | obj i=>refine V.mobj λ _ _=>?_;exact so e
 | tup ds=>(refine Eeea (V.itup) λ _ _ Ht=>?_;obtain rfl:=Ht;intro _);exact so e
 | rng _ _=>(refine Eeeeea (V.irng) λ _ _ _ _ F7=>?_;obtain rfl:=F7;intro _);exact so e
 | _=>exact nn e
theorem J5 {v:af}{d:D}{u:Unit}(V:VD s.heap φ μ v d)(e:Qx d=some u):v=.none:=by
 cases d with
 | p x=>cases x with
  | none=>exact V.ip.inone
  | _=>exact nn e
 | _=>exact nn e
theorem Wd {K:Bool->Prop}{v:af}{a:ah}{x:D}{y:ab}{xs:List ab}{vs:List af}{bs:List ah}(hA:Room n A)(V:VD s.heap φ μ v x)(rb:dW s.heap (.ref a) y bs)(cb:y.canLay0=true)(hy:y=.tuple xs∨y=.list xs)(h:Yg xs x K) :
  wpAny (model C.prog C.w) A (compareOp .In v (.ref a)) (λ r s'=>∃ b,r=.bool b/\s'=s/\K b) NoE s/\wpAny (model C.prog C.w) A (compareOp .NotIn v (.ref a)) (λ r s'=>∃ b,r=.bool (!b)/\s'=s/\K b) NoE s:=by
 (refine Eeaaa (yg V h) λ z CL=>?_;obtain rfl:=CL;intro V hs h)
 refine Ee (V.reads) λ as ra=>?_
 rcases hy with rfl | rfl
 ·exact ⟨in_tuple_reads rb ra cb V.canLay (qq hA hs) ⟨_,rfl,rfl,h⟩,notIn_tuple_reads rb ra cb V.canLay (qq hA hs) ⟨_,rfl,rfl,h⟩⟩
 ·exact ⟨in_list_reads rb ra cb V.canLay (qq hA hs) ⟨_,rfl,rfl,h⟩,notIn_list_reads rb ra cb V.canLay (qq hA hs) ⟨_,rfl,rfl,h⟩⟩
def zAW (C:Cx)(A:aM)(s:ao)(φ:ah->Prop)(μ:List ah)(σ:zA):Prop:=∀ (i:Nat) (es:List (Ky×D)) (k:List ab) (q:Ky) (a b:ah) (P:Bool->Prop),σ[i]?=some (.tdict es)->μ[i]?=some a->VP s.heap φ (.ref b) (.tuple k)->Kd (.tuple k)->keyDs k=some q->P (zw q es).isSome ->
   wpAny (model C.prog C.w) A (mT (.ref a) (.ref b)) (λ r s'=>∃ tk,s'={s with toks:=tk}/\P r) NoE s
theorem zAI {K:Bool->Prop}{v w:af}{x y:D}(hA:Room n A)(R:Rel C T s.heap φ μ σ)(V:VD s.heap φ μ v x)(W:VD s.heap φ μ w y)(hin:zAW C A s φ μ σ)(h:jE σ x y K) :
  wpAny (model C.prog C.w) A (compareOp .In v w) (λ r s'=>∃ b tk,r=.bool b/\s'={s with toks:=tk}/\K b) NoE s/\wpAny (model C.prog C.w) A (compareOp .NotIn v w) (λ r s'=>∃ b tk,r=.bool (!b)/\s'={s with toks:=tk}/\K b) NoE s:=by
 have fin:∀ {X Y:kI af} ,wpAny (model C.prog C.w) A X (λ r s'=>∃ b,r=.bool b/\s'=s/\K b) NoE s/\wpAny (model C.prog C.w) A Y (λ r s'=>∃ b,r=.bool (!b)/\s'=s/\K b) NoE s ->
   wpAny (model C.prog C.w) A X (λ r s'=>∃ b tk,r=.bool b/\s'={s with toks:=tk}/\K b) NoE s/\wpAny (model C.prog C.w) A Y (λ r s'=>∃ b tk,r=.bool (!b)/\s'={s with toks:=tk}/\K b) NoE s :=
  λ h=>⟨ay h.1 (λ r s' ⟨b,e1,e2,k⟩=>⟨b,s.toks,e1,e2,k⟩) λ _ _ e=>e,ay h.2 (λ r s' ⟨b,e1,e2,k⟩=>⟨b,s.toks,e1,e2,k⟩) λ _ _ e=>e⟩
 cases y with
 | p y =>
  refine Eea (Is.h h) λ xs e h=>?_
  refine Ee (W.ip.reads) λ bs rb=>?_
  (refine Eeeaaa (Qn W.ip e) λ a vs Cd=>?_;obtain rfl:=Cd;intro _ _ hy)
  exact fin (Wd (vs:=vs) hA V rb W.ip.canLay (hy.imp (·.1) (·.1)) h)
 | obj i =>
  refine Eea (Is.h h) λ mo hi h=>?_
  refine W.mobj λ a ha=>?_
  cases mo with
  | lst xs =>
   refine Eeea (R.at_ i a _ ha hi) λ vs k ho hp=>?_
   refine Ee (hp.reads) λ bs r=>?_
   exact fin (Wd (vs:=vs) hA V (.list ho rfl rfl r) hp.canLay (.inr rfl) h)
  | tdict es =>
   (refine Eeaaa (jc V h) λ k Hf=>?_;obtain rfl:=Hf;intro V hk h)
   refine Eea (Is.h h) λ q hq h=>?_
   (refine Eeea (V.itup) λ b vs GJ=>?_;obtain rfl:=GJ;intro _)
   exact ⟨aa (ay (hin _ _ _ _ _ _ K hi ha V hk hq h) (λ r s' ⟨tk,e,hr⟩=>am ⟨r,tk,rfl,e,hr⟩) λ _ _ e=>e),aa (ay (hin _ _ _ _ _ _ K hi ha V hk hq h) (λ r s' ⟨tk,e,hr⟩=>am ⟨r,tk,rfl,e,hr⟩) λ _ _ e=>e)⟩
  | _=>exact h.elim
 | _=>exact h.elim
theorem Zl {Q:D->zA->Prop}{op:ke}{v w:af}{x y:D}(hA:Room n A)(R:Rel C T s.heap φ μ σ)(I:FrI F s.heap φ μ ρ)(V:VD s.heap φ μ v x)(W:VD s.heap φ μ w y)
  (hin:zAW C A s φ μ σ) (h:wpC op σ x y λ r=>Q (.p (.bool r)) σ):wpAny (model C.prog C.w) A (compareOp op v w) (PV C T F s φ μ ρ Q) NoE s:=by
 have fin:∀ r,Q (.p (.bool r)) σ->PV C T F s φ μ ρ Q (.bool r) s:=λ r hk=>zt R I (.p (.bool _)) hk
 have HM:∀ {K:Bool->Prop},(YS σ x λ a=>YS σ y λ b=>Sh a b/\K (br a b))->∃ a b as bs,dW s.heap v a as/\dW s.heap w b bs/\a.canLay0=true/\b.canLay0=true/\A.units + min a.depth b.depth<cLine/\K (br a b):=λ h=>by
  refine Eea (Is.h h) λ a ea h=>?_
  refine Eeaa (Is.h h) λ b eb hs hk=>?_
  (refine Ea (Ql R x V ea) λ EJ=>?_;(refine Ee (EJ) λ as ra=>?_;try clear EJ);intro ca)
  (refine Ea (Ql R y W eb) λ EN=>?_;(refine Ee (EN) λ bs rb=>?_;try clear EN);intro cb)
  exact ⟨a,b,as,bs,ra,rb,ca,cb,zCT hA hs,hk⟩
 have AG:∀ {K:Int->Int->Prop},(onI x λ a=>onI y λ b=>K a b)->∃ a t b u,v=.int a t/\w=.int b u/\K a b:=λ h=>by
  refine Eeeaa (Zw V h) λ a t _ e h=>?_
  refine Eeeaa (Zw W h) λ b u _ e' h=>?_
  exact ⟨a,t,b,u,e,e',h⟩
 cases op with
 | Eq=>obtain ⟨a,b,as,bs,ra,rb,ca,cb,hr,hk⟩:=HM (K:=λ r=>Q (.p (.bool r)) σ) h;exact compareEq_reads ra rb ca cb hr (fin _ hk)
 | NotEq=>obtain ⟨a,b,as,bs,ra,rb,ca,cb,hr,hk⟩:=HM (K:=λ r=>Q (.p (.bool (!r))) σ) h;exact compareNe_reads ra rb ca cb hr (fin _ hk)
 | Lt=>(refine Eeeeeaa (AG h) λ a t b u DW=>?_;obtain rfl:=DW;intro GS;obtain rfl:=GS;intro h);exact lt_int (fin _ h)
 | LtE=>(refine Eeeeeaa (AG h) λ a t b u HE=>?_;obtain rfl:=HE;intro FS;obtain rfl:=FS;intro h);exact le_int (fin _ h)
 | Gt=>(refine Eeeeeaa (AG h) λ a t b u G7=>?_;obtain rfl:=G7;intro GB;obtain rfl:=GB;intro h);exact gt_int (fin _ h)
 | GtE=>(refine Eeeeeaa (AG h) λ a t b u DR=>?_;obtain rfl:=DR;intro HD;obtain rfl:=HD;intro h);exact ge_int (fin _ h)
 | Is =>
  refine Eea (Mine.Internal.Is.h h) λ u e h=>?_
  refine Eea (Mine.Internal.Is.h h) λ b e' h=>?_
  obtain rfl:=J5 W e
  exact is_none (UL V e'▸fin _ h)
 | IsNot =>
  refine Eea (Mine.Internal.Is.h h) λ u e h=>?_
  refine Eea (Mine.Internal.Is.h h) λ b e' h=>?_
  obtain rfl:=J5 W e
  exact isNot_none (UL V e'▸fin _ h)
 | In=>exact ay (zAI hA R V W hin h).1 (λ r s' ⟨b,tk,e1,e2,k⟩=>by subst e1 e2;exact zh R I (.p (.bool _)) k tk) λ _ _ e=>e
 | NotIn=>exact ay (zAI hA R V W hin (K:=λ b=>Q (.p (.bool (!b))) σ) h).2 (λ r s' ⟨b,tk,e1,e2,k⟩=>by subst e1 e2;exact zh R I (.p (.bool _)) k tk) λ _ _ e=>e
end
section
variable {C:Cx}{T:Tabs}{F:Fm}{s s':ao}{φ j':ah->Prop}{μ sJ:List ah}{ρ sL:Rho}{σ σ':zA}{A:aM}{n:Nat}
theorem zv {k:Nat}(h:Few k):k<=cJ:=by have:=h.h;erw [cA];exact ae h (nB9 rfl)
theorem Uk {i:Int}(h:Fit i):iQ i<=100000:=by
 have:=h.h
 unfold iQ
 split
 ·lia
 ·rename_i hz
  have hn:i.natAbs≠0:=by simpa using hz
  have:=(mU hn).mpr this
  exact this
theorem zCF {a b:Int}(ha:Fit a)(hb:Fit b):IntMulOk a b:=by
 have h1:=Uk ha
 have h2:=Uk hb
 unfold IntMulOk r5 bitsLine
 simp only [bt,decide_eq_true_eq,not_and,f7]
 intro _ _
 lia
theorem Wj {a b:Int}(h:Nz b):kZ a b=false:=by
 unfold kZ
 have hl:=h.lo
 have hz:(b==0)=false:=by simpa using h.h
 simp only [hz,ch,if_false,Bool.and_eq_false_iff,decide_eq_false_iff_not]
 left
 have hn:b.natAbs≠0:=by simpa using h.h
 have:=(mU hn).mpr hl
 lia
theorem um {vs ws:List af}{xs ys:List ab}(r:VPs s.heap φ vs xs)(r':VPs s.heap φ ws ys)(hf:Few (xs.length + ys.length)):vs.toArray.size + ws.toArray.size<=cJ:=by
 (erw [aK];erw [aK];erw [r.length];erw [r'.length]);exact zv hf
theorem Uy {Q:D->zA->Prop}{t b:ah}{vs ws:List af}{xs ys:List ab}(R:Rel C T s.heap φ μ σ)(I:FrI F s.heap φ μ ρ)(ht:s.heap.IsList t vs.toArray)(r:VPs s.heap φ vs xs)
  (Bs:s.heap.IsList b ws.toArray) (r':VPs s.heap φ ws ys) (hf:Few (xs.length + ys.length)) (hq:Q (.p (.list (xs++ys))) σ):wpAny (model C.prog C.w) A (mV .Add (.ref t) (.ref b)) (PV C T F s φ μ ρ Q) NoE s:=by
 obtain ⟨⟨cls,dd,data,sl⟩,ho,hc,n,hd⟩:=ht
 obtain ⟨⟨G8,ET,data2,ES⟩,BM,Ap,n2,EX⟩:=Bs
 obtain rfl:=hc;obtain rfl:=hd;obtain rfl:=Ap;obtain rfl:=EX
 refine concat_meets ⟨_,ho,rfl⟩ ⟨_,BM,rfl⟩ noFill_list_add seq_list_add PySem.F.slot_list_add PySem.F.entry_list_add (PySem.F.args_list_add_2 _ _) (list_addW t b vs.toArray ws.toArray n n2 dd ET sl ES (um r r' hf)) ⟨ho,BM,?_⟩
 erw [nA]
 refine Eaa (R.pushF {cls:=.type "list",data:=.seq (vs++ws).toArray} rfl) λ R' X g=>?_
 exact pvI (Go.of_ext (tk:=s.toks) I R' X) (.p (.lst (.inr rfl) ⟨_,g,rfl,_,rfl⟩ ((X.vps r).append (X.vps r')))) hq
theorem Xh {Q:D->zA->Prop}{v w:af}{xs ys:List ab}(R:Rel C T s.heap φ μ σ)(I:FrI F s.heap φ μ ρ)(V:VP s.heap φ v (.tuple xs))(W:VP s.heap φ w (.tuple ys))(hf:Few (xs.length + ys.length))(hq:Q (.p (.tuple (xs++ys))) σ) :
  wpAny (model C.prog C.w) A (mV .Add v w) (PV C T F s φ μ ρ Q) NoE s:=by
 refine V.mtup λ t vs f ht r=>?_
 refine W.mtup λ b ws f' Bs r'=>?_
 obtain ⟨⟨cls,dd,data,sl⟩,ho,hc,n,hd⟩:=ht.t
 obtain ⟨⟨G8,ET,data2,ES⟩,BM,Ap,n2,EX⟩:=Bs.t
 obtain rfl:=hc;obtain rfl:=hd;obtain rfl:=Ap;obtain rfl:=EX
 refine wpAny_binaryOp_concat ⟨_,ho,rfl⟩ ⟨_,BM,rfl⟩ noFill_tuple_add seq_tuple_add ?_
 cases vs with
 | nil =>
  cases xs with
  | nil=>exact lv g8 ⟨_,ho,rfl⟩ gM (gE _ _) (tuple_addW0 t b #[] ws.toArray n n2 dd ET sl ES rfl) ⟨ho,BM,zt R I (.p (.tup f' Bs r')) hq⟩
  | cons _ _=>exact nomatch r
 | cons v vs=>cases ws with
  | nil =>
   cases ys with
   | nil=>exact lv g8 ⟨_,ho,rfl⟩ gM (gE _ _) (tuple_addW1 t b (v::vs).toArray #[] n n2 dd ET sl ES a5 rfl) ⟨ho,BM,zt R I (.p (.tup f ht r)) (by rw [aP] at hq;exact hq)⟩
   | cons _ _=>exact nomatch r'
  | cons w ws =>
   refine lv g8 ⟨_,ho,rfl⟩ gM (gE _ _) (tuple_addW2 t b (v::vs).toArray (w::ws).toArray n n2 dd ET sl ES a5 a5 (um r r' hf)) ⟨ho,BM,?_⟩
   erw [nA]
   refine Eaa (R.pushF {cls:=.type "tuple",data:=.seq ((v::vs)++(w::ws)).toArray} rfl) λ R' X g=>?_
   exact pvI (Go.of_ext (tk:=s.toks) I R' X) (.p (.tup (.inr rfl) (Tup.new g) ((X.vps r).append (X.vps r')))) hq
theorem zDz {Q:D->zA->Prop}{op:lq}{v w:af}{x y:D}(R:Rel C T s.heap φ μ σ)(I:FrI F s.heap φ μ ρ)(V:VD s.heap φ μ v x)(W:VD s.heap φ μ w y)
  (h:qt σ op x y λ d=>Q d σ):wpAny (model C.prog C.w) A (mV op v w) (PV C T F s φ μ ρ Q) NoE s:=by
 have AG:∀ {K:Int->Int->Prop},(onI x λ a=>onI y λ b=>K a b)->∃ a t b u,v=.int a t/\w=.int b u/\K a b:=λ h=>by
  refine Eeeaa (Zw V h) λ a t _ e h=>?_
  refine Eeeaa (Zw W h) λ b u _ e' h=>?_
  exact ⟨a,t,b,u,e,e',h⟩
 have fin:∀ {i:Int} {t:iv} {tk:Nat},Q (.p (.int i)) σ->PV C T F s φ μ ρ Q (.int i t) {s with toks:=tk}:=λ h=>zh R I (.p (.int _ _)) h _
 have lst:∀ {t:ah} {vs:List af} {xs:List ab},s.heap.IsList t vs.toArray->VPs s.heap φ vs xs->yu xs y (λ d=>Q d σ)->wpAny (model C.prog C.w) A (mV .Add (.ref t) w) (PV C T F s φ μ ρ Q) NoE s:=λ ht r h=>by
  refine Eeaaa (zB0 W h) λ ys _ W hf h=>?_
  refine W.mlst λ b ws f' Bs r'=>?_
  exact Uy R I ht r Bs r' hf h
 cases op with
 | Add =>
  cases x with
  | p x=>cases x with
   | int a=>refine V.ip.mint λ t=>?_;refine Z8 W h λ b u h=>?_;exact add_int (fin h)
   | tuple xs=>(refine Eeaaa (jc W h) λ ys DK=>?_;obtain rfl:=DK;intro W hf h);exact Xh R I V.ip W hf h
   | list xs=>refine V.ip.mlst λ t vs f ht r=>?_;exact lst ht r h
   | _=>exact h.elim
  | obj i =>
   refine Eea (Is.h h) λ xs e h=>?_
   refine V.mobj λ a m=>?_
   refine Eeea (jj R m e) λ vs k ho hp=>?_
   exact lst ⟨_,ho,rfl,_,rfl⟩ hp h
  | _=>exact h.elim
 | Sub=>(refine Eeeeeaa (AG h) λ a t b u DH=>?_;obtain rfl:=DH;intro DZ;obtain rfl:=DZ;intro h);exact r6 (fin h)
 | Mult=>obtain ⟨a,t,b,u,rfl,rfl,h1,h2,h⟩:=AG h;exact r7 (fin h) (zCF h1 h2)
 | Mod=>obtain ⟨a,t,b,u,rfl,rfl,h1,h⟩:=AG h;exact r8 h1.h (fin h)
 | Pow=>obtain ⟨a,t,b,u,rfl,rfl,h1,h⟩:=AG h;exact pow_int h1.h h1.fit (fin h)
 | FloorDiv=>obtain ⟨a,t,b,u,rfl,rfl,h1,h⟩:=AG h;exact floordiv_int h1.h (fin h) (.inl (Wj h1))
 | _=>exact h.elim
theorem zD4 {Q:D->zA->Prop}{v:af}{x:D}(R:Rel C T s.heap φ μ σ)(I:FrI F s.heap φ μ ρ)(V:VD s.heap φ μ v x)
  (h:onI x λ i=>Q (.p (.int (-i))) σ):wpAny (model C.prog C.w) A (unaryOp .USub v) (PV C T F s φ μ ρ Q) NoE s:=by
 refine zF6 V h λ a t h=>?_
 exact neg_int (zh R I (.p (.int _ _)) h _)
theorem y7 {K:Bool->zA->Prop}{v:af}{x:D}(R:Rel C T s.heap φ μ σ)(I:FrI F s.heap φ μ ρ)(V:VD s.heap φ μ v x)
  (h:isB x λ b=>K b σ):wpAny (model C.prog C.w) A (mA v) (PB C T F s φ μ ρ K) NoE s:=by
 refine zAw V h λ b h=>?_
 exact ec (pbI (Go.refl R I) h)
theorem zDs {Q:D->zA->Prop}{v:af}{x:D}(R:Rel C T s.heap φ μ σ)(I:FrI F s.heap φ μ ρ)(V:VD s.heap φ μ v x)
  (h:isB x λ b=>Q (.p (.bool (!b))) σ):wpAny (model C.prog C.w) A (unaryOp .Not v) (PV C T F s φ μ ρ Q) NoE s:=by
 refine zAw V h λ b h=>?_
 exact not_value (ec (zt R I (.p (.bool _)) h))
end
theorem Z4 {h:aR}{φ:ah->Prop}:∀ {vs:List af} {xs:List ab} {l:List Int},VPs h φ vs xs->ints? xs=some l->cM vs l
 | _,[],_,V,e=>by cases V.inil;obtain rfl:=so e;exact .nil
 | _,_::_,_,tj,e=>by
  refine tj.mcons λ v r V W=>?_
  refine Eea (ob e) λ i e1 e2=>?_
  refine Eea (ob e2) λ l e3 e4=>?_
  obtain rfl:=Ja e1
  obtain rfl:=so e4
  refine V.mint λ t=>?_
  exact .cons _ _ (Z4 W e3)
theorem Qz {vs:List af}{l:List Int}(H:cM vs l){i:Nat}{v:af}(e:vs[i]?=some v):∃ t,v=.int (l.getD i 0) t:=by
 induction H generalizing i with
 | nil=>simp at e
 | cons n t _ ih =>
  cases i with
  | zero=>simp at e;subst e;exact ⟨t,by simp⟩
  | succ i=>refine Ee (ih (i:=i) (by simpa using e)) λ u hu=>?_;exact ⟨u,by simpa using hu⟩
theorem j8 {vs:List af}{i:Nat}{v:af}(h:vs.toArray[i]?=some v):vs[i]?=some v:=by simpa using h
theorem UF (r:List Int):∀ a,ze a r∈a::r/\∀ x∈a::r,x<=ze a r:=by
 induction r with
 | nil=>intro a;simp [JG,jR]
 | cons b r ih =>
  intro a
  refine Ea (ih (if a<b then b else a)) λ h1 h2=>?_
  simp only [JG,jR]
  generalize hm:(if a<b then b else a)=m at h1 h2 ⊢
  have CU:(m=a∨m=b)/\a<=m/\b<=m:=by refine rwS hm ?_;split <;> constructor <;> first | lia | simp
  have hb:=h2 _ (cY)
  refine ⟨?_,λ x hx=>?_⟩
  ·rcases aJ.mp h1 with h | h
   ·erw [h];rcases CU.1 with e | e <;> erw [e] <;> simp
   ·simp [h]
  ·rcases aJ.mp hx with rfl | hx
   ·exact liZ [] [_,_,_] (.v 0) (.v 1) [(1,.L (.v 2) (.v 1)),(1,.L (.v 0) (.v 2))] tT9 hb CU.2.1
   ·rcases aJ.mp hx with rfl | hx
    ·exact liZ [] [_,_,_] (.v 0) (.v 1) [(1,.L (.v 2) (.v 1)),(1,.L (.v 0) (.v 2))] tT9 hb CU.2.2
    ·exact h2 x (bU _ hx)
theorem UM (r:List Int):∀ a,zm a r∈a::r/\∀ x∈a::r,zm a r<=x:=by
 induction r with
 | nil=>intro a;simp [UH,UQ]
 | cons b r ih =>
  intro a
  refine Ea (ih (if b<a then b else a)) λ h1 h2=>?_
  simp only [UH,UQ]
  generalize hm:(if b<a then b else a)=m at h1 h2 ⊢
  have CU:(m=a∨m=b)/\m<=a/\m<=b:=by refine rwS hm ?_;split <;> constructor <;> first | lia | simp
  have hb:=h2 _ (cY)
  refine ⟨?_,λ x hx=>?_⟩
  ·rcases aJ.mp h1 with h | h
   ·erw [h];rcases CU.1 with e | e <;> erw [e] <;> simp
   ·simp [h]
  ·rcases aJ.mp hx with rfl | hx
   ·exact liZ [] [_,_,_] (.v 0) (.v 1) [(1,.L (.v 0) (.v 2)),(1,.L (.v 2) (.v 1))] tT9 hb CU.2.1
   ·rcases aJ.mp hx with rfl | hx
    ·exact liZ [] [_,_,_] (.v 0) (.v 1) [(1,.L (.v 0) (.v 2)),(1,.L (.v 2) (.v 1))] tT9 hb CU.2.2
    ·exact h2 x (bU _ hx)
theorem uA {l:List Int}{i:Nat}(h:i<l.length):l.getD i 0∈l:=by
 (erw [aA];erw [aw h]);simp
theorem J4 {l:List Int}{x:Int}(h:x∈l):∃ i,i<l.length/\l.getD i 0=x:=by
 (refine Ee (List.mem_iff_getElem.mp h) λ i tM=>?_;refine Ee tM λ hi e=>?_)
 exact ⟨i,hi,by (erw [aA];erw [aw hi]);simpa using e⟩
theorem VC (a:Int)(r:List Int):(a::r).getD (om (λ i j=>decide ((a::r).getD i 0 > (a::r).getD j 0)) ((a::r).length - 1)) 0=ze a r:=by
 refine Ea (argBest_gt (λ i=>(a::r).getD i 0) ((a::r).length - 1)) λ h1 h2=>?_
 refine Ea (UF r a) λ m1 m2=>?_
 generalize hk:om (λ i j=>decide ((a::r).getD i 0 > (a::r).getD j 0)) ((a::r).length - 1)=k at h1 h2
 have s3:k<(a::r).length:=by simp only [aE] at h1 ⊢;exact dH h1
 refine aO (m2 _ (uA s3)) ?_
 refine Eea (J4 m1) λ i hi e=>?_
 refine rwS e ?_
 exact h2 i (fi hi)
theorem Vu (a:Int)(r:List Int):(a::r).getD (om (λ i j=>decide ((a::r).getD i 0<(a::r).getD j 0)) ((a::r).length - 1)) 0=zm a r:=by
 refine Ea (argBest_lt (λ i=>(a::r).getD i 0) ((a::r).length - 1)) λ h1 h2=>?_
 refine Ea (UM r a) λ m1 m2=>?_
 generalize hk:om (λ i j=>decide ((a::r).getD i 0<(a::r).getD j 0)) ((a::r).length - 1)=k at h1 h2
 have s3:k<(a::r).length:=by simp only [aE] at h1 ⊢;exact dH h1
 refine aO ?_ (m2 _ (uA s3))
 refine Eea (J4 m1) λ i hi e=>?_
 refine rwS e ?_
 exact h2 i (fi hi)
theorem Yw (l:List Int):∀ j,preSum (λ i=>l.getD i 0) j=(l.take j).sum
 | 0=>by simp [preSum]
 | j + 1=>by
  (rewrite [preSum];erw [Yw l j])
  by_cases h:j<l.length
  ·(erw [List.take_add_one];erw [aw h];erw [List.sum_append]);simp [aA,aw h]
  ·(erw [mB (by exact (bk h))];erw [mB (by exact ko (bk h))];erw [aA];erw [dc (by exact (bk h))]);simp
section
variable {prog:bN}{w:cr}{A:aM}{E:af->ao->Prop}{s:ao}
theorem jK {a:ah}{items:Array af}{Q:af->ao->Prop}(hh:A.handled=none)(ht:kc s.heap a items∨s.heap.IsList a items)
  (h:∀ sP I fp wr St,(∃ ob,sP={s with heap:=s.heap.push ob})->Walks prog w A I fp wr items.size (λ i v=>items[i]?=some v) St->St 0 sP.heap->(∀ b∈fp,b<sP.heap.objs.size)->(∀ b∈wr,s.heap.get? b=none) ->
   (∀ b o,s.heap.get? b=some o->sP.heap.get? b=some o)->Q (.ref I) sP):wpAny (model prog w) A (gD (.ref a)) Q E s:=by
 have top:∀ b∈[s.heap.objs.size],s.heap.get? b=none:=λ b hb=>by
  simp at hb;subst hb;exact zj _
 rcases ht with ht | ht
 ·have s3:a<s.heap.objs.size:=by (refine Eea (ht) λ _ e _=>?_;try clear ht);exact a7 e
  refine cZ ht (h _ _ _ _ _ ⟨_,rfl⟩ (rD hh _ a (aF s3) items) ⟨⟨_,aI _ rfl,rfl,rfl⟩,?_⟩ (λ b hb=>?_) top λ b o e=>aq _ e)
  ·(refine Eea (ht) λ o ho r=>?_;try clear ht);exact ⟨o,aq _ ho,r⟩
  ·show b<(s.heap.push _).objs.size
   erw [dJ]
   simp at hb
   rcases hb with rfl | rfl
   ·exact aZ _
   ·exact dr s3
 ·have s3:a<s.heap.objs.size:=by (refine Eea (ht) λ _ e _=>?_;try clear ht);exact a7 e
  refine dm ht (h _ _ _ _ _ ⟨_,rfl⟩ (rL hh _ a (aF s3) items) ⟨⟨_,aI _ rfl,rfl,rfl⟩,?_⟩ (λ b hb=>?_) top λ b o e=>aq _ e)
  ·(refine Eea (ht) λ o ho r=>?_;try clear ht);exact ⟨o,aq _ ho,r⟩
  ·show b<(s.heap.push _).objs.size
   erw [dJ]
   simp at hb
   rcases hb with rfl | rfl
   ·exact aZ _
   ·exact dr s3
end
section
variable {C:Cx}{T:Tabs}{F:Fm}{s s':ao}{φ j':ah->Prop}{μ sJ:List ah}{ρ sL:Rho}{σ σ':zA}{A:aM}{n:Nat}
theorem qN {Q:D->zA->Prop}{v:af}{d:D}{h':aR}{tk:Nat}(R:Rel C T s.heap φ μ σ)(I:FrI F s.heap φ μ ρ)(k:∀ b o,s.heap.get? b=some o->h'.get? b=some o)(V:VD s.heap φ μ v d)(q:Q d σ) :
  PV C T F s φ μ ρ Q v {s with heap:=h',toks:=tk} :=
 let ⟨R',X⟩:=R.grow k
 (pvI (Go.of_ext I R' X) (X.vd V) q)
theorem wV {h A6 h':aR}{wr:List ah}(hw:∀ b∈wr,h.get? b=none)(k:∀ b o,h.get? b=some o->A6.get? b=some o)(k':∀ b o,b∉wr->A6.get? b=some o->h'.get? b=some o):∀ b o,h.get? b=some o->h'.get? b=some o :=
 λ b o e=>k' b o (λ m=>by rw [hw b m] at e;cases e) (k b o e)
theorem zDn {Q:D->zA->Prop}{v:af}{d:D}{xs:List ab}{a:Int}{r:List Int}(hA:A.handled=none)(R:Rel C T s.heap φ μ σ)(I:FrI F s.heap φ μ ρ)(V:VD s.heap φ μ v d)
  (e:zu σ d=some xs) (hi:ints? xs=some (a::r)) (q:Q (.p (.int (ze a r))) σ):wpAny (model C.prog C.w) A (call (.builtin "max") [v]) (PV C T F s φ μ ρ Q) NoE s:=by
 refine Q2 R V e λ ad vs hs vp=>?_
 have H:=Z4 vp hi
 have hl:=H.length
 refine call_max_walk (jK (A:=A.in1) hA hs λ sP Cm fp wr St he W st E5 E8 hk=>?_)
 (refine Ee (he) λ ob AD=>?_;try clear he;obtain rfl:=AD)
 refine ⟨Cm,fp,wr,_,_,St,_,rfl,W,st,E5,?_,CmpOf.ints_gt (λ i=>(a::r).getD i 0) (λ i v hv=>Qz H (j8 hv)),λ v h' tk hP Ac=>?_⟩
 ·(erw [aK];erw [hl]);simp
 ·rw [aK,hl] at hP
  (refine Ee (Qz H (j8 hP)) λ t Bo=>?_;obtain rfl:=Bo)
  erw [VC]
  exact qN R I (wV E8 hk Ac) (.p (.int _ _)) q
theorem zD1 {Q:D->zA->Prop}{v:af}{d:D}{xs:List ab}{a:Int}{r:List Int}(hA:A.handled=none)(R:Rel C T s.heap φ μ σ)(I:FrI F s.heap φ μ ρ)(V:VD s.heap φ μ v d)
  (e:zu σ d=some xs) (hi:ints? xs=some (a::r)) (q:Q (.p (.int (zm a r))) σ):wpAny (model C.prog C.w) A (call (.builtin "min") [v]) (PV C T F s φ μ ρ Q) NoE s:=by
 refine Q2 R V e λ ad vs hs vp=>?_
 have H:=Z4 vp hi
 have hl:=H.length
 refine call_min_walk (jK (A:=A.in1) hA hs λ sP Cm fp wr St he W st E5 E8 hk=>?_)
 (refine Ee (he) λ ob Gf=>?_;try clear he;obtain rfl:=Gf)
 refine ⟨Cm,fp,wr,_,_,St,_,rfl,W,st,E5,?_,CmpOf.ints_lt (λ i=>(a::r).getD i 0) (λ i v hv=>Qz H (j8 hv)),λ v h' tk hP Ac=>?_⟩
 ·(erw [aK];erw [hl]);simp
 ·rw [aK,hl] at hP
  (refine Ee (Qz H (j8 hP)) λ t Gu=>?_;obtain rfl:=Gu)
  erw [Vu]
  exact qN R I (wV E8 hk Ac) (.p (.int _ _)) q
theorem zDj {Q:D->zA->Prop}{v:af}{d:D}{xs:List ab}{l:List Int}(hA:A.handled=none)(R:Rel C T s.heap φ μ σ)(I:FrI F s.heap φ μ ρ)(V:VD s.heap φ μ v d)
  (e:zu σ d=some xs) (hi:ints? xs=some l) (q:Q (.p (.int l.sum)) σ):wpAny (model C.prog C.w) A (call (.builtin "sum") [v]) (PV C T F s φ μ ρ Q) NoE s:=by
 refine Q2 R V e λ ad vs hs vp=>?_
 have H:=Z4 vp hi
 have hl:=H.length
 refine call_sum_walkG (jK (A:=A.in1) hA hs λ sP Cm fp wr St he W st E5 E8 hk=>?_)
 (refine Ee (he) λ ob DE=>?_;try clear he;obtain rfl:=DE)
 refine ⟨Cm,fp,wr,_,_,St,(λ i=>l.getD i 0),rfl,W,st,E5,(λ i v hv=>Qz H (j8 hv)),λ h' tk t' Ac=>?_⟩
 (erw [aK];erw [hl];erw [Yw];erw [oT])
 exact qN R I (wV E8 hk Ac) (.p (.int _ _)) q
end
set_option tactic.hygienic true
theorem z7 {x:ab}{xs:List ab}{k:Ky}(e:keyDs (x::xs)=some k):∃ a r,k=.cons a r/\Zf x=some a/\keyDs xs=some r:=by
 refine Eea (ob e) λ a e1 e2=>?_
 refine Eea (ob e2) λ r e3 e4=>?_
 exact ⟨a,r,(so e4).symm,e1,e3⟩
theorem ZD {xs:List ab}{k:Ky}(e:keyDs xs=some k):k=.nil∨∃ a r,k=.cons a r:=by
 cases xs with
 | nil=>exact .inl (so e).symm
 | cons x xs=>refine Eeea (z7 e) λ a r h _=>?_;exact .inr ⟨a,r,h⟩
def wM (a:ab)(i:Int):Prop:=a=.int i∨∃ b,a=.bool b/\i=cond b 1 0
theorem QK {a:ab}{x:Ky}(e:Zf a=some x):(∃ i,wM a i/\x=.int i)∨(∃ s,a=.str s/\x=.str s)∨∃ xs,a=.tuple xs/\keyDs xs=some x:=by
 cases a with
 | int i=>exact .inl ⟨i,.inl rfl,(so e).symm⟩
 | bool b=>exact .inl ⟨_,.inr ⟨b,rfl,rfl⟩,(so e).symm⟩
 | str i=>exact .inr (.inl ⟨i,rfl,(so e).symm⟩)
 | tuple xs=>exact .inr (.inr ⟨xs,rfl,e⟩)
 | _=>exact nn e
theorem ZX {x y:Ky}(h:x=y->False):false=decide (x=y):=(decide_eq_false h).symm
theorem zC2 {a b:ab}{i j:Int}(ha:wM a i)(hb:wM b j):br a b=(i==j):=by
 rcases ha with rfl | ⟨x,rfl,rfl⟩ <;> rcases hb with rfl | ⟨y,rfl,rfl⟩
 ·rfl
 ·cases y <;> rfl
 ·cases x <;> rfl
 ·cases x <;> cases y <;> rfl
theorem jt {a:ab}{i:Int}{s:aN}{xs:List ab}(ha:wM a i):br a (.str s)=false/\br a (.tuple xs)=false/\br (.str s) a=false/\br (.tuple xs) a=false:=by
 rcases ha with rfl | ⟨x,rfl,rfl⟩ <;> exact ⟨rfl,rfl,rfl,rfl⟩
theorem zB4:∀ (x:Ky),(∀ (a b:ab) (y:Ky),Zf a=some x->Zf b=some y->br a b=decide (x=y))/\(∀ (as bs:List ab) (y:Ky),keyDs as=some x->keyDs bs=some y->bY as bs=decide (x=y)):=by
 have tup:∀ (x:Ky),(x=.nil∨∃ p r,x=.cons p r)->(∀ (as bs:List ab) (y:Ky),keyDs as=some x->keyDs bs=some y->bY as bs=decide (x=y))->∀ (a b:ab) (y:Ky),Zf a=some x->Zf b=some y->br a b=decide (x=y):=λ x hx ih a b y ha hb=>by
  rcases QK ha with ⟨i,_,rfl⟩ | ⟨i,_,rfl⟩ | ⟨as,rfl,ha⟩
  ·rcases hx with h | ⟨_,_,h⟩ <;> cases h
  ·rcases hx with h | ⟨_,_,h⟩ <;> cases h
  ·rcases QK hb with ⟨j,hj,rfl⟩ | ⟨j,rfl,rfl⟩ | ⟨bs,rfl,hb⟩
   ·refine (jt (s:=default) hj).2.2.2.trans (ZX λ h=>by subst h;rcases hx with h | ⟨_,_,h⟩ <;> cases h)
   ·exact ZX λ h=>by subst h;rcases hx with h | ⟨_,_,h⟩ <;> cases h
   ·exact ih as bs y ha hb
 have seq:∀ {as:List ab} {x:Ky} {P:Prop},keyDs as=some x->(∀ p r,x≠.cons p r)->x≠.nil->P:=λ e h1 h2=>by
  rcases ZD e with rfl | ⟨p,r,rfl⟩
  ·exact absurd rfl h2
  ·exact absurd rfl (h1 p r)
 intro x
 induction x with
 | int i =>
  refine ⟨λ a b y ha hb=>?_,λ as bs y ha _=>seq ha (λ _ _ h=>nomatch h) (λ h=>nomatch h)⟩
  rcases QK ha with ⟨k,hi,e⟩ | ⟨k,_,e⟩ | ⟨as,_,ha⟩
  ·(injection e with y5y0;subst y5y0)
   rcases QK hb with ⟨j,hj,rfl⟩ | ⟨j,rfl,rfl⟩ | ⟨bs,rfl,hb⟩
   ·erw [zC2 hi hj]
    by_cases e:i=j
    ·subst e;erw [decide_eq_true rfl];exact beq_self_eq_true i
    ·refine rwS (ZX λ h=>e (by cases h;rfl)) ?_;exact beq_eq_false_iff_ne.mpr e
   ·exact (jt (xs:=[]) hi).1.trans (ZX λ h=>nomatch h)
   ·exact (jt (s:=default) hi).2.1.trans (ZX λ h=>by rcases ZD hb with rfl | ⟨_,_,rfl⟩ <;> cases h)
  ·cases e
  ·exact seq ha (λ _ _ h=>nomatch h) (λ h=>nomatch h)
 | str i =>
  refine ⟨λ a b y ha hb=>?_,λ as bs y ha _=>seq ha (λ _ _ h=>nomatch h) (λ h=>nomatch h)⟩
  rcases QK ha with ⟨k,_,e⟩ | ⟨k,rfl,e⟩ | ⟨as,_,ha⟩
  ·cases e
  ·(injection e with y10y0;subst y10y0)
   rcases QK hb with ⟨j,hj,rfl⟩ | ⟨j,rfl,rfl⟩ | ⟨bs,rfl,hb⟩
   ·exact (jt (xs:=[]) hj).2.2.1.trans (ZX λ h=>nomatch h)
   ·show (i==j)=_
    by_cases e:i=j
    ·subst e;erw [decide_eq_true rfl];exact beq_self_eq_true i
    ·refine rwS (ZX λ h=>e (by cases h;rfl)) ?_;exact beq_eq_false_iff_ne.mpr e
   ·exact ZX λ h=>by rcases ZD hb with rfl | ⟨_,_,rfl⟩ <;> cases h
  ·exact seq ha (λ _ _ h=>nomatch h) (λ h=>nomatch h)
 | nil =>
  have h2:∀ (as bs:List ab) (y:Ky),keyDs as=some .nil->keyDs bs=some y->bY as bs=decide (Ky.nil=y):=λ as bs y ha hb=>by
   cases as with
   | cons a as=>refine Eeea (z7 ha) λ _ _ h _=>?_;cases h
   | nil=>cases bs with
    | nil=>obtain rfl:=so hb;rfl
    | cons b bs=>(refine Eeea (z7 hb) λ _ _ Bu=>?_;obtain rfl:=Bu;intro _);exact ZX λ h=>nomatch h
  exact ⟨tup _ (.inl rfl) h2,h2⟩
 | cons p r E9 EP =>
  have h2:∀ (as bs:List ab) (y:Ky),keyDs as=some (.cons p r)->keyDs bs=some y->bY as bs=decide (Ky.cons p r=y):=λ as bs y ha hb=>by
   cases as with
   | nil=>cases so ha
   | cons a as =>
    refine Eeeaa (z7 ha) λ p' r' e K0 I5=>?_
    cases e
    cases bs with
    | nil=>obtain rfl:=so hb;exact ZX λ h=>nomatch h
    | cons b bs =>
     (refine Eeeaa (z7 hb) λ q t AZ=>?_;obtain rfl:=AZ;intro H' C8)
     show (br a b&&bY as bs)=_
     (erw [E9.1 a b q K0 H'];erw [EP.2 as bs t I5 C8])
     by_cases e1:p=q
     ·by_cases e2:r=t
      ·rw [decide_eq_true e1,decide_eq_true e2,decide_eq_true (by rw [e1,e2])];rfl
      ·(erw [decide_eq_false e2];erw [f8];refine rwS (ZX λ h=>e2 (by cases h;rfl)) ?_;rfl)
     ·(erw [decide_eq_false e1];erw [pH];refine rwS (ZX λ h=>e1 (by cases h;rfl)) ?_;rfl)
  exact ⟨tup _ (.inr ⟨_,_,rfl⟩) h2,h2⟩
section
variable {h:aR}{v:af}{as:List ah}{vs:List af}
def zES (h:aR)(v:af)(as:List ah)(x:ab):Prop:=@bC (λ _=>Prop) x True (λ b=>v=.bool b/\as=[]) (λ i=>∃ t,v=.int i t/\as=[]) (λ x=>∃ t,v=.str x t/\as=[]) (λ _=>True)
 (λ xs=>∃ a o vs n,v=.ref a/\h.get? a=some o/\o.cls=.type "tuple"/\o.data=.seq vs n/\bI h vs.toList xs as) (λ _=>True)
theorem QU {x:ab}(r:dW h v x as):zES h v as x:=by
 cases r with
 | bool b=>exact ⟨rfl,rfl⟩
 | int i t=>exact ⟨_,rfl,rfl⟩
 | str x t=>exact ⟨_,rfl,rfl⟩
 | tuple h1 h2 h3 h4=>exact ⟨_,_,_,_,rfl,h1,h2,h3,h4⟩
 | _=>trivial
theorem zGE {i:Int}(r:dW h v (.int i) as):∃ t,v=.int i t/\as=[]:=QU r
theorem zFd {b:Bool}(r:dW h v (.bool b) as):v=.bool b/\as=[]:=QU r
theorem zGH {x:aN}(r:dW h v (.str x) as):∃ t,v=.str x t/\as=[]:=QU r
theorem zGg {xs:List ab}(r:dW h v (.tuple xs) as):∃ a o vs n,v=.ref a/\h.get? a=some o/\o.cls=.type "tuple"/\o.data=.seq vs n/\bI h vs.toList xs as:=QU r
def WN (h:aR)(vs:List af)(xs:List ab)(as:List ah):Prop:=@bA af (λ _=>Prop) vs (xs=[]/\as=[]) λ v vs=>∃ x ys bs cs,xs=x::ys/\as=bs++cs/\dW h v x bs/\bI h vs ys cs
theorem YF {xs:List ab}(r:bI h vs xs as):WN h vs xs as:=by
 cases r with
 | nil=>exact ⟨rfl,rfl⟩
 | cons p q=>exact ⟨_,_,_,_,rfl,rfl,p,q⟩
theorem zFz {xs:List ab}(r:bI h [] xs as):xs=[]:=And.left (YF r)
theorem ug {v:af}{xs:List ab}(r:bI h (v::vs) xs as):∃ x ys bs cs,xs=x::ys/\as=bs++cs/\dW h v x bs/\bI h vs ys cs:=YF r
theorem zAu {x:ab}{xs:List ab}(r:bI h vs (x::xs) as):∃ v ws bs cs,vs=v::ws/\as=bs++cs/\dW h v x bs/\bI h ws xs cs:=by
 cases vs with
 | nil=>exact absurd (zFz r) (cW _ _)
 | cons v ws=>exact Eeeeeaaa (ug r) λ x' ys bs cs e e' p q=>⟨v,ws,bs,cs,rfl,e',(lL e).1▸p,(lL e).2▸q⟩
theorem wd {x:ab}{k:Ky}{P:af->ab->Ky->List ah->Prop}(hk:Zf x=some k)(hr:dW h v x as)(ci:∀ i t,P (.int i t) (.int i) (.int i) [])(cb:∀ b,P (.bool b) (.bool b) (.int (cond b 1 0)) [])(cs:∀ s t,P (.str s t) (.str s) (.str s) [])
  (ct:∀ a o vs n xs,h.get? a=some o->o.cls=.type "tuple"->o.data=.seq vs n->bI h vs.toList xs as->keyDs xs=some k->P (.ref a) (.tuple xs) k as):P v x k as:=by
 rcases QK hk with ⟨i,rfl | ⟨b,rfl,rfl⟩,rfl⟩ | ⟨i,rfl,rfl⟩ | ⟨xs,rfl,hk⟩
 ·refine Eea (zGE hr) λ t e e'=>?_;(erw [e];erw [e']);exact ci i t
 ·refine Ea (zFd hr) λ e e'=>?_;(erw [e];erw [e']);exact cb b
 ·refine Eea (zGH hr) λ t e e'=>?_;(erw [e];erw [e']);exact cs i t
 ·refine Eeeeeaaaa (zGg hr) λ a o vs n e ho hc hd hi=>?_;erw [e];exact ct a o vs n xs ho hc hd hi hk
end
noncomputable def Q1:Ky->Nat
 | .int _=>1
 | .str _=>1
 | .nil=>1
 | .cons a r=>Q1 a + Q1 r
theorem xG {P:iA}{xs:List ab}{k:Ky}(e:keyDs xs=some k):hashK P k=nN (eM (hashesK P k)):=by
 rcases ZD e with rfl | ⟨_,_,rfl⟩ <;> rfl
theorem Xa {x:ab}{xs:List ab}{n:Nat}(h:bp (x::xs)<=n):x.depth<=n/\bp xs<=n:=by
 exact i8.mp h
section
variable {prog:bN}{w:cr}
theorem uB {xs:List ab}{i:Int}{P:Prop}(e:keyDs xs=some (.int i)):P:=(ZD e).elim (λ h=>Ky.noConfusion h) λ h=>Eee h λ _ _ h=>Ky.noConfusion h
theorem J1 {xs:List ab}{i:aN}{P:Prop}(e:keyDs xs=some (.str i)):P:=(ZD e).elim (λ h=>Ky.noConfusion h) λ h=>Eee h λ _ _ h=>Ky.noConfusion h
theorem We {b:Bool}{A:aM}{E:af->ao->Prop}{s:ao}{Q:Int->ao->Prop}(h:Q (gu (cond b 1 0)) {s with toks:=s.toks + 1}):wpAny (model prog w) A (pyHash (.bool b)) Q E s:=by
 have hT:s.TypeIs (.bool b) "bool":=rfl
 unfold pyHash
 have hv:[rM b].any Value.onHeap=false:=rfl
 refine aa ?_
 rw [cRoomFor,if_neg (by rw [hv];exact a5)];refine am ?_
 refine aa (ia hT fv.lookup ?_)
 show wpAny _ _ (if (some (p8 "int.__hash__")==some dw)=true then _ else _) Q E s
 rw [if_neg (by rw [oU];exact a5)]
 refine aa (ia hT fv.lookup ?_)
 show wpAny _ _ (callSpecialIfBoundUnlessNone? (.bool b) "__hash__" _ >>= _) Q E s
 refine aa (wpAny_callSpecialIfBoundUnlessNone?_slot hT fv (bQ fv hT entry_int_hash ?_ (args_int_hash _)))
 cases b with
 | true=>exact (show wpAny _ _ (do ret (<- mkInt (rawHash 1))) _ _ s from ph (am h))
 | false=>exact (show wpAny _ _ (do ret (<- mkInt (rawHash 0))) _ _ s from ph (am h))
def zAx (prog:bN)(w:cr)(k:Ky):Prop:=∀ (x:ab) (v:af) (as:List ah) (A:aM) (E:af->ao->Prop) (s:ao) (Q:Int->ao->Prop),Zf x=some k->dW s.heap v x as->A.units + x.depth<cLine ->
 Q (hashK w.params k) {s with toks:=s.toks + Q1 k}->wpAny (model prog w) A (pyHash v) Q E s
def jh (prog:bN)(w:cr)(k:Ky):Prop:=∀ (xs:List ab) (vs:List af) (as:List ah) (A:aM) (E:af->ao->Prop) (s:ao) (b:Array Int) (Q:Array Int->ao->Prop),keyDs xs=some k->bI s.heap vs xs as->A.units + bp xs<cLine ->
 (∀ tk b',tk + 1=s.toks + Q1 k->b'.toList=b.toList++hashesK w.params k->Q b' {s with toks:=tk})->wpAny (model prog w) A (forIn vs b λ x r=>do let h<-pyHash x;pure PUnit.unit;pure (dR (r.push h))) Q E s
theorem yL {k:Ky}(ih:jh prog w k):zAx prog w k:=λ x v as A E s Q hk hr hu h=>by
 refine wd (P:=λ v x k _=>A.units + x.depth<cLine->Q (hashK w.params k) {s with toks:=s.toks + Q1 k}->jh prog w k->wpAny (model prog w) A (pyHash v) Q E s)
  hk hr (λ _ _ _ h _=>oR h) (λ _ _ h _=>We h) (λ _ _ _ h _=>wpAny_pyHash_str h) (λ a o items n' xs ho hc tZ hi hk hu h ih=>?_) hu h ih
 have hT:s.TypeIs (.ref a) "tuple":=⟨o,ho,hc⟩
 have hu:A.units + (bp xs + 1)<cLine:=hu
 refine (show wpAny _ _ (pyHashByItsType (.ref a)) Q E s from pyHash_slot hT F.slot_tuple_hash F.entry_tuple_hash (F.args_tuple_hash_1 _) (oU _) (.inr (cg (aH _ _) hu)) ?_)
 show wpAny _ _ (r9 (.ref a) >>= _) _ _ s
 refine aa (wpAny_tupleItemsOf ho tZ ?_)
 refine aa ?_
 refine rwS nP ?_
 refine ih _ _ _ _ _ _ _ _ hk hi (lin [_,_,_] [] (.a (.a (.a (.v 0) (.k 1)) (.v 1)) (.k 1)) (.v 2) [(1,.l (.a (.a (.v 0) (.a (.v 1) (.k 1))) (.k 1)) (.v 2))] tT9 hu) λ tk b' ht hb=>?_
 rw [xG hk,<- ht] at h
 show wpAny _ _ (retInt (eM b'.toList)) _ _ _
 erw [hb]
 exact aa (wpAny_mkInt (am ⟨_,_,rfl,h⟩))
theorem V8 (k:Ky):zAx prog w k/\jh prog w k:=by
 induction k with
 | int i=>exact ⟨yL λ _ _ _ _ _ _ _ _ e=>uB e,λ _ _ _ _ _ _ _ _ e=>uB e⟩
 | str i=>exact ⟨yL λ _ _ _ _ _ _ _ _ e=>J1 e,λ _ _ _ _ _ _ _ _ e=>J1 e⟩
 | nil =>
  have two:jh prog w .nil:=λ xs vs as A E s b Q e r _ h=>by
   cases xs with
   | cons _ _=>exact Eeea (z7 e) λ _ _ e _=>Ky.noConfusion e
   | nil =>
    cases vs with
    | nil=>exact am (h s.toks b rfl (aP _).symm)
    | cons _ _=>exact Eeeeea (ug r) λ _ _ _ _ e _=>List.noConfusion rfl (heq_of_eq e)
  exact ⟨yL two,two⟩
 | cons p r E9 EP =>
  have two:jh prog w (.cons p r):=λ xs vs as A E s b Q e q hu h=>by
   cases xs with
   | nil=>exact Ky.noConfusion (so e)
   | cons x xs =>
    refine Eeeaa (z7 e) λ p' r' e' e1 e2=>?_
    cases e'
    refine Eeeeeaaa (zAu q) λ v ws bs cs ev _ q1 q2=>?_
    (erw [ev];erw [eX])
    refine aa (aa (E9.1 _ _ _ _ _ _ _ e1 q1 (cg (dE (Nat.le_max_left _ _) _) hu) ?_))
    refine aa (am (am ?_))
    refine EP.2 _ _ _ _ _ _ _ _ e2 q2 (cg (dE (Nat.le_max_right _ _) _) hu) λ tk b' ht hb=>h tk b' (ht.trans (gC _ _ _)) ?_
    (erw [hb];erw [gw];erw [au]);rfl
  exact ⟨yL two,two⟩
theorem xD:∀ (n:Nat) (x:ab) (k:Ky) (v:af) (as:List ah) (A:aM) (E:af->ao->Prop) (s:ao) (Q:Bool->ao->Prop),x.depth<=n->Zf x=some k->dW s.heap v x as ->
  Q true s->wpAny (model prog w) A (iN n v) Q E s:=by
 intro n
 have one:∀ (n:Nat) (v:af) (A:aM) (E:af->ao->Prop) (s:ao) (Q:Bool->ao->Prop),Q true s->(iN n v=pure true)->wpAny (model prog w) A (iN n v) Q E s:=λ n v A E s Q h e=>by erw [e];exact am h
 induction n with
 | zero =>
  intro x k v as A E s Q hd hk hr h
  exact wd (P:=λ v x k _=>x.depth<=0->wpAny (model prog w) A (iN 0 v) Q E s) hk hr (λ _ _ _=>one _ _ _ _ _ _ h (ed _ rfl)) (λ _ _=>one _ _ _ _ _ _ h (ed _ rfl)) (λ _ _ _=>one _ _ _ _ _ _ h (ed _ rfl)) (λ _ _ _ _ _ _ _ _ _ _ hd=>absurd hd (Nat.not_succ_le_zero _)) hd
 | succ n ih =>
  intro x k v as A E s Q hd hk hr h
  ·refine wd (P:=λ v x k _=>x.depth<=n + 1->wpAny (model prog w) A (iN (n + 1) v) Q E s) hk hr (λ _ _ _=>one _ _ _ _ _ _ h (ed _ rfl)) (λ _ _=>one _ _ _ _ _ _ h (ed _ rfl)) (λ _ _ _=>one _ _ _ _ _ _ h (ed _ rfl)) (λ a o items n' xs ho hc tZ hi hk hd=>?_) hd
   have CJ:bp xs<=n:=gY hd
   have hT:s.TypeIs (.ref a) "tuple":=⟨o,ho,hc⟩
   unfold iN
   refine aa (ia hT PySem.F.slot_tuple_eq.lookup ?_)
   show wpAny _ _ (isInstance (.ref a) (.type "tuple") >>= _) _ _ s
   refine aa (gL hT isSubtype_tuple_tuple ?_)
   simp only [lM,ch,if_false]
   refine aa (cE ho tZ ?_)
   refine aa ?_
   show wpAny _ _ (forIn items _ _) _ _ s
   refine rwS nP ?_
   refine wpAny_forIn_list _ (λ rest r s'=>r.1=none/\s'=s/\∃ (left:List ab) (kl:Ky) (al:List ah),bI s.heap rest left al/\keyDs left=some kl/\bp left<=n) _ ?_ ?_ _ _ ⟨rfl,rfl,xs,k,_,hi,hk,CJ⟩
   ·rintro v rest r s' ⟨hr,rfl,left,kl,al,hl,Dn,CD⟩
    ·(refine Eeeeeaaa (ug hl) λ d ds bs Fc DE=>?_;obtain rfl:=DE;intro _ p r')
     (refine Eeeaa (z7 Dn) λ ka kr DZ=>?_;obtain rfl:=DZ;intro h1 h2)
     refine Ea (Xa CD) λ d1 d2=>?_
     refine aa (ih d ka v _ _ E s' _ d1 h1 p ?_)
     simp only [lM,ch,if_false]
     exact am ⟨rfl,rfl,ds,kr,_,r',h2,d2⟩
   ·rintro ⟨r1,r2⟩ s' ⟨Kx,rfl,_⟩
    have IJ:r1=none:=Kx
    subst IJ
    exact am h
end
theorem W7 {h h':aR}{d:ah}{od:eV}{es:Array dS}{ep:Nat}(hd:h.get? d=some od)(Hh:od.data=.dict es ep)(hs:cn d h h'):∀ (k:Ky),(∀ {v:af} {x:ab} {as:List ah},Zf x=some k->dW h v x as->dW h' v x as) /\
  (∀ {vs:List af} {xs:List ab} {as:List ah},keyDs xs=some k->bI h vs xs as->bI h' vs xs as):=by
 have one:∀ (k:Ky),(∀ {vs:List af} {xs:List ab} {as:List ah},keyDs xs=some k->bI h vs xs as->bI h' vs xs as)->∀ {v:af} {x:ab} {as:List ah},Zf x=some k->dW h v x as->dW h' v x as:=λ k ih v x as e r=>by
  refine wd (P:=λ v x k as=>(∀ {vs:List af} {xs:List ab} {as:List ah},keyDs xs=some k->bI h vs xs as->bI h' vs xs as)->dW h' v x as) e r (λ i t _=>.int i t) (λ b _=>.bool b) (λ i t _=>.str i t) (λ a o vs n xs ho hc tZ hi e ih=>?_) ih
  have tq:a≠d:=λ q=>by
   rw [<- q,ho] at hd
   rw [so hd] at tZ
   exact Data.noConfusion (Hh.symm.trans tZ)
  exact .tuple ((hs.2 a tq).trans ho) hc tZ (ih e hi)
 intro k
 induction k with
 | cons p r E9 EP =>
  have two:∀ {vs:List af} {xs:List ab} {as:List ah},keyDs xs=some (.cons p r)->bI h vs xs as->bI h' vs xs as:=λ {vs xs as} e q=>by
   cases xs with
   | nil=>cases so e
   | cons x xs =>
    refine Eeeaa (z7 e) λ p' r' e' e1 e2=>?_
    cases e'
    (refine Eeeeeaaa (zAu q) λ v ws bs cs Cd=>?_;obtain rfl:=Cd;intro Hm;obtain rfl:=Hm;intro q1 q2)
    exact .cons (E9.1 e1 q1) (EP.2 e2 q2)
  exact ⟨one _ two,two⟩
 | int i =>
  have two:∀ {vs:List af} {xs:List ab} {as:List ah},keyDs xs=some (.int i)->bI h vs xs as->bI h' vs xs as:=λ e q=>by rcases ZD e with h | ⟨_,_,h⟩ <;> cases h
  exact ⟨one _ two,two⟩
 | str i =>
  have two:∀ {vs:List af} {xs:List ab} {as:List ah},keyDs xs=some (.str i)->bI h vs xs as->bI h' vs xs as:=λ e q=>by rcases ZD e with h | ⟨_,_,h⟩ <;> cases h
  exact ⟨one _ two,two⟩
 | nil =>
  have two:∀ {vs:List af} {xs:List ab} {as:List ah},keyDs xs=some .nil->bI h vs xs as->bI h' vs xs as:=λ {vs xs as} e q=>by
   cases xs with
   | nil=>cases q;exact .nil
   | cons x xs=>refine Eeea (z7 e) λ p' r' e' _=>?_;cases e'
  exact ⟨one _ two,two⟩
def zAr (h:aR)(k:Ky)(a:ah):Prop:=∃ xs as,dW h (.ref a) (.tuple xs) as/\keyDs xs=some k/\(bE xs).depth<=6/\(bE xs).canLay0=true
noncomputable def jd (prog:bN)(w:cr):HeapKind prog w Ky where
 is:=zAr
 hash:=hashK w.params
 draws:=Q1
 room:=λ A=>A.units + 20<cLine
 inj:=λ {h a x y} ⟨xs,as,r,k,d,c⟩ ⟨ys,bs,r',k',d',c'⟩=>by
  refine Ea (sd r _ _ r') λ e _=>?_
  (injection e with y25y0;subst y25y0)
  rw [k] at k';cases k';rfl
 keeps:=λ {h h' k a d o es ep} ⟨xs,as,r,e,dd,c⟩ ho hd hs=>⟨xs,as,(W7 ho hd hs k).1 e r,e,dd,c⟩
 pyHash:=λ {A E s k a Q} hu ⟨xs,as,r,e,dd,c⟩ h=>(V8 k).1 (.tuple xs) _ _ _ _ _ _ e r (lin [_,_,_] [] (.a (.a (.v 0) (.v 1)) (.k 1)) (.v 2) [(1,.l (.a (.a (.v 0) (.k 20)) (.k 1)) (.v 2)),(1,.l (.v 1) (.k 6))] tT9 hu dd) h
 eqBool:=λ {A E s x y a b Q} hu ⟨xs,as,r,e,dd,c⟩ ⟨ys,bs,r',e',Lu,c'⟩ h=>pI prog w A E s _ _ _ _ _ _ Q r r' c c' (by lia)
  (by erw [(zB4 x).1 (.tuple xs) (.tuple ys) y e e'];exact h)
 quiet:=λ {A E s k a Q} ⟨xs,as,r,e,dd,c⟩ h=>xD 8 (.tuple xs) k _ _ A E s Q (ae dd (nB9 rfl)) e r h
section
variable {C:Cx}{T:Tabs}{F:Fm}{s s':ao}{φ j':ah->Prop}{μ sJ:List ah}{ρ sL:Rho}{σ σ':zA}{A:aM}{n:Nat}
theorem YZ {h:aR}{a:ah}{xs:List ab}{k:Ky}(v:VP h φ (.ref a) (.tuple xs))(e:keyDs xs=some k)(d:(bE xs).depth<=6):zAr h k a:=by
 refine Ee (v.reads) λ as r=>?_
 exact ⟨xs,as,r,e,d,v.canLay⟩
theorem zAo {h:aR}{xs:List (Ky×ah×af)}{es:List (Ky×D)}(t:TEs h φ μ xs es):∀ x∈xs,zAr h x.1 x.2.1:=by
 induction t with
 | nil=>exact λ x hx=>nomatch hx
 | cons v e d _ _ ih =>
  intro x hx
  rcases aJ.mp hx with rfl | hx
  ·exact YZ v e d
  ·exact ih x hx
theorem Y4 {h:aR}{xs:List (Ky×ah×af)}{es:List (Ky×D)}(t:TEs h φ μ xs es)(k:Ky) :
  (∃ d p,zw k es=some d/\atKey xs k=some p/\VD h φ μ p.2 d)∨(zw k es=none/\atKey xs k=none):=by
 induction t with
 | nil=>exact .inr ⟨rfl,rfl⟩
 | cons v e d w _ ih =>
  rename_i k' BZ a v' d' r es' t'
  by_cases hk:k'=k
  ·refine .inl ⟨d',(a,v'),?_,?_,w⟩
   ·show (dz _ _).map _=_
    (erw [bX];erw [decide_eq_true hk]);rfl
   ·show (dz _ _).map _=_
    (erw [bX];erw [decide_eq_true hk]);rfl
  ·have e1:zw k ((k',d')::es')=zw k es':=by
    show (dz _ _).map _=_
    (erw [bX];erw [decide_eq_false hk]);rfl
   have e2:atKey ((k',a,v')::r) k=atKey r k:=by
    show (dz _ _).map _=_
    (erw [bX];erw [decide_eq_false hk]);rfl
   (erw [e1];erw [e2])
   exact ih
theorem yW (R:Rel C T s.heap φ μ σ){i:Nat}{a:ah}{es:List (Ky×D)}(ha:μ[i]?=some a)(hi:σ[i]?=some (.tdict es)) :
  (a==eg)=false/\∃ xs,s.heap.DictOfH (jd C.prog C.w) a xs/\TEs s.heap φ μ xs es:=by
 obtain ⟨h1,xs,⟨o,ds,ep,ho,hx,hd,he,hn⟩,t⟩:=R.at_ i a _ ha hi
 exact ⟨h1,xs,⟨o,ds,ep,ho,hx,hd,he,zAo t,hn⟩,t⟩
theorem jF (hA:Room n A):(jd C.prog C.w).room A.in1:=by
 show A.units + 1 + 20<cLine
 have:=hA.units;exact lin [_,_,_] [] (.a (.a (.a (.v 0) (.k 1)) (.k 20)) (.k 1)) (.v 1) [(1,.l (.a (.a (.a (.v 0) (.m 20 (.v 2))) (.k 400)) (.k 1)) (.v 1))] tT9 this
theorem JS {M:Model}{E:af->ao->Prop}{c x:af}{P:Bool->ao->Prop}(h:wpAny M A (compareOp .In x c) (λ v s'=>∃ r,v=.bool r/\P r s') E s):wpAny M A (mT c x) P E s:=λ Γ p K3=>by
 have:=h Γ p K3
 rw [show compareOp .In x c=(mT c x >>= λ b=>pure (.bool b)) from rfl,Sem.wp_bind'] at this
 refine Sem.wp_mono M Γ _ (λ a p' s' h'=>?_) (λ _ _ _ h'=>h') p s this
 obtain ⟨r,e,hp⟩:∃ r,rM a=.bool r/\P r s':=h'
 (injection e with y27y0;subst y27y0);exact hp
theorem Qo (hA:Room n A)(R:Rel C T s.heap φ μ σ)(i:Nat)(es:List (Ky×D))(k:List ab)(q:Ky)(a b:ah)(P:Bool->Prop)(hi:σ[i]?=some (.tdict es))(ha:μ[i]?=some a)(v:VP s.heap φ (.ref b) (.tuple k))
  (hd:Kd (.tuple k)) (hq:keyDs k=some q) (p:P (zw q es).isSome):wpAny (model C.prog C.w) A (mT (.ref a) (.ref b)) (λ r s'=>∃ tk,s'={s with toks:=tk}/\P r) NoE s:=by
 (refine Ea (yW R ha hi) λ h1 B0=>?_;refine Eea B0 λ xs hm t=>?_)
 have e:(atKey xs q).isSome=(zw q es).isSome:=by
  rcases Y4 t q with ⟨d,p,hd,hp,_⟩ | ⟨hd,hp⟩
  ·(erw [hp];erw [hd]);rfl
  ·(erw [hp];erw [hd]);rfl
 have key:=wpAny_in_heap (E:=NoE) (Q:=λ v s'=>∃ r,v=.bool r/\∃ tk,s'={s with toks:=tk}/\P r) (knd:=jd C.prog C.w) (jF hA) (YZ v hq hd.h) h1 hm ⟨_,rfl,_,rfl,by erw [e];exact p⟩
 exact JS key
end
set_option tactic.hygienic false
variable {i n j:Nat}{vs:List af}{kvs:List (Int×af)}{p:Int×Bool}{key:af}
theorem YG (a:Int):∀ l:List Int,(yS a l).Perm (a::l)
 | []=>.refl _
 | b::r=>by
  simp only [Ug,Uo]
  split
  ·exact .refl _
  ·exact ((YG a r).cons b).trans (.swap a b r)
theorem Z9:∀ l:List Int,(ZF l).Perm l
 | []=>.refl _
 | a::r=>(YG a (ZF r)).trans ((Z9 r).cons a)
theorem Yt (a:Int):∀ l:List Int,l.Pairwise (·<=·)->(yS a l).Pairwise (·<=·)
 | [],_=>by simp [Ug,Uo]
 | b::r,h=>by
  simp only [Ug,Uo]
  rw [b9] at h
  split
  ·rename_i AW
   exact b9.mpr ⟨λ x hx=>by rcases aJ.mp hx with rfl | hx;exact AW;exact ai AW (h.1 x hx),b9.mpr h⟩
  ·rename_i AW
   refine b9.mpr ⟨λ x hx=>?_,Yt a r h.2⟩
   rcases aJ.mp ((YG a r).mem_iff.mp hx) with rfl | hx
   ·exact ck (nQ.mp AW)
   ·exact h.1 x hx
theorem QL:∀ l:List Int,(ZF l).Pairwise (·<=·)
 | []=>.nil
 | a::r=>Yt a _ (QL r)
section
variable {prog:bN}{w:cr}{A:aM}{E:af->ao->Prop}{s:ao}
theorem wR {x:af}{l:List Int}{Q:af->ao->Prop}(hc:∀ (Q':List af->ao->Prop),(∀ h' tk vs l',(∀ b o,s.heap.get? b=some o->h'.get? b=some o)->l'.Perm l->cM vs l'->Q' vs {s with heap:=h',toks:=tk})->wpAny (model prog w) A.in1 (oi x) Q' E s)
  (Dj:l.length<64) (h:∀ D h' tk vs e,(∀ b o,s.heap.get? b=some o->h'.get? b=some o)->s.heap.get? D=none->h'.get? D=some (seqObj "list" vs.toArray e)->cM vs (ZF l)->Q (.ref D) {s with heap:=h',toks:=tk}) :
  wpAny (model prog w) A (call (.builtin "sorted") [x]) Q E s:=by
 refine nB kind_sorted plain_sorted entry_sorted (args_sorted1 _) ?_
 unfold cH.«sorted»
 refine aa (m:=checkCount "sorted" 1 1 _) (am ?_)
 refine aa (hc _ λ h' tk vs l' hk hp hI=>?_)
 have hl:=hI.length.trans hp.length_eq
 refine aa (lN ?_ (by erw [cA];exact lin [_,_] [] (.v 0) (.k 16777216) [(1,.l (.a (.v 1) (.k 1)) (.k 64)),(1,.e (.v 0) (.v 1))] tT9 Dj hl))
 have BB:(h'.push (seqObj "list" vs.toArray 0)).get? h'.objs.size=some (seqObj "list" vs.toArray 0):=aI _ rfl
 refine aa (aQ (bQ iC ⟨_,BB,rfl⟩ k8 (list_sort_tree BB hI (lin [_,_] [] (.a (.v 0) (.k 1)) (.k 64) [(1,.l (.a (.v 1) (.k 1)) (.k 64)),(1,.e (.v 0) (.v 1))] tT9 Dj hl) λ out KA a1 a2 a3=>⟨_,rfl,?_⟩) (lw _)))
 have e:KA=ZF l:=ksm_same (a2.trans (hp.trans (Z9 l).symm)) a3 (QL l)
 subst e
 refine Ee (lO (vs:=vs) (out:=out) BB) λ e he=>?_
 have hD:s.heap.get? h'.objs.size=none:=by
  cases q:s.heap.get? h'.objs.size with
  | none=>rfl
  | some o=>exact absurd (a7 (hk _ _ q)) (fM _)
 refine am ⟨_,rfl,h _ _ tk out.toList e (λ b o q=>?_) hD (by simpa using he) a1⟩
 have hb:=hk _ _ q
 have s3:=a7 hb
 exact (lx (aF s3) (by erw [ly];exact dr s3)).trans (aq _ hb)
end
section
variable {C:Cx}{T:Tabs}{F:Fm}{s s':ao}{φ j':ah->Prop}{μ sJ:List ah}{ρ sL:Rho}{σ σ':zA}{A:aM}{n:Nat}
theorem zA9 {h:aR}{es:List (Int×D)}(t:IEs h φ μ kvs es):kvs.map (·.1)=es.map (·.1):=by
 induction t with
 | nil=>rfl
 | cons _ _ ih=>simp [ih]
theorem UG :∀ {vs:List af},vs.length=kvs.length->(∀ (j:Nat) (v:af),vs[j]?=some v->∃ k x,kvs[j]?=some (k,x)/\kN k v=true)->cM vs (kvs.map (·.1)):=by
 induction kvs with
 | nil=>intro vs h _;cases vs with | nil=>exact .nil | cons _ _=>simp at h
 | cons p r ih =>
  intro vs h hk
  cases vs with
  | nil=>simp at h
  | cons v vs =>
   refine Eeea (hk 0 v rfl) λ k x e hv=>?_
   (refine Ee (n9 hv) λ t Ao=>?_;obtain rfl:=Ao)
   simp at e
   subst e
   exact .cons _ _ (ih (by simpa using h) λ j v' e'=>by simpa using hk (j + 1) v' (by simpa using e'))
theorem Ue (hA:Room n A)(R:Rel C T s.heap φ μ σ){v:af}{d:D}{l:List Int}(V:VD s.heap φ μ v d)(e:qx σ d=some l)(hl:l.length<64)(E:af->ao->Prop)(Q':List af->ao->Prop)
  (h:∀ h' tk vs l',(∀ b o,s.heap.get? b=some o->h'.get? b=some o)->l'.Perm l->cM vs l'->Q' vs {s with heap:=h',toks:=tk}):wpAny (model C.prog C.w) A.in1 (oi v) Q' E s:=by
 have fromList:∀ {a:ah} {vs:List af} {xs:List ab},s.heap.IsList a vs.toArray->VPs s.heap φ vs xs->ints? xs=some l->wpAny (model C.prog C.w) A.in1 (oi (.ref a)) Q' E s:=by
  rintro a vs xs ⟨o,ho,hc,n,hd⟩ hp hx
  have H:=Z4 hp hx
  have hn:=H.length
  exact gz a (.inl rfl) ho hc hd (λ h' hk=>h h' s.toks _ _ hk (.refl _) H) (by (erw [aK];erw [cA]);exact lin [_,_] [] (.v 0) (.k 16777216) [(1,.l (.a (.v 1) (.k 1)) (.k 64)),(1,.e (.v 0) (.v 1))] tT9 hl hn)
 cases d with
 | p x =>
  refine Eea (ob e) λ xs e1 e2=>?_
  cases x with
  | list ys =>
   obtain rfl:=so e1
   refine V.ip.mlst λ a vs f ht r=>?_
   exact fromList ht r e2
  | tuple ys =>
   obtain rfl:=so e1
   refine V.ip.mtup λ a vs f ht r=>?_
   (refine Eeaa (ht.t) λ o ho hc tM=>?_;refine Ee tM λ n hd=>?_)
   have H:=Z4 r e2
   have hn:=H.length
   exact gz a (.inr rfl) ho hc hd (λ h' hk=>h h' s.toks _ _ hk (.refl _) H) (by (erw [aK];erw [hn];erw [cA]);exact lin [_] [] (.v 0) (.k 16777216) [(1,.l (.a (.v 0) (.k 1)) (.k 64))] tT9 hl)
  | _=>exact nn e1
 | obj i =>
  refine Eea (ob e) λ mo hi e=>?_
  refine V.mobj λ a ha=>?_
  cases mo with
  | lst xs =>
   refine Eeea (R.at_ _ _ _ ha hi) λ vs k ho hp=>?_
   exact fromList ⟨_,ho,rfl,_,rfl⟩ hp e
  | idict es =>
   obtain rfl:=so e
   (refine Ea (R.at_ _ _ _ ha hi) λ h1 Aw=>?_;refine Eea Aw λ kvs hm t=>?_)
   have Dh:=zA9 t
   refine Ee (hm.dictAt) λ ep KJ=>?_
   have hn:kvs.length<64:=by (refine rwS (aj (f:=(·.1))) ?_;erw [Dh]);exact hl
   exact kdu_collect (kdl_dict (knd:=intKind C.prog C.w) h1) hA.hd KJ (by erw [cA];exact lin [_] [] (.v 0) (.k 16777216) [(1,.l (.a (.v 0) (.k 1)) (.k 64))] tT9 hn) λ h' tk acc hk Co =>
    h h' tk _ _ hk (.refl _) (by refine rwS Dh ?_;exact UG (by simpa using Co.1) λ j v e=>Co.2 j v (by simpa using e))
  | iset l' =>
   obtain rfl:=so e
   exact xM hA.hd (R.at_ _ _ _ ha hi) h
  | _=>exact nn e
 | _=>exact nn e
theorem VT {h:aR}{l:List Int}(H:cM vs l):VPs h φ vs (l.map .int):=by
 induction H with
 | nil=>exact .nil
 | cons k t _ ih=>exact .cons (.int k t) ih
theorem Yf {Q:D->zA->Prop}{m:Bool}{D:ah}{h':aR}{tk:Nat}{vs:List af}{xs:List ab}{e:Nat}(R:Rel C T s.heap φ μ σ)(I:FrI F s.heap φ μ ρ)(k:∀ b o,s.heap.get? b=some o->h'.get? b=some o)
  (hD:s.heap.get? D=none) (Cz:h'.get? D=some (listOf vs.toArray e)) (V:VPs s.heap φ vs xs) (q:Zk m xs σ Q) :
  PV C T F s φ μ ρ Q (.ref D) {s with heap:=h',toks:=tk}:=by
 cases m with
 | true =>
  have x:=R.newM k hD _ Cz (.lst xs) λ kk=>⟨vs,e,Cz,V.mono kk⟩
  exact pvI (Go.of_ext I x.1 x.2.1) (.obj x.2.2) q
 | false =>
  refine Ea (R.newF k hD Cz) λ R' X=>?_
  exact pvI (Go.of_ext I R' X) (.p (.lst (.inr rfl) ⟨_,Cz,rfl,_,rfl⟩ (X.vps V))) q
theorem wq {Q:D->zA->Prop}{m:Bool}{v:af}{d:D}{l:List Int}(hA:Room n A)(R:Rel C T s.heap φ μ σ)(I:FrI F s.heap φ μ ρ)(V:VD s.heap φ μ v d)(e:qx σ d=some l)(hl:l.length<64)
  (q:Zk m ((ZF l).map .int) σ Q) :
  wpAny (model C.prog C.w) A (call (.builtin "sorted") [v]) (PV C T F s φ μ ρ Q) NoE s :=
 wR (λ Q' h=>Ue hA R V e hl NoE Q' h) hl λ D h' tk vs e hk hD Cz hI=>Yf R I hk hD Cz (VT hI) q
end
theorem Y7 {l:List (Int×Bool)}(h:l.length=2):BitsOk l:=⟨by erw [h];decide,by erw [h];rfl⟩
theorem Vp {l:List (Int×Bool)}(h:l.length=3):BitsOk l:=⟨by erw [h];decide,by erw [h];rfl⟩
section
variable {prog:bN}{w:cr}{A:aM}{E:af->ao->Prop}{s:ao}{φ:ah->Prop}
theorem JU {h:aR}{v:af}(V:VP h φ v (zI p)):∃ a t u o n,v=.ref a/\φ a/\h.get? a=some o/\o.cls=.type "tuple"/\o.data=.seq #[.str (ag "bit") t,.int p.1 u,.bool p.2] n:=by
 refine Eeeaaa V.itup λ a vs e f ht r=>?_
 refine Eeeaa r.icons λ v1 r1 e1 q1 r=>?_
 refine Eeeaa r.icons λ v2 r2 e2 q2 r=>?_
 refine Eeeaa r.icons λ v3 r3 e3 q3 r=>?_
 (refine Eeaa (ht.t) λ o ho hc tM=>?_;refine Ee tM λ n hd=>?_)
 refine Eea q1.istr λ t e4 _=>?_
 refine Ee q2.iint λ u e5=>?_
 have e6:=q3.ibool
 rw [e1,e2,e3,r.inil,e4,e5,e6] at hd
 exact ⟨a,t,u,o,n,e,f,ho,hc,hd⟩
theorem zC0 {v u:af}{q:Int×Bool}{Q:Bool->ao->Prop}(V:VP s.heap φ v (zI p))(U:VP s.heap φ u (zI q))(hu:A.units<cLine)(h:Q (ltP p q) s):wpAny (model prog w) A (keyLt' (tuples' true) v u) Q E s:=by
 obtain ⟨a,t1,t2,o,n,rfl,_,ho,_,hd⟩:=JU V
 obtain ⟨b,u1,u2,o',m,rfl,_,x6,_,BD⟩:=JU U
 refine kat_lt ho hd x6 BD ?_
 refine pJ (wpAny_eqBool_str ?_)
 erw [decide_eq_true rfl]
 refine on (pJ (wpAny_eqBool_int ?_))
 unfold ltP at h
 by_cases e:p.1=q.1
 ·rw [decide_eq_true e] at h
  refine rwE (show (p.1==q.1)=true from beq_iff_eq.mpr e) ?_
  refine on (pJ (pI prog w A _ _ _ _ _ _ _ _ _ (.bool p.2) (.bool q.2) rfl rfl hu ?_))
  show KatGo prog w A true _ _ _ _ [] _ (p.2==q.2) s
  cases e1:p.2 <;> cases e2:q.2 <;> rw [e1,e2] at h
  ·exact on (kat_nil h)
  ·exact kat_no (kat_one _ _ (lt_bool h))
  ·exact kat_no (kat_one _ _ (lt_bool h))
  ·exact on (kat_nil h)
 ·rw [decide_eq_false e] at h
  refine rwE (show (p.1==q.1)=false from beq_eq_false_iff_ne.mpr e) ?_
  exact kat_no (kat_one _ _ (lt_int h))
theorem Vr {a b c d:Bool}(h:((a&&b)&&(c&&d))=true):(a=true/\b=true)/\c=true/\d=true:=by cases a <;> cases b <;> cases c <;> cases d <;> first | exact ⟨⟨rfl,rfl⟩,rfl,rfl⟩ | exact bd h
theorem WO {h:aR}{l:List (Int×Bool)}(V:VPs h φ vs (l.map zI))(s3:i<l.length):VP h φ (vs.getD i dw) (zI (atB l i)):=by
 refine Eea (V.get (k:=i) (x:=zI (atB l i)) (by unfold atB;(erw [a6];erw [aw s3];erw [aA];erw [aw s3]);rfl)) λ v e q=>?_
 (erw [aA];erw [e]);exact q
theorem Jf {lt:Nat->Nat->Bool}:∀ {t:KasT (Array Nat)},okT n t=true->∀ i,i∈(QF lt t).toList->i<n
 | .ret _,h,i,m=>a9 (bR.mp h i m)
 | .ask i j k,h,x,m=>by
  refine Eaa (Vr h) λ _ h1 h2=>?_
  have hn:okT n (k (lt i j))=true:=by cases lt i j;exact h2;exact h1
  exact Jf (t:=k (lt i j)) hn x m
theorem UE {l:List (Int×Bool)}{G:Array Nat->ao->Prop}(V:VPs s.heap φ vs (l.map zI))(hu:A.units<cLine):∀ (t:KasT (Array Nat)),okT l.length t=true->G (QF (ltB l) t) s->t.kasWp (kas_ask prog w A (tuples' true) vs) G s
 | .ret _,_,h=>h
 | .ask i j k,ho,h=>by
  (refine Eaa (Vr ho) λ Ao=>?_;(refine Ea (Ao) λ hi hj=>?_;try clear Ao);intro h1 h2)
  have at_:∀ {i:Nat},dC i l.length=true->VP s.heap φ (vs.getD i dw) (zI (atB l i)):=λ {i} hi=>WO V (a9 hi)
  have hn:okT l.length (k (ltB l i j))=true:=by cases ltB l i j;exact h2;exact h1
  exact zC0 (at_ hi) (at_ hj) hu (UE V hu (k (ltB l i j)) hn h)
theorem Wa {h:aR}{l:List (Int×Bool)}:∀ {vs:List af},VPs h φ vs (l.map zI)->∃ fs:List af,KatTups h vs fs/\fs.length=l.length/\∀ v,v∈fs->∃ t,v=.str (ag "bit") t:=by
 induction l with
 | nil=>exact λ {vs} V=>⟨[],by erw [V.inil];exact .nil,rfl,λ _ h=>nomatch h⟩
 | cons p l ih =>
  intro vs V
  refine Eeeaa V.icons λ v r e q r'=>?_
  refine Eeaa (ih r') λ fs h1 h2 h3=>?_
  obtain ⟨a,t,u,o,n,e',_,ho,hc,hd⟩:=JU q
  (erw [e];erw [e'])
  exact ⟨.str (ag "bit") t::fs,.cons ho hc hd rfl h1,congrArg (· + 1) h2,λ x hx=>by
   rcases aJ.mp hx with e | h
   ·exact ⟨t,e⟩
   ·exact h3 x h⟩
theorem UI {h:aR}{l:List (Int×Bool)}(V:VPs h φ vs (l.map zI)):∀ {p:List Nat},(∀ i,i∈p->i<l.length)->VPs h φ (p.map λ i=>vs.getD i dw) ((p.map (atB l)).map zI)
 | [],_=>.nil
 | i::p,hp=>.cons (WO V (hp i (.head _))) (UI V λ j m=>hp j (.tail _ m))
theorem Js {a:ah}{l:List (Int×Bool)}{P:oV->ao->Prop}(ho:s.heap.get? a=some (seqObj "list" vs.toArray n))(V:VPs s.heap φ vs (l.map zI))(KG:∀ b,φ b->b≠a/\∃ o,s.heap.get? b=some o)(hb:BitsOk l)(hu:A.units<cLine)
  (h:∀ out,(∀ (h:aR) (φ:ah->Prop),VPs h φ vs (l.map zI)->VPs h φ out ((ZM l).map zI))->P (.done (.ret .none)) {s with heap:=sortedHeap s.heap a vs out.toArray}):wpAny (model prog w) A (cH.«list.sort» ⟨[.ref a],[]⟩) P E s:=by
 have hl:vs.length=l.length:=V.length.trans (aj ..)
 have Dj:vs.length<64:=hl▸hb.few
 erw [list_sort_plain]
 have ha:a<s.heap.objs.size:=a7 ho
 refine aa (listItems_at ho rfl ?_)
 refine aa (lP ho rfl ?_ (by (erw [aK];erw [cA]);exact lin [_] [] (.v 0) (.k 16777216) [(1,.l (.a (.v 0) (.k 1)) (.k 64))] tT9 Dj) (bO _))
 obtain ⟨e1,CC⟩:∃ e1,(s.heap.update a (et λ _=>#[])).get? a=some (seqObj "list" #[] e1):=⟨_,get?_update_seq ho (λ _=>#[])⟩
 refine aa (mW CC rfl ?_)
 refine aa (pK ?_ (by show vs.length<=_;erw [cA];exact lin [_] [] (.v 0) (.k 16777216) [(1,.l (.a (.v 0) (.k 1)) (.k 64))] tT9 Dj))
 refine aa (lN ?_ (bO _))
 refine aQ ?_
 have FE:(((s.heap.update a (et λ _=>#[])).push (seqObj "tuple" vs.toArray 0)).push (seqObj "list" #[] 0)).get? a=some (seqObj "list" #[] e1):=by
  rw [gA _ _ _ (by rw [ly,gO];exact aF (dr ha)),gA _ _ _ (by rw [gO];exact aF ha)]
  exact CC
 show wpAny (model prog w) A _ P E {s with heap:=((s.heap.update a (et λ _=>#[])).push (seqObj "tuple" vs.toArray 0)).push (seqObj "list" #[] 0)}
 dsimp only
 have Bf:vs.toArray.size=vs.length:=aK
 have hV:VPs (((s.heap.update a (et λ _=>#[])).push (seqObj "tuple" vs.toArray 0)).push (seqObj "list" #[] 0)) φ vs (l.map zI):=V.mono λ b fb=>⟨fb,by
  refine Ea (KG b fb) λ tq o=>Ee o λ o ho=>?_
  have s3:=a7 ho
  rw [gA _ _ _ (by rw [ly,gO];exact aF (dr s3)),gA _ _ _ (by rw [gO];exact aF s3),Heap.get?_update_ne _ _ _ _ tq]⟩
 by_cases h2:vs.toArray.size<2
 ·(erw [if_pos h2];erw [if_pos h2])
  refine aa (am ?_)
  erw [StateT.run_pure]
  refine aa (am ?_)
  dsimp only
  refine aa (mW FE rfl ?_)
  have e0:(arrOf (SortSt.mk' general' (vs.toArray.zip vs.toArray) #[] 7 none)).map (·.2)=vs.toArray:=by
   show (vs.toArray.zip vs.toArray).map (·.2)=_
   apply Array.toList_inj.mp
   simp only [Array.toList_map,Array.toList_zip]
   exact List.map_snd_zip (bn _)
  erw [e0]
  refine aa (lP FE rfl ?_ (bO _) (by (erw [Bf];erw [cA]);exact lin [_] [] (.v 0) (.a (.k 16777216) (.k 1)) [(1,.l (.a (.v 0) (.k 1)) (.k 64))] tT9 Dj))
  simp only [bne_self_eq_false,ch,if_false]
  refine am (h vs λ _ _ V=>?_)
  have:ZM l=l:=by
   have C8:dC l.length 2=true:=mJ (by (refine rwS hl ?_;refine rwS Bf ?_);exact h2)
   unfold ZM;erw [C8];rfl
  erw [this];exact V
 ·(erw [if_neg h2];erw [if_neg h2])
  have IS:2<=vs.length:=by rw [Bf] at h2;exact (bk h2)
  refine Eeaa (Wa hV) λ fs k1 k2 k3=>?_
  refine aa (kat_kind (T:=.type "str") k1 (by omega) (λ v m=>Ee (k3 v m) λ t e=>e▸rO) rfl ?_)
  refine aa (ay (kat_run (ks:=vs) (G:=λ p s'=>p.size=vs.length->s'={s with heap:=((s.heap.update a (et λ _=>#[])).push (seqObj "tuple" vs.toArray 0)).push (seqObj "list" #[] 0)}/\p=QF (ltB l) (kg l.length)) (Q:=λ FL s'=>∃ p:Array Nat,arrOf FL=p.map (kas_item (vs.toArray.zip vs.toArray))/\failedOf FL=none/\p.size=vs.length/\s'={s with heap:=((s.heap.update a (et λ _=>#[])).push (seqObj "tuple" vs.toArray 0)).push (seqObj "list" #[] 0)}/\p=QF (ltB l) (kg l.length))
   rfl IS Dj (λ p FL s' a1 a2 a3 a4=>⟨p,a2,a3,a1,a4 a1⟩) (by erw [hl];exact UE hV hu _ hb.ok λ _=>⟨rfl,rfl⟩)) ?_ λ _ _ e=>e)
  rintro ⟨⟨⟩,FL⟩ s' ⟨p,Hv,hf,hp,rfl,IE⟩
  dsimp only
  refine aa (mW FE rfl ?_)
  erw [kat_snds rfl Hv]
  refine aa (lP FE rfl ?_ (bO _) (by (erw [aK];erw [aj];erw [bG];erw [hp];erw [cA]);exact lin [_] [] (.v 0) (.a (.k 16777216) (.k 1)) [(1,.l (.a (.v 0) (.k 1)) (.k 64))] tT9 Dj))
  erw [hf]
  simp only [bne_self_eq_false,ch,if_false]
  refine am (h _ λ _ _ V=>?_)
  have C8:dC l.length 2=false:=by cases e:dC l.length 2 with
   | false=>rfl
   | true=>have:=a9 e;omega
  unfold ZM vo
  (erw [C8];erw [IE])
  exact UI V (Jf hb.ok)
end
theorem J6 {lt lt':Nat->Nat->Bool}(h:∀ i j,i<n->j<n->lt i j=lt' i j):∀ {t:KasT (Array Nat)},okT n t=true->QF lt t=QF lt' t
 | .ret _,_=>rfl
 | .ask i j k,ho=>by
  (refine Eaa (Vr ho) λ AZ=>?_;(refine Ea (AZ) λ hi hj=>?_;try clear AZ);intro h1 h2)
  have e:=h i j (a9 hi) (a9 hj)
  have hn:okT n (k (lt i j))=true:=by cases lt i j;exact h2;exact h1
  show QF lt (k (lt i j))=QF lt' (k (lt' i j))
  (erw [J6 h hn];erw [e];rfl)
theorem QX {l':List (Int×Bool)}{r:List Nat}(ha:l'.Pairwise λ p q=>p.1<q.1)(Ka:r.all (λ i=>dC i l'.length)=true)(h2:dC r.length 2=false)(ok:okT r.length (kg r.length)=true)
  (res:(QF (λ i j=>dC (r.getD i 0) (r.getD j 0)) (kg r.length)).toList.map (λ i=>r.getD i 0)=gX l'.length):ZM (r.map (atB l'))=l':=by
 have hr:∀ i,i∈r->i<l'.length:=λ i m=>a9 (bR.mp Ka i m)
 have at_:∀ i,i<r.length->atB (r.map (atB l')) i=atB l' (r.getD i 0):=λ i hi=>by
  unfold atB
  simp [hi]
 have HG:∀ a b,a<l'.length->b<l'.length->a<b->(atB l' a).1<(atB l' b).1:=λ a b h1 h2 h=>by
  unfold atB
  (erw [aA];erw [aw h1];erw [aA];erw [aw h2])
  exact lG.mp ha a b h1 h2 h
 have s3:∀ i j,i<r.length->j<r.length->ltB (r.map (atB l')) i j=dC (r.getD i 0) (r.getD j 0):=λ i j hi hj=>by
  unfold ltB
  (erw [at_ i hi];erw [at_ j hj])
  have bi:r.getD i 0<l'.length:=hr _ (by (erw [aA];erw [aw hi]);exact fG hi)
  have bj:r.getD j 0<l'.length:=hr _ (by (erw [aA];erw [aw hj]);exact fG hj)
  generalize r.getD i 0=a at *
  generalize r.getD j 0=b at *
  unfold ltP
  rcases fj a b with h | h | h
  ·have:=HG a b bi bj h
   (erw [decide_eq_false (kt this)];erw [decide_eq_true this])
   exact (mJ h).symm
  ·subst h
   erw [decide_eq_true rfl]
   have e:dC a a=false:=by cases e:dC a a with
    | false=>rfl
    | true=>exact absurd (a9 e) (fM _)
   erw [e];cases (atB l' a).2 <;> rfl
  ·have:=HG b a bj bi h
   (erw [decide_eq_false (cN this)];erw [decide_eq_false (cy.mpr (ck this))])
   cases e:dC a b with
   | false=>rfl
   | true=>exact absurd (a9 e) (Nat.not_le.mpr (dr h))
 unfold ZM vo
 (erw [aj];erw [h2];erw [J6 s3 ok])
 show fO _ _=_
 have e1:∀ p:List Nat,(∀ i,i∈p->i<r.length)->p.map (atB (r.map (atB l')))=(p.map λ i=>r.getD i 0).map (atB l'):=λ p hp=>by
  erw [bF];exact bZ λ i m=>at_ i (hp i m)
 (erw [e1 _ (Jf ok)];erw [res])
 apply List.ext_getElem (by simp)
 intro i h1 h2
 simp [atB,h2]
section
variable {C:Cx}{T:Tabs}{F:Fm}{s s':ao}{φ j':ah->Prop}{μ sJ:List ah}{ρ sL:Rho}{σ σ':zA}{A:aM}{n:Nat}
noncomputable def tyS:Nat->String
 | 0=>"tuple"
 | 1=>"list"
 | 2=>"int"
 | _=>"bool"
theorem zEC {b:Bi}{k:Nat}(h:jO b=some k):qw b=.type (tyS k)/\k<4:=by
 cases b with
 | tuple=>obtain rfl:=so h;exact ⟨rfl,by decide⟩
 | list=>obtain rfl:=so h;exact ⟨rfl,by decide⟩
 | int=>obtain rfl:=so h;exact ⟨rfl,by decide⟩
 | bool=>obtain rfl:=so h;exact ⟨rfl,by decide⟩
 | _=>exact nn h
@[elab_as_elim] theorem jI {P:Nat->Prop}(k:Nat)(h:k<4)(h0:P 0)(h1:P 1)(h2:P 2)(h3:P 3):P k:=by
 rcases k with _ | _ | _ | _ | k
 ·exact h0
 ·exact h1
 ·exact h2
 ·exact h3
 ·exact absurd h (f7.mpr (eT 4 k))
theorem zE3 {Q:D->zA->Prop}{v:af}{x:ab}{t:Nat}{r:Bool}(R:Rel C T s.heap φ μ σ)(I:FrI F s.heap φ μ ρ)(V:VP s.heap φ v x)(ht:t<4)(e:Ze x t=some r)(q:Q (.p (.bool r)) σ) :
  wpAny (model C.prog C.w) A (call (.builtin "isinstance") [v,.type (tyS t)]) (PV C T F s φ μ ρ Q) NoE s:=by
 revert e
 have Ez:∀ {Tx U:String},s.TypeIs v Tx->typeOf (.type U)=pure (.type "type")->isSubtype (.type Tx) (.type U)=pure true->some true=some r->wpAny (model C.prog C.w) A (call (.builtin "isinstance") [v,.type U]) (PV C T F s φ μ ρ Q) NoE s :=
  λ h1 h2 h3 e=>nC h1 h2 h3 (zt R I (.p (.bool _)) (so e▸q))
 have no:some false=some r->PV C T F s φ μ ρ Q (.bool false) {s with toks:=s.toks + 1}:=λ e=>zh R I (.p (.bool _)) (so e▸q) _
 cases x with
 | none =>
  cases V.inone
  refine jI t ht (λ e=>bf (fD (by decide +kernel) gc sub_NoneType_tuple) (no e)) (λ e=>bf (fD (by decide +kernel) gP sub_NoneType_list) (no e))
   (λ e=>bf (fD (by decide +kernel) iD sub_NoneType_int) (no e)) (λ e=>bf (fD (by decide +kernel) gQ sub_NoneType_bool) (no e))
 | bool b =>
  cases V.ibool
  refine jI t ht (λ e=>bf (mK (by decide +kernel) gc sub_bool_tuple) (no e)) (λ e=>bf (mK (by decide +kernel) gP sub_bool_list) (no e))
   (Ez (oq s b) iD sub_bool_int) (Ez (oq s b) gQ sub_bool_bool)
 | int i =>
  (refine Ee (V.iint) λ tk t7=>?_;obtain rfl:=t7)
  refine jI t ht (λ e=>bf (iE (by decide +kernel) gc sub_int_tuple) (no e)) (λ e=>bf (iE (by decide +kernel) gP sub_int_list) (no e))
   (Ez (typeIs_int s i tk) iD sub_int_int) (λ e=>bf (iE (by decide +kernel) gQ sub_int_bool) (no e))
 | str x =>
  refine V.mstr λ tk _=>?_
  refine jI t ht (λ e=>bf (fP (by decide +kernel) gc sub_str_tuple) (no e)) (λ e=>bf (fP (by decide +kernel) gP sub_str_list) (no e))
   (λ e=>bf (fP (by decide +kernel) iD sub_str_int) (no e)) (λ e=>bf (fP (by decide +kernel) gQ sub_str_bool) (no e))
 | tuple xs =>
  (refine Eeeaaa (V.itup) λ a vs Bu=>?_;obtain rfl:=Bu;intro f Bh;obtain ⟨⟨o,ho,hc,k,hd⟩,_⟩:=Bh;intro rr)
  refine jI t ht (Ez ⟨o,ho,hc⟩ gc sub_tuple_tuple) (λ e=>bf (hG (by decide +kernel) gP sub_tuple_list) ⟨⟨o,ho,hc⟩,no e⟩)
   (λ e=>bf (hG (by decide +kernel) iD sub_tuple_int) ⟨⟨o,ho,hc⟩,no e⟩) (λ e=>bf (hG (by decide +kernel) gQ sub_tuple_bool) ⟨⟨o,ho,hc⟩,no e⟩)
 | list xs =>
  (refine Eeeaaa (V.ilst) λ a vs AF=>?_;obtain rfl:=AF;intro f Bk;obtain ⟨o,ho,hc,k,hd⟩:=Bk;intro rr)
  refine jI t ht (λ e=>bf (de (by decide +kernel) gc pL) ⟨⟨o,ho,hc⟩,no e⟩) (Ez ⟨o,ho,hc⟩ gP p9)
   (λ e=>bf (de (by decide +kernel) iD sub_list_int) ⟨⟨o,ho,hc⟩,no e⟩) (λ e=>bf (de (by decide +kernel) gQ rc) ⟨⟨o,ho,hc⟩,no e⟩)
 | dict es=>exact V.idict.elim
theorem zDu {Q:D->zA->Prop}{v:af}{d:D}{xs:List ab}(R:Rel C T s.heap φ μ σ)(I:FrI F s.heap φ μ ρ)(V:VD s.heap φ μ v d)(e:zu σ d=some xs)(hf:Few xs.length)(q:Q (.p (.int xs.length)) σ) :
  wpAny (model C.prog C.w) A (call (.builtin "len") [v]) (PV C T F s φ μ ρ Q) NoE s:=by
 refine Q2 R V e λ a vs hs vp=>?_
 have hl:=vp.length
 have Ci:(vs.toArray.size:Int)<2 ^ 63:=by erw [aK];have:=hf.h;lia
 have key:PV C T F s φ μ ρ Q (.int vs.toArray.size (s.toks + 1)) {s with toks:=s.toks + 1 + 1}:=by
  (erw [aK];erw [hl]);exact zh R I (.p (.int _ _)) q _
 rcases hs with hs | hs
 ·exact se hs Ci key
 ·exact sg hs Ci key
theorem zA5 {Q:D->zA->Prop}{v:af}{d:D}{xs:List ab}(R:Rel C T s.heap φ μ σ)(I:FrI F s.heap φ μ ρ)(V:VD s.heap φ μ v d)(e:zu σ d=some xs)(hf:Few xs.length)(q:Q (.p (.tuple xs)) σ) :
  wpAny (model C.prog C.w) A (call (.type "tuple") [v]) (PV C T F s φ μ ρ Q) NoE s:=by
 have fromList:∀ {a:ah} {vs:List af},s.heap.IsList a vs.toArray->VPs s.heap φ vs xs->wpAny (model C.prog C.w) A (call (.type "tuple") [.ref a]) (PV C T F s φ μ ρ Q) NoE s:=by
  intro a vs ht hp
  have hl:=hp.length
  refine call_tuple_list ht (λ h' hk=>?_) (by (erw [aK];erw [hl]);exact zv hf)
  have hD:s.heap.get? h'.objs.size=none:=by
   cases q:s.heap.get? h'.objs.size with
   | none=>rfl
   | some o=>exact absurd (a7 (hk _ _ q)) (fM _)
  refine Ea (R.newF (h':=h'.push {cls:=.type "tuple",data:=.seq vs.toArray}) (λ b o e=>aq _ (hk b o e)) hD (aI _ rfl)) λ R' X=>?_
  exact pvI (Go.of_ext (tk:=s.toks) I R' X) (.p (.tup (.inr rfl) (Tup.new (aI _ rfl)) (X.vps hp))) q
 cases d with
 | p x =>
  obtain ⟨a,vs,rfl,f,r,⟨rfl,ht⟩ | ⟨rfl,ht⟩⟩:=Qn V.ip e
  ·exact call_tuple_tup ht.t (zt R I (.p (.tup f ht r)) q)
  ·exact fromList ht r
 | obj i =>
  refine V.mobj λ a ha=>?_
  refine Eeea (jj R ha e) λ vs k ho hp=>?_
  exact fromList ⟨_,ho,rfl,_,rfl⟩ hp
 | _=>exact nn e
theorem zBz {Q:D->zA->Prop}{m:Bool}{v:af}{d:D}{xs:List ab}(R:Rel C T s.heap φ μ σ)(I:FrI F s.heap φ μ ρ)(V:VD s.heap φ μ v d)(e:zu σ d=some xs)(hf:Few xs.length)
  (q:Zk m xs σ Q) :
  wpAny (model C.prog C.w) A (call (.type "list") [v]) (PV C T F s φ μ ρ Q) NoE s:=by
 refine Q2 R V e λ a vs hs vp=>?_
 have hl:=vp.length
 have hz:vs.toArray.size<=cJ:=by (erw [aK];erw [hl]);exact zv hf
 rcases hs with ⟨o,ho,hc,k,hd⟩ | ⟨o,ho,hc,k,hd⟩
 ·exact rd a (.inr rfl) ho hc hd (λ h' c' hk hD=>Yf (tk:=s.toks) R I hk (zj _) hD vp q) hz
 ·exact rd a (.inl rfl) ho hc hd (λ h' c' hk hD=>Yf (tk:=s.toks) R I hk (zj _) hD vp q) hz
end
set_option tactic.hygienic true
section
variable {prog:bN}{w:cr}{K:Type}[DecidableEq K]{knd:KeyKind prog w K}{A:aM}{E:af->ao->Prop}{s:ao}
theorem wg {kvs:List (K×af)}{k:K}{v:af}(h:valueAt kvs k=none):pM kvs k v=kvs++[(k,v)]:=by
 unfold valueAt at h
 rw [hH,nR] at h
 unfold pM
 rw [if_neg]
 rw [gR]
 rintro ⟨x,hx,e⟩
 exact h x hx e
theorem JQ {d:ah}{kvs:List (K×af)}{k:K}{dflt:af}{Q:af->ao->Prop}(AT:knd.is k key=true)(hm:s.heap.DictOf knd d kvs)(AJ:valueAt kvs k=none)
  (hQ:∀ h',h'.DictOf knd d (kvs++[(k,dflt)])->cn d s.heap h'->Q dflt {s with heap:=h',toks:=s.toks + 1}) (Bf:kvs.length<=cJ) :
  wpAny (model prog w) A (lz d key dflt) Q E s:=by
 refine Eeeeaaaaa (id hm) λ o es ep ho hc hd hk hp hn=>?_
 have CM:es.size<=cJ:=by
  have e1:=hp.length
  have e2:es.toList.length=es.size:=by simp
  lia
 have hf:findBy knd.is es k=none:=by
  refine Eeeeaaaa (hm.mapOf) λ o' es' KZ x6 Aq BD Ac tN=>?_
  rw [ho] at x6;(injection x6 with y1y0;subst y1y0)
  rw [hd] at BD;(injection BD with y2y0;subst y2y0)
  erw [tN k];exact AJ
 have hi:(es.findIdx? λ e=>knd.is k e.key)=none:=by
  cases q:es.findIdx? λ e=>knd.is k e.key with
  | none=>rfl
  | some i =>
   rw [findBy_of_findIdx?,q] at hf
   have:=Array.findIdx?_eq_some_iff_findIdx_eq.mp q
   have s3:i<es.size:=this.1
   simp [bV s3] at hf
 have F4:k∉kvs.map (·.1):=by
  intro Gv
  refine Eea (aU.mp Gv) λ x hx e=>?_
  unfold valueAt at AJ
  rw [hH,nR] at AJ
  exact AJ x hx (by simpa using e)
 unfold lz
 try with_reducible refine aQ ?_
 refine aa (knd.pyHash AT ?_)
 refine aa (wpAny_dictFind_of (s:={s with toks:=s.toks + 1}) AT ho hd hk ?_)
 erw [hi]
 refine aa (fF (aa (wpAny_updateDictKeys (hz:=CM) (s:={s with toks:=s.toks + 1}) ho hd (am (hQ _ ⟨_,_,ep + 1,cI _ ho (Obj.isFreed_of_dict (mX hd _)),
   hc.mapDictKeys _,mX hd _,hk.push AT _,?_,?_⟩ (cu ..))))))
 ·have:=hp.append AT (knd.hash k) dflt
  obtain ⟨l⟩:=es
  simpa using this
 ·(erw [aT];rewrite [ee])
  refine ⟨hn,cG.mpr ⟨eA,f9⟩,?_⟩
  intro a ha b hb
  simp only [aY,bW,aG] at hb
  subst hb
  rintro rfl
  exact F4 ha
theorem yK {d:ah}{kvs:List (K×af)}{k:K}{dflt:af}(AT:knd.is k key=true)(hd:(d==eg)=false) :
  MeetsIn prog w (cH.«dict.setdefault» ⟨[.ref d,key,dflt],[]⟩) (λ _ R s=>s.heap.DictOf knd d kvs/\valueAt kvs k=none/\kvs.length<=cJ /\
   (∀ h',h'.DictOf knd d (kvs++[(k,dflt)])->cn d s.heap h'->R (.ok (.ret dflt)) {s with heap:=h',toks:=s.toks + 1})) :=
 .of_wp λ A R s ⟨hm,hn,hz,h2⟩=>by
  unfold cH.«dict.setdefault»
  refine aa ?_
  unfold sj
  refine aa (mL hm.typeIs ?_)
  show wpAny _ _ (pure (d,key,some dflt)) _ _ s
  refine am ?_
  show wpAny _ _ (if (d==eg)=true then _ else (lz d key dflt >>= _)) _ _ s
  rw [if_neg (by rw [hd];exact a5)]
  exact aa (JQ AT hm hn (λ h' AV Bj=>am ⟨dflt,rfl,h2 h' AV Bj⟩) hz)
end
section
variable {C:Cx}{T:Tabs}{F:Fm}{s s':ao}{φ j':ah->Prop}{μ sJ:List ah}{ρ sL:Rho}{σ σ':zA}{A:aM}{n:Nat}
theorem yZ {h:aR}{es:List (Int×D)}(t:IEs h φ μ kvs es)(k:Int) :
  (∃ d v,zP k es=some d/\valueAt kvs k=some v/\VD h φ μ v d)∨(zP k es=none/\valueAt kvs k=none):=by
 induction t with
 | nil=>exact .inr ⟨rfl,rfl⟩
 | cons w _ ih =>
  rename_i k' v' d' r es' t'
  by_cases hk:k'=k
  ·refine .inl ⟨d',v',?_,?_,w⟩
   ·show (dz _ _).map _=_
    (erw [bX];erw [decide_eq_true hk]);rfl
   ·show (dz _ _).map _=_
    (erw [bX];erw [decide_eq_true hk]);rfl
  ·have e1:zP k ((k',d')::es')=zP k es':=by
    show (dz _ _).map _=_
    (erw [bX];erw [decide_eq_false hk]);rfl
   have e2:valueAt ((k',v')::r) k=valueAt r k:=by
    show (dz _ _).map _=_
    (erw [bX];erw [decide_eq_false hk]);rfl
   (erw [e1];erw [e2])
   exact ih
theorem yf {h:aR}{es:List (Int×D)}(t:IEs h φ μ kvs es):kvs.length=es.length:=by
 induction t with
 | nil=>rfl
 | cons _ _ ih=>simp [ih]
theorem uy {h:aR}{es:List (Int×D)}{k:Int}{v:af}{d:D}(t:IEs h φ μ kvs es)(w:VD h φ μ v d):IEs h φ μ (kvs++[(k,v)]) (es++[(k,d)]):=by
 induction t with
 | nil=>exact .cons w .nil
 | cons p _ ih=>exact .cons p ih
theorem UU {h h':aR}{es:List (Int×D)}(k:∀ a,φ a->j' a/\h'.get? a=h.get? a)(m:∀ (i:Nat) (a:ah),μ[i]?=some a->sJ[i]?=some a)(t:IEs h φ μ kvs es):IEs h' j' sJ kvs es:=by
 induction t with
 | nil=>exact .nil
 | cons p _ ih=>exact .cons (p.mono k m) ih
theorem Z7 (k:Int)(t:iv):(intKind C.prog C.w).is k (.int k t)=true:=by simp [intKind,kN]
theorem zBD {Q:D->zA->Prop}{a:ah}{es:List (Int×D)}{k:Int}{t:iv}{v:af}{d:D}(R:Rel C T s.heap φ μ σ)(I:FrI F s.heap φ μ ρ)(ha:μ[i]?=some a)(hi:σ[i]?=some (.idict es))(V:VD s.heap φ μ v d)
  (q:Q ((zP k es).getD d) σ):wpAny (model C.prog C.w) A (call (.builtin "dict.get") [.ref a,.int k t,v]) (PV C T F s φ μ ρ Q) NoE s:=by
 (refine Ea (R.at_ i a _ ha hi) λ h1 tM=>?_;refine Eea tM λ kvs hm te=>?_)
 refine mC mM hm.typeIs PySem.F.entry_dict_get (PySem.F.args_dict_get_3 _ _ _) (meets_dict_get_default (intKind C.prog C.w) a (Z7 k t) h1 v) ⟨_,hm.mapOf,?_⟩
 rcases yZ te k with ⟨d',u,e,hu,w⟩ | ⟨e,hu⟩
 ·rw [e] at q;erw [hu];exact zh R I w q _
 ·rw [e] at q;erw [hu];exact zh R I V q _
theorem zBa {Q:D->zA->Prop}{a:ah}{es:List (Int×D)}{k:Int}{t:iv}{d:D}(R:Rel C T s.heap φ μ σ)(I:FrI F s.heap φ μ ρ)(ha:μ[i]?=some a)(hi:σ[i]?=some (.idict es))(e:zP k es=some d)
  (q:Q d σ):wpAny (model C.prog C.w) A (getItem (.ref a) (.int k t)) (PV C T F s φ μ ρ Q) NoE s:=by
 (refine Ea (R.at_ i a _ ha hi) λ h1 Aw=>?_;refine Eea Aw λ kvs hm te=>?_)
 rcases yZ te k with ⟨d',v,e',hv,w⟩ | ⟨e',_⟩
 ·rw [e] at e';(injection e' with y3y0;subst y3y0);exact oW (Z7 k t) hm.mapOf hv (zh R I w q _)
 ·rw [e] at e';cases e'
theorem J2 {a:ah}{es es':List (Int×D)}{Ag:List (Int×af)}{h':aR}(R:Rel C T s.heap φ μ σ)(ha:μ[i]?=some a)(hi:σ[i]?=some (.idict es))(hs:cn a s.heap h')
  (AV:h'.DictOf (intKind C.prog C.w) a Ag) (te:IEs s.heap φ μ Ag es'):Rel C T h' φ μ (σ.set i (.idict es'))/\Ext s.heap φ μ h' φ μ []:=by
 refine Ea (R.at_ i a _ ha hi) λ h1 _=>?_
 exact R.upd ha hi (λ h=>nomatch h) hs (by (refine Eeeea (AV) λ o _ _ ho _=>?_;try clear AV);exact ⟨o,ho⟩) λ k=>⟨h1,Ag,AV,UU k (λ _ _ e=>e) te⟩
theorem wP {Q:D->zA->Prop}{a:ah}{es:List (Int×D)}{k:Int}{t:iv}{v:af}{d:D}(R:Rel C T s.heap φ μ σ)(I:FrI F s.heap φ μ ρ)(ha:μ[i]?=some a)(hi:σ[i]?=some (.idict es))(V:VD s.heap φ μ v d)
  (hf:Few es.length) (q:jn i es k d σ Q (zP k es)) :
  wpAny (model C.prog C.w) A (call (.builtin "dict.setdefault") [.ref a,.int k t,v]) (PV C T F s φ μ ρ Q) NoE s:=by
 (refine Ea (R.at_ i a _ ha hi) λ h1 Ch=>?_;refine Eea Ch λ kvs hm te=>?_)
 have hz:kvs.length<=cJ:=by erw [yf te];exact zv hf
 rcases yZ te k with ⟨d',u,e,hu,w⟩ | ⟨e,this⟩
 ·rw [e] at q
  refine mC fR hm.typeIs kO (kJ _ _ _) (meets_dict_setdefault (intKind C.prog C.w) a (Z7 k t) h1 v) ⟨_,hm.mapOf,?_,λ v' HI=>?_,λ hn=>?_⟩
  ·refine Eeeeaaaaa (id hm) λ o ds ep ho hx hd hk hp hn=>?_
   intro o' sU KZ x6 BD
   rw [ho] at x6;(injection x6 with y5y0;subst y5y0)
   rw [hd] at BD;(injection BD with y6y0;subst y6y0)
   have e1:=hp.length
   have e2:ds.toList.length=ds.size:=by simp
   lia
  ·rw [hu] at HI;(injection HI with y7y0;subst y7y0);exact zh R I w q _
  ·rw [hu] at hn;cases hn
 ·rw [e] at q
  refine mC fR hm.typeIs kO (kJ _ _ _) (yK (knd:=intKind C.prog C.w) (Z7 k t) h1) ⟨hm,this,hz,λ h' AV hs=>?_⟩
  refine Ea (J2 R ha hi hs AV (uy te V)) λ R' X=>?_
  exact pvI (Go.of_ext I R' X) (X.vd V) q
theorem wK {h:aR}{es:List (Int×D)}(t:IEs h φ μ kvs es)(hn:(kvs.map (·.1)).Nodup){k:Int}{v:af}{d:D}(w:VD h φ μ v d):IEs h φ μ (pM kvs k v) (Qc k d es):=by
 have key:∀ {kvs:List (Int×af)} {es:List (Int×D)},IEs h φ μ kvs es->(kvs.map (·.1)).Nodup->IEs h φ μ (if kvs.any (λ kv=>kv.1=k) then kvs.map (λ kv=>if kv.1=k then (kv.1,v) else kv) else kvs++[(k,v)]) (Qc k d es):=by
  intro kvs es t
  induction t with
  | nil=>intro _;exact .cons w .nil
  | cons p t' ih =>
   rename_i k' v' d' r es'
   intro hn
   rw [aY,cG] at hn
   by_cases hk:k'=k
   ·subst hk
    simp only [eO,decide_true,rt,if_true,aY,WJ,WP]
    have same:r.map (λ kv=>if kv.1=k' then (kv.1,v) else kv)=r:=by
     refine (bZ λ x hx=>?_).trans (rE r)
     erw [if_neg λ e=>hn.1 (aU.mpr ⟨x,hx,e⟩)];rfl
    erw [same]
    exact .cons w t'
   ·have:=ih hn.2
    simp only [eO,hk,decide_false,re,if_false,aY,WJ,WP,eE]
    split
    ·rename_i h;rw [if_pos h] at this;exact .cons p this
    ·rename_i h;rw [if_neg h] at this;exact .cons p this
 exact key t hn
theorem zBv {a:ah}{es:List (Int×D)}{k:Int}{t:iv}{v:af}{d:D}{P:Unit->ao->Prop}(R:Rel C T s.heap φ μ σ)(ha:μ[i]?=some a)(hi:σ[i]?=some (.idict es))(V:VD s.heap φ μ v d)
  (hf:Few es.length) (q:∀ h',Rel C T h' φ μ (σ.set i (.idict (Qc k d es)))->Ext s.heap φ μ h' φ μ []->P () {s with heap:=h',toks:=s.toks + 1}) :
  wpAny (model C.prog C.w) A (ll (.ref a) (.int k t) v) P NoE s:=by
 (refine Ea (R.at_ i a _ ha hi) λ h1 B0=>?_;refine Eea B0 λ kvs hm te=>?_)
 have hz:kvs.length<=cJ:=by erw [yf te];exact zv hf
 refine nD (Z7 k t) hm (λ h' AV hs=>?_) hz
 refine Ea (J2 R ha hi hs AV (wK te (by (refine Eeeeaaaaa (hm) λ _ _ _ _ _ _ _ _ hn=>?_;try clear hm);exact hn) V)) λ R' X=>?_
 exact q h' R' X
end
theorem z8 {k:Nat}(h:bc j k=true):j=k:=fC h
theorem QT {T:Tabs}(hn:T.names.Nodup){k:Nat}{x:aN}(h1:T.names[j]?=some x)(h2:T.names[k]?=some x):j=k :=
 (gB (av.mp h1).1 hn).mp (h1.trans h2.symm)
section
variable {C:Cx}{T:Tabs}{F:Fm}{s s':ao}{φ j':ah->Prop}{μ sJ:List ah}{ρ sL:Rho}{σ σ':zA}{A:aM}{n:Nat}
theorem XH {α:Type}{k' k:Nat}{d:α}{es:List (Nat×α)}(h:k'≠k):look k ((k',d)::es)=look k es:=by
 show (match bc k' k with | true=>some d | false=>look k es)=_
 cases e:bc k' k with
 | false=>rfl
 | true=>exact absurd (z8 e) h
theorem XB {α:Type}{k:Nat}{d:α}{es:List (Nat×α)}:look k ((k,d)::es)=some d:=by
 show (match bc k k with | true=>some d | false=>look k es)=_
 (erw [ku k];rfl)
theorem zDb {α:Type}{k' k:Nat}{d e:α}{es:List (Nat×α)}(h:k'≠k):put k d ((k',e)::es)=(k',e)::put k d es:=by
 show (match bc k' k with | true=>(k',d)::es | false=>(k',e)::put k d es)=_
 cases e:bc k' k with
 | false=>rfl
 | true=>exact absurd (z8 e) h
theorem zE6 {α:Type}{k:Nat}{d e:α}{es:List (Nat×α)}:put k d ((k,e)::es)=(k,d)::es:=by
 show (match bc k k with | true=>(k,d)::es | false=>(k,e)::put k d es)=_
 (erw [ku k];rfl)
theorem Vi (hN:T.names.Nodup){h:aR}{kvs:List (aN×af)}{es:List (Nat×D)}(t:REs T h φ μ kvs es){k:Nat}{x:aN}(hx:T.names[k]?=some x){d:D}(e:look k es=some d) :
  ∃ v,valueAt kvs x=some v/\VD h φ μ v d:=by
 induction t with
 | nil=>exact nn e
 | cons hk w _ ih =>
  rename_i k' x' v' d' r es' t'
  by_cases q:k'=k
  ·subst q
   rw [XB] at e
   obtain rfl:=so e
   rw [hk] at hx;(injection hx with y1y0;subst y1y0)
   refine ⟨v',?_,w⟩
   show (dz _ _).map _=_
   (erw [bX];erw [decide_eq_true rfl]);rfl
  ·rw [XH q] at e
   refine Eea (ih e) λ v hv hw=>?_
   refine ⟨v,?_,hw⟩
   show (dz _ _).map _=_
   (erw [bX];erw [decide_eq_false (show ¬ x'=x from λ h=>q (QT hN (h▸hk) hx))]);exact hv
theorem Xm {h:aR}{kvs:List (aN×af)}{es:List (Nat×D)}(t:REs T h φ μ kvs es):kvs.length=es.length:=by
 induction t with
 | nil=>rfl
 | cons _ _ _ ih=>simp [ih]
theorem zAh {h h':aR}{kvs:List (aN×af)}{es:List (Nat×D)}(k:∀ a,φ a->j' a/\h'.get? a=h.get? a)(m:∀ (i:Nat) (a:ah),μ[i]?=some a->sJ[i]?=some a)(t:REs T h φ μ kvs es):REs T h' j' sJ kvs es:=by
 induction t with
 | nil=>exact .nil
 | cons q p _ ih=>exact .cons q (p.mono k m) ih
theorem Xl (hN:T.names.Nodup){h:aR}{kvs:List (aN×af)}{es:List (Nat×D)}(t:REs T h φ μ kvs es)(hn:(kvs.map (·.1)).Nodup){k:Nat}{x:aN}(hx:T.names[k]?=some x){v:af}{d:D}(w:VD h φ μ v d) :
  REs T h φ μ (pM kvs x v) (put k d es):=by
 have key:∀ {kvs:List (aN×af)} {es:List (Nat×D)},REs T h φ μ kvs es->(kvs.map (·.1)).Nodup->REs T h φ μ (if kvs.any (λ kv=>kv.1=x) then kvs.map (λ kv=>if kv.1=x then (kv.1,v) else kv) else kvs++[(x,v)]) (put k d es):=by
  intro kvs es t
  induction t with
  | nil=>intro _;exact .cons hx w .nil
  | cons q p t' ih =>
   rename_i k' x' v' d' r es'
   intro hn
   rw [aY,cG] at hn
   by_cases hk:k'=k
   ·subst hk
    rw [q] at hx;cases hx
    erw [zE6]
    simp only [eO,decide_true,rt,if_true,aY]
    have same:r.map (λ kv=>if kv.1=x then (kv.1,v) else kv)=r:=by
     refine (bZ λ y hy=>?_).trans (rE r)
     erw [if_neg λ e=>hn.1 (aU.mpr ⟨y,hy,e⟩)];rfl
    erw [same]
    exact .cons q w t'
   ·have:=ih hn.2
    have Ei:x'≠x:=λ e=>hk (QT hN (e▸q) hx)
    (erw [zDb hk];erw [eO];erw [decide_eq_false Ei];erw [re])
    by_cases h:(r.any λ kv=>decide (kv.1=x))=true
    ·rw [if_pos h] at this ⊢;(erw [aY];erw [if_neg Ei]);exact .cons q p this
    ·rw [if_neg h] at this ⊢;exact .cons q p this
 exact key t hn
theorem Ju (x:aN)(t:iv):(iX C.prog C.w).is x (.str x t)=true:=strKind_is C.prog C.w x t
theorem zBN (hN:T.names.Nodup){Q:D->zA->Prop}{k:Nat}{a:ah}{es:List (Nat×D)}{x:aN}{t:iv}{d:D}(R:Rel C T s.heap φ μ σ)(I:FrI F s.heap φ μ ρ)(ha:μ[i]?=some a)(hi:σ[i]?=some (.rdict es))
  (hx:T.names[k]?=some x) (e:look k es=some d) (q:Q d σ):wpAny (model C.prog C.w) A (getItem (.ref a) (.str x t)) (PV C T F s φ μ ρ Q) NoE s:=by
 (refine Ea (R.at_ i a _ ha hi) λ h1 tM=>?_;refine Eea tM λ kvs hm te=>?_)
 refine Eea (Vi hN te hx e) λ v hv w=>?_
 exact oW (Ju x t) hm.mapOf hv (zh R I w q _)
theorem zCB (hN:T.names.Nodup){k:Nat}{a:ah}{es:List (Nat×D)}{x:aN}{t:iv}{v:af}{d:D}{P:Unit->ao->Prop}(R:Rel C T s.heap φ μ σ)(ha:μ[i]?=some a)(hi:σ[i]?=some (.rdict es))(hx:T.names[k]?=some x)(V:VD s.heap φ μ v d)
  (hf:Few es.length) (q:∀ h',Rel C T h' φ μ (σ.set i (.rdict (put k d es)))->Ext s.heap φ μ h' φ μ []->P () {s with heap:=h',toks:=s.toks + 1}) :
  wpAny (model C.prog C.w) A (ll (.ref a) (.str x t) v) P NoE s:=by
 (refine Ea (R.at_ i a _ ha hi) λ h1 Aw=>?_;refine Eea Aw λ kvs hm te=>?_)
 have hz:kvs.length<=cJ:=by erw [Xm te];exact zv hf
 refine nD (Ju x t) hm (λ h' AV hs=>?_) hz
 have K7:=Xl hN te (by (refine Eeeeaaaaa (hm) λ _ _ _ _ _ _ _ _ hn=>?_;try clear hm);exact hn) hx V
 refine Ea (R.upd (mo':=.rdict (put k d es)) ha hi (λ h=>nomatch h) hs (by (refine Eeeea (AV) λ o _ _ ho _=>?_;try clear AV);exact ⟨o,ho⟩) λ kk=>⟨h1,_,AV,zAh kk (λ _ _ e=>e) K7⟩) λ R' X=>?_
 exact q h' R' X
theorem zCK {Q:D->zA->Prop}{a b:ah}{es:List (Ky×D)}{k:List ab}{kq:Ky}{d:D}(hA:Room n A)(R:Rel C T s.heap φ μ σ)(I:FrI F s.heap φ μ ρ)(ha:μ[i]?=some a)(hi:σ[i]?=some (.tdict es))
  (v:VP s.heap φ (.ref b) (.tuple k)) (hd:Kd (.tuple k)) (hq:keyDs k=some kq) (e:zw kq es=some d) (q:Q d σ):wpAny (model C.prog C.w) A (getItem (.ref a) (.ref b)) (PV C T F s φ μ ρ Q) NoE s:=by
 (refine Ea (yW R ha hi) λ h1 Ch=>?_;refine Eea Ch λ xs hm t=>?_)
 rcases Y4 t kq with ⟨d',p,e',hp,w⟩ | ⟨e',_⟩
 case inr=>rw [e] at e';cases e'
 rw [e] at e';(injection e' with y4y0;subst y4y0)
 exact wpAny_getItem_heap (knd:=jd C.prog C.w) (jF hA) (YZ v hq hd.h) hm hp (zh R I w q _)
theorem wO {h:aR}{xs:List (Ky×ah×af)}{es:List (Ky×D)}(t:TEs h φ μ xs es):xs.length=es.length:=by
 induction t with
 | nil=>rfl
 | cons _ _ _ _ _ ih=>simp [ih]
theorem vj {h:aR}{xs:List (Ky×ah×af)}{es:List (Ky×D)}{k:Ky}{ys:List ab}{a:ah}{v:af}{d:D}(t:TEs h φ μ xs es)(p:VP h φ (.ref a) (.tuple ys))(e:keyDs ys=some k)(dd:(bE ys).depth<=6)(w:VD h φ μ v d) :
  TEs h φ μ (xs++[(k,a,v)]) (es++[(k,d)]):=by
 induction t with
 | nil=>exact .cons p e dd w .nil
 | cons p' e' d' w' _ ih=>exact .cons p' e' d' w' ih
theorem zAg {h h':aR}{xs:List (Ky×ah×af)}{es:List (Ky×D)}(k:∀ a,φ a->j' a/\h'.get? a=h.get? a)(m:∀ (i:Nat) (a:ah),μ[i]?=some a->sJ[i]?=some a)(t:TEs h φ μ xs es):TEs h' j' sJ xs es:=by
 induction t with
 | nil=>exact .nil
 | cons p e d w _ ih=>exact .cons (p.mono k) e d (w.mono k m) ih
theorem zBS {a b:ah}{es:List (Ky×D)}{k:List ab}{kq:Ky}{v:af}{d:D}{P:Unit->ao->Prop}(hA:Room n A)(R:Rel C T s.heap φ μ σ)(ha:μ[i]?=some a)(hi:σ[i]?=some (.tdict es))
  (vk:VP s.heap φ (.ref b) (.tuple k)) (hd:Kd (.tuple k)) (hq:keyDs k=some kq) (V:VD s.heap φ μ v d) (hf:Few es.length) (e:zw kq es=none)
  (q:∀ h' tk,Rel C T h' φ μ (σ.set i (.tdict (es++[(kq,d)])))->Ext s.heap φ μ h' φ μ []->P () {s with heap:=h',toks:=tk}) :
  wpAny (model C.prog C.w) A (ll (.ref a) (.ref b) v) P NoE s:=by
 (refine Ea (yW R ha hi) λ h1 B0=>?_;refine Eea B0 λ xs hm t=>?_)
 have hl:atKey xs kq=none:=by
  rcases Y4 t kq with ⟨d',p,e',hp,w⟩ | ⟨_,hp⟩
  ·rw [e] at e';cases e'
  ·exact hp
 have hz:xs.length<=cJ:=by erw [wO t];exact zv hf
 refine wpAny_setItem_heap (knd:=jd C.prog C.w) (jF hA) (YZ vk hq hd.h) hm (λ h' AV hs=>?_) hz
 rw [storedH_new hl] at AV
 (refine Eeeeaaaaa (AV) λ o ds ep ho hx Hh he hk hn=>?_;try clear AV)
 refine Ea (R.upd (mo':=.tdict (es++[(kq,d)])) ha hi (λ h=>nomatch h) hs ⟨o,ho⟩ λ kk=>⟨h1,_,⟨o,ds,ep,ho,hx,Hh,he,hn⟩,zAg kk (λ _ _ e=>e) (vj t vk hq hd.h V)⟩) λ R' X=>?_
 exact q h' _ R' X
theorem vV {Q:D->zA->Prop}{a:ah}{xs:List ab}{v:af}{x:ab}(R:Rel C T s.heap φ μ σ)(I:FrI F s.heap φ μ ρ)(ha:μ[i]?=some a)(hi:σ[i]?=some (.lst xs))(V:VP s.heap φ v x)(hf:Few xs.length)
  (q:Q (.p .none) (σ.set i (.lst (xs++[x])))):wpAny (model C.prog C.w) A (call (.builtin "list.append") [.ref a,v]) (PV C T F s φ μ ρ Q) NoE s:=by
 refine Eeea (R.at_ i a _ ha hi) λ vs k ho hp=>?_
 have hl:=hp.length
 refine lW ⟨k,ho⟩ (λ h' Dt hs=>?_) (by (erw [aK];erw [hl]);exact zv hf)
 (refine Ee (Dt) λ k' x6=>?_;try clear Dt)
 refine Ea (R.upd (mo':=.lst (xs++[x])) ha hi (λ h=>nomatch h) hs ⟨_,x6⟩ λ kk=>⟨vs++[v],k',by (erw [x6];erw [List.push_toArray];rfl),(hp.append (.cons V .nil)).mono kk⟩) λ R' X=>?_
 exact pvI (Go.of_ext (tk:=s.toks) I R' X) (.p .none) q
end
set_option tactic.hygienic false
def WU (slice:aL):Prop:=∀ o i,subscripted slice false o i=operate [o,i] (getItem o i)
theorem XN {a:Int}(h1:-(n:Int)<=a)(h2:a<=n):a.natAbs<=n:=(Int.natAbs_eq a).elim (λ e=>ew.mp (ai (eH e.symm) h2)) (λ e=>ew.mp (Int.neg_le_neg_iff.mp (ai h1 (eH e))))
theorem Xo {k:Int}(h:idx n k=some j):k=j∨(k<0/\k + n=j):=by
 cases k with
 | ofNat k=>obtain rfl:=so h;exact .inl rfl
 | negSucc k =>
  have h:(match dC k n with | true=>some (n - (k + 1)) | false=>none)=some j:=h
  cases e:dC k n with
  | false=>rw [e] at h;exact nn h
  | true =>
   rw [e] at h
   obtain rfl:=so h
   have:=a9 e
   exact .inr ⟨nx k,Int.subNatNat_of_le this⟩
theorem zCA {k:Int}(h:idx n k=some j)(hj:j<n):oX k n=some j:=by
 unfold oX
 rcases Xo h with rfl | ⟨h0,h1⟩
 ·have h2:(j:Int)<n:=du.mpr hj
  simp only [cy.mpr (az j),if_false,az,h2,decide_true,rf,if_true,bq]
 ·have h2:(j:Int)<n:=du.mpr hj
  simp only [h0,if_true,h1,az,h2,decide_true,rf,bq]
section
variable {C:Cx}{T:Tabs}{F:Fm}{s s':ao}{φ j':ah->Prop}{μ sJ:List ah}{ρ sL:Rho}{σ σ':zA}{A:aM}{n:Nat}
theorem zCM {Q:D->zA->Prop}{t:ah}{xs:List ab}{k:Int}{u:iv}(R:Rel C T s.heap φ μ σ)(I:FrI F s.heap φ μ ρ)(ht:kc s.heap t vs.toArray)(r:VPs s.heap φ vs xs)(sm:Sm k)
  (h:Is ((idx xs.length k).bind λ j=>xs[j]?) λ x=>Q (.p x) σ):wpAny (model C.prog C.w) A (getItem (.ref t) (.int k u)) (PV C T F s φ μ ρ Q) NoE s:=by
 refine Eea (h.h) λ x e q=>?_
 refine Eea (ob e) λ j hj hx=>?_
 refine Eea (r.get hx) λ v hv p=>?_
 exact getItem_tuple ht sm.h.1 sm.h.2 (by (erw [aK];erw [r.length]);exact zCA hj (av.mp hx).1) (dU.trans hv) (zt R I (.p p) q)
theorem xw {Q:D->zA->Prop}{t:ah}{xs:List ab}{k:Int}{u:iv}(R:Rel C T s.heap φ μ σ)(I:FrI F s.heap φ μ ρ)(ht:s.heap.IsList t vs.toArray)(r:VPs s.heap φ vs xs)(sm:Sm k)
  (h:Is ((idx xs.length k).bind λ j=>xs[j]?) λ x=>Q (.p x) σ):wpAny (model C.prog C.w) A (getItem (.ref t) (.int k u)) (PV C T F s φ μ ρ Q) NoE s:=by
 refine Eea (h.h) λ x e q=>?_
 refine Eea (ob e) λ j hj hx=>?_
 refine Eea (r.get hx) λ v hv p=>?_
 have hl:vs.toArray.size=xs.length:=by (erw [aK];erw [r.length];rfl)
 rcases Xo hj with rfl | ⟨h0,h1⟩
 ·exact wpAny_getItem_list ht (az j) sm.h.2 (by erw [bq];exact dU.trans hv) (zt R I (.p p) q)
 ·exact wpAny_getItem_list_neg ht h0 (by erw [hl];lia) sm.h.1 (by (erw [hl];erw [h1];erw [bq]);exact dU.trans hv) (zt R I (.p p) q)
theorem zEi {Q:D->zA->Prop}{value slice:aL}{v w:af}{x y:D}(hA:Room n A)(hs:WU slice)(R:Rel C T s.heap φ μ σ)(I:FrI F s.heap φ μ ρ)(V:VD s.heap φ μ v x)(W:VD s.heap φ μ w y)
  (h:jS σ x y λ d=>Q d σ):wpAny (model C.prog C.w) A (iY value slice v w) (PV C T F s φ μ ρ Q) NoE s:=by
 cases x with
 | p x =>
  refine Eea (h.h) λ xs e h=>?_
  obtain ⟨k,t,_,rfl,sm,h⟩:=Zw W h
  obtain ⟨a,vs,rfl,_,r,⟨_,ht⟩ | ⟨_,ht⟩⟩:=Qn V.ip e
  ·exact gS ht.t.typeIs slot_tuple_getitem.lookup (zCM R I ht.t r sm h) (hs _ _)
  ·exact gS ht.typeIs kx.lookup (xw R I ht r sm h) (hs _ _)
 | obj j =>
  refine V.mobj λ a ha=>?_
  refine Eea (h.h) λ mo hi h=>?_
  cases mo with
  | lst xs =>
   obtain ⟨k,t,_,rfl,sm,h⟩:=Zw W h
   refine Eeea (R.at_ _ _ _ ha hi) λ vs k ho hp=>?_
   have ht:s.heap.IsList _ vs.toArray:=⟨_,ho,rfl,_,rfl⟩
   exact gS ht.typeIs kx.lookup (xw R I ht hp sm h) (hs _ _)
  | idict es =>
   refine Z8 W h λ k t h=>?_
   refine Eea (h.h) λ d e q=>?_
   (refine Ea (R.at_ _ _ _ ha hi) λ _ DC=>?_;refine Eea DC λ kvs hm _=>?_)
   exact gS hm.typeIs ky.lookup (zBa R I ha hi e q) (hs _ _)
  | tdict es =>
   refine Eeaaa (jc W h) λ k _ W kd h=>?_
   refine Eea (h.h) λ q hq h=>?_
   refine Eea (h.h) λ d e hQ=>?_
   (refine Eeea (W.itup) λ b vs AD=>?_;obtain rfl:=AD;intro _)
   obtain ⟨_,xs,⟨o,ds,ep,ho,hx,_⟩,_⟩:=yW R ha hi
   exact gS (T:="dict") ⟨o,ho,hx.1⟩ ky.lookup (zCK hA R I ha hi W kd hq e hQ) (hs _ _)
  | _=>exact h.elim
 | _=>exact h.elim
theorem zDE {Q:D->zA->Prop}{a:Int}{t:iv}(R:Rel C T s.heap φ μ σ)(I:FrI F s.heap φ μ ρ)(q:Q (.p (.int a.natAbs)) σ) :
  wpAny (model C.prog C.w) A (call (.builtin "abs") [.int a t]) (PV C T F s φ μ ρ Q) NoE s:=by
 refine call_abs_int λ u tk=>?_
 have e:(if a<0 then -a else a)=a.natAbs:=by
  split
  ·next h=>exact (Int.ofNat_natAbs_of_nonpos (ck h)).symm
  ·next h=>exact (Int.natAbs_of_nonneg (cy.mp h)).symm
 erw [e]
 exact zh R I (.p (.int _ _)) q _
theorem zC7 {Q:D->zA->Prop}{a b:Int}{t u:iv}(hA:A.handled=none)(R:Rel C T s.heap φ μ σ)(I:FrI F s.heap φ μ ρ)(q:Q (.p (.int (ze a [b]))) σ) :
  wpAny (model C.prog C.w) A (call (.builtin "max") [.int a t,.int b u]) (PV C T F s φ μ ρ Q) NoE s:=by
 refine max_two_ints hA λ h' tk k=>?_
 have q:Q (.p (.int (if a<b then b else a))) σ:=q
 by_cases hb:b > a
 ·rw [if_pos hb] at q ⊢;exact qN R I k (.p (.int _ _)) q
 ·rw [if_neg hb] at q ⊢;exact qN R I k (.p (.int _ _)) q
theorem zCH {Q:D->zA->Prop}{a b:Int}{t u:iv}(hA:A.handled=none)(R:Rel C T s.heap φ μ σ)(I:FrI F s.heap φ μ ρ)(q:Q (.p (.int (zm a [b]))) σ) :
  wpAny (model C.prog C.w) A (call (.builtin "min") [.int a t,.int b u]) (PV C T F s φ μ ρ Q) NoE s:=by
 refine min_two_ints hA λ h' tk k=>?_
 have q:Q (.p (.int (if b<a then b else a))) σ:=q
 by_cases hb:b<a
 ·rw [if_pos hb] at q ⊢;exact qN R I k (.p (.int _ _)) q
 ·rw [if_neg hb] at q ⊢;exact qN R I k (.p (.int _ _)) q
theorem vy {Q:D->zA->Prop}{a b:Int}{t u:iv}(R:Rel C T s.heap φ μ σ)(I:FrI F s.heap φ μ ρ)(q:Q (.rng a b) σ) :
  wpAny (model C.prog C.w) A (call (.type "range") [.int a t,.int b u]) (PV C T F s φ μ ρ Q) NoE s:=by
 refine call_range_2 ?_
 refine Eaa (R.pushF {cls:=.type "range",data:=.fields #[.int a t,.int b u,.int 1 s.toks]} rfl) λ R' X g=>?_
 exact pvI (Go.of_ext (tk:=s.toks + 1) I R' X) (.rng (.inr rfl) g) q
theorem WA {Q:D->zA->Prop}{b:Int}{u:iv}(R:Rel C T s.heap φ μ σ)(I:FrI F s.heap φ μ ρ)(q:Q (.rng 0 b) σ) :
  wpAny (model C.prog C.w) A (call (.type "range") [.int b u]) (PV C T F s φ μ ρ Q) NoE s:=by
 refine call_range_1 ?_
 refine Eaa (R.pushF {cls:=.type "range",data:=.fields #[.int 0 s.toks,.int b u,.int 1 (s.toks + 1)]} rfl) λ R' X g=>?_
 exact pvI (Go.of_ext (tk:=s.toks + 1 + 1) I R' X) (.rng (.inr rfl) g) q
end
end Mine.Internal
namespace Mine.Internal
open PySem PyProof
set_option tactic.hygienic false
section
variable {prog:bN}{w:cr}{A:aM}{s:ao}{E:af->ao->Prop}
theorem zBW {l:ah}{items:Array af}{k:Int}{t:iv}{v:af}{Q:Unit->ao->Prop}(hl:s.heap.IsList l items)
  (h0:k<0) (h1:-(items.size:Int)<=k) (Ci:-(2 ^ 63)<=k) (hn:(k + items.size).toNat<items.size)
  (hQ:Q () {s with heap:=s.heap.update l (et (·.setIfInBounds (k + items.size).toNat v))}) :
  wpAny (model prog w) A (ll (.ref l) (.int k t) v) Q E s:=by
 (refine Eeaa (id hl) λ o ho hc tM=>?_;refine Ee tM λ ne hd=>?_)
 unfold ll
 refine aQ ?_
 refine aa (wpAny_sequenceKey hl.typeIs (by decide) ?_)
 refine aa (cz (name:=ag "__setitem__") hl.typeIs ot
  (bQ ot hl.typeIs entry_list_setitem ?_ (args_list_setitem _ _ _)))
 show wpAny _ _ (sk (.int k t) >>= _) _ _ s
 refine aa (wpAny_listSubscript_int (fitsIndex_neg h0 Ci) ?_)
 clear Ci
 have Gw:=seqIndex_neg h0 h1
 obtain ⟨j,rfl⟩:∃ j:Nat,k=mY j:=by
  cases k with
  | ofNat n=>exact absurd h0 (cy.mpr (az n))
  | negSucc n=>exact ⟨n,rfl⟩
 show wpAny _ _ ((sn (.ref l) >>= λ xs=>pure ((oX (mY j) xs.size).bind λ i=>xs[i]?.map (i,·))) >>= _) _ _ s
 refine aa (aa ?_)
 show wpAny _ _ (lX (.ref l) >>= _) _ _ s
 refine aa (cE ho hd (am (am ?_)))
 erw [Gw]
 generalize (mY j + items.size).toNat=i at hn hQ
 have B7:items[i]?=some items[i]:=bV hn
 simp only [cB,B7,ib]
 show wpAny _ _ (setSeqItemAt l i v >>= _) _ _ s
 refine aa (wpAny_setSeqItemAt ho hd ?_)
 exact am ⟨.none,rfl,am hQ⟩
end
section
variable {C:Cx}{T:Tabs}{s:ao}{φ:ah->Prop}{μ:List ah}{σ:zA}{A:aM}
theorem xO {h:aR}{φ:ah->Prop}{v:af}{x:ab}(V:VP h φ v x):∀ {vs:List af} {xs:List ab} (j:Nat),VPs h φ vs xs->VPs h φ (vs.set j v) (xs.set j x)
 | _,_,_,.nil=>.nil
 | _,_,0,.cons _ r=>.cons V r
 | _,_,j + 1,.cons p r=>.cons p (xO V j r)
theorem zGP (vs:List af)(n j:Nat)(v:af):et (·.setIfInBounds j v) (mZ vs.toArray n)=mZ (vs.set j v).toArray n:=by
 simp [mZ,et]
theorem zBt {i j:Nat}{a:ah}{xs:List ab}{k:Int}{t:iv}{v:af}{x:ab}{P:Unit->ao->Prop}(R:Rel C T s.heap φ μ σ)(ha:μ[i]?=some a)(hi:σ[i]?=some (.lst xs))(V:VP s.heap φ v x)
  (hk:Sm k) (h0:k<0) (hj:idx xs.length k=some j) (q:∀ h',Rel C T h' φ μ (σ.set i (.lst (xs.set j x)))->Ext s.heap φ μ h' φ μ []->P () {s with heap:=h'}) :
  wpAny (model C.prog C.w) A (ll (.ref a) (.int k t) v) P NoE s:=by
 refine Eeea (R.at_ i a _ ha hi) λ vs n ho hp=>?_
 have hl:=hp.length
 have hs:vs.toArray.size=xs.length:=by (erw [aK];erw [hl];rfl)
 have G5:k + (xs.length:Int)=j:=by
  rcases Xo hj with e | ⟨_,e⟩
  ·exact absurd h0 (by erw [e];exact cy.mpr (az j))
  ·exact e
 have FP:j<xs.length:=du.mp (by rw [<- G5];exact c5 (Int.add_lt_add_right h0 _) (eH (df _)))
 have e:(k + (vs.toArray.size:Int)).toNat=j:=by (erw [hs];erw [G5]);rfl
 refine zBW ⟨_,ho,rfl,n,rfl⟩ h0 (by erw [hs];exact Int.le_of_sub_nonneg (by rw [Int.sub_neg,G5];exact az j)) hk.1 (by (erw [e];erw [hs]);exact FP) ?_
 erw [e]
 have x6:=cI (et (·.setIfInBounds j v)) ho rfl
 refine Ea (R.upd (mo':=.lst (xs.set j x)) ha hi (λ h=>nomatch h) (cu ..) ⟨_,x6⟩ λ kk=>⟨vs.set j v,_,x6.trans (congrArg some (zGP vs n j v)),(xO V j hp).mono kk⟩) λ R' X=>q _ R' X
end
end Mine.Internal
namespace Mine.Internal
open PySem PySem.Calls PyProof PyProof.Rows PySem.W PySem.SeqAt
set_option tactic.hygienic false
variable {o:eV}{AI fr μ wr sJ:List ah}{mo:MO}{slice tC target iter:aL}{vs:List af}{x y pre nm x1 x2 x3:aN}{xs:List ab}{B I:ah}{v v1 v2:af}{c k i j k' n L tk g i1 i2 i3:Nat}{h' s5:aR}{kvs:List (af×af)}{ks:List (aN×aW)}{ds:List D}{prog:bN}{w:cr}{pos p1 p2 tp:dD}{Q:Rho->zA->Prop}{P:iA}{fs:List (Nat×D)}{d d1 d2:D}{K:List ab->Option (Nat×List ab)->zA->Prop}{b m:Bool}{C:Cx}{T:Tabs}{F Fo:Fm}{s s':ao}{φ j':ah->Prop}{sL tQ:Rho}{σ':zA}{kindOf:aN->Option aW}{ps:List aN}{A:aM}{env:kH}{fd:dK}{body:List fw}{src:Option (Nat×List ab)}{r:String×aN×String}{ty id:String}{E:af->ao->Prop}{sW:List aL}{gensA:List bh}{scope:b8}{cells:List (aN×ah)}{op Af:ke}{xe it:Ex}{ts:List Tg}{st:fw}{ifs:List Ex}{gs:List Gn}
section
variable {C:Cx}{T:Tabs}{F:Fm}{s s':ao}{φ j' th:ah->Prop}{μ sJ s7:List ah}{ρ sL:Rho}{σ σ':zA}{A:aM}{n:Nat}{h h' Be:aR}{wr D4:List ah}{D:ah}
theorem Rel.but (R:Rel C T h φ μ σ)(hm:D∉μ)(hf:¬ φ D)(hs:cn D h h')(hD:h'.get? D=some o):Rel C T h' φ μ σ/\Ext h φ μ h' φ μ [D]:=by
 have k:∀ b,φ b->φ b/\h'.get? b=h.get? b:=λ b f=>⟨f,hs.2 b λ e=>hf (e▸f)⟩
 have ex:∀ b o,h.get? b=some o->∃ o',h'.get? b=some o':=λ b o' e=>by
  by_cases q:b=D
  ·exact ⟨o,q▸hD⟩
  ·exact ⟨o',(hs.2 b q).trans e⟩
 refine ⟨⟨λ b o e=>(hs.2 b λ q=>hf (q▸R.base b o e)).trans (R.keep b o e),R.base,λ b f=>let ⟨o,e⟩:=R.frz b f;ex b o e,R.len,R.nodup,λ j b e=>let ⟨o,e'⟩:=R.lt j b e;ex b o e',R.apart,λ j b mo e e'=>?_⟩,
  ⟨k,λ _ f=>.inl f,λ _ _ e=>e,λ _ _ e=>.inl e,ex,λ b o e _ nw=>by (erw [hs.2 b λ q=>nw (by simp [q])];erw [e]);exact Kept.refl _⟩⟩
 exact Zp (R.at_ j b mo e e') k (λ _ _ e=>e) (.inr (hs.2 b λ q=>hm (aS.mpr ⟨j,q▸e⟩)))
theorem Ext.stepF {BG:List ah}(x:Ext h φ μ h' j' sJ wr fr)(y:Ext h' j' sJ Be th s7 AI BG)(k:∀ b∈AI,h.get? b=none∨b∈wr)(kf:∀ b∈BG,h.get? b=none∨b∈fr):Ext h φ μ Be th s7 wr fr:=by
 have y':Ext h' j' sJ Be th s7 (wr++AI) (fr++BG):=y.wid (λ b _ m _=>bg _ m) λ b _ m _=>bg _ m
 have x':Ext h φ μ h' j' sJ (wr++AI) (fr++BG):=x.wid (λ b _ m _=>bK _ m) λ b _ m _=>bK _ m
 refine (x'.trans y').wid (λ b o m e=>?_) λ b o m e=>?_
 ·exact (bB.mp m).elim id λ m=>(k b m).elim (λ q=>by rw [e] at q;cases q) id
 ·exact (bB.mp m).elim id λ m=>(kf b m).elim (λ q=>by rw [e] at q;cases q) id
theorem Ext.step (x:Ext h φ μ h' j' sJ wr fr)(y:Ext h' j' sJ Be th s7 AI)(k:∀ b∈AI,h.get? b=none∨b∈wr):Ext h φ μ Be th s7 wr fr:=x.stepF y k λ _ m=>nomatch m
theorem Rel.adopt (R:Rel C T h φ μ σ)(hm:D∉μ)(hf:¬ φ D)(hD:h.get? D=some o)(Fq:qF T C.prog C.w h φ (μ++[D]) D mo) :
  Rel C T h φ (μ++[D]) (σ++[mo])/\(μ++[D])[σ.length]?=some D:=by
 have pre:∀ (i:Nat) (a:ah),μ[i]?=some a->(μ++[D])[i]?=some a:=λ i a e=>by
  erw [aB (av.mp e).1];exact e
 have inv:∀ (i:Nat) (a:ah),(μ++[D])[i]?=some a->μ[i]?=some a∨(i=μ.length/\a=D):=λ i a e=>by
  rcases fj i μ.length with h | h | h
  ·rw [aB h] at e;exact .inl e
  ·subst h;simp at e;exact .inr ⟨rfl,e.symm⟩
  ·rw [dc (by simp;exact h)] at e;cases e
 refine ⟨⟨R.keep,R.base,R.frz,?_,λ i j a ei ej=>?_,λ i a e=>?_,λ i a e f=>?_,λ i a mo' e e'=>?_⟩,?_⟩
 ·(erw [ak];erw [ak];erw [R.len]);rfl
 ·rcases inv i a ei with h | ⟨rfl,h⟩ <;> rcases inv j a ej with h' | ⟨rfl,h'⟩
  ·exact R.nodup i j a h h'
  ·exact absurd (aS.mpr ⟨i,h'▸h⟩) hm
  ·exact absurd (aS.mpr ⟨j,h▸h'⟩) hm
  ·rfl
 ·rcases inv i a e with h | ⟨_,rfl⟩
  ·exact R.lt i a h
  ·exact ⟨o,hD⟩
 ·rcases inv i a e with h | ⟨_,rfl⟩
  ·have q:=R.apart i a h f
   erw [aB (av.mp q).1];exact q
  ·exact absurd f hf
 ·rcases inv i a e with h | ⟨rfl,rfl⟩
  ·have hi:i<σ.length:=by refine rwS R.len ?_;exact (av.mp h).1
   rw [aB hi] at e'
   exact Zp (R.at_ i a mo' h e') (λ a f=>⟨f,rfl⟩) pre (.inr rfl)
  ·rw [R.len] at e'
   simp at e'
   subst e'
   exact Fq
 ·refine rwS R.len ?_;simp
theorem Ext.adopt (x:Ext h φ μ h' j' sJ wr fr)(hD:h.get? D=none):Ext h φ μ h' j' (sJ++[D]) wr fr:=by
 refine ⟨x.frz,x.new,λ i a e=>?_,λ i a e=>?_,x.ex,x.oth⟩
 ·have:=x.pre i a e
  erw [aB (av.mp this).1];exact this
 ·rcases fj i sJ.length with h | h | h
  ·rw [aB h] at e;exact x.fresh i a e
  ·subst h;simp at e;exact .inr (e▸hD)
  ·rw [dc (by simp;exact h)] at e;cases e
theorem Ext.more (x:Ext h φ μ h' j' sJ wr fr)(hD:h.get? D=none):Ext h φ μ h' (λ a=>j' a∨a=D) sJ wr fr :=
 ⟨λ a f=>⟨.inl (x.frz a f).1,(x.frz a f).2⟩,λ a f=>f.elim (x.new a) λ e=>.inr (.inl (e▸hD)),x.pre,x.fresh,x.ex,x.oth⟩
end
section
variable {C:Cx}{T:Tabs}{F:Fm}{s s':ao}{φ j' th:ah->Prop}{μ sJ s7:List ah}{ρ sL:Rho}{σ σ':zA}{A:aM}{n:Nat}
theorem Go.push (R:Rel C T s.heap φ μ σ)(I:FrI F s.heap φ μ ρ)(o:eV):Go C T F s φ μ {s with heap:=s.heap.push o} φ μ ρ σ :=
 let ⟨R',X⟩:=R.grow (h':=s.heap.push o) λ _ _ e=>aq _ e
 Go.of_ext (tk:=s.toks) I R' X
theorem vM {Q:D->zA->Prop}{value:aL}{t sl:ah}{vs:List af}{ys:List ab}{vl vu:af}{lo hi:Option Int}(hs:∀ o i,subscripted slice false o i=operate [i,o] (getItem o i))
  (R:Rel C T s.heap φ μ σ) (I:FrI F s.heap φ μ ρ) (ht:s.heap.IsList t vs.toArray) (hz:vs.length<=cJ)
  (K1:s.heap.IsSliceOf sl vl vu .none) (pl:IsPart vl lo) (pu:IsPart vu hi) {zs:List af} (e:slicePick vs.toArray lo hi none=zs.toArray) (r:VPs s.heap φ zs ys) (q:Q (.p (.list ys)) σ) :
  wpAny (model C.prog C.w) A (iY value slice (.ref t) (.ref sl)) (PV C T F s φ μ ρ Q) NoE s:=by
 refine gS ht.typeIs kx.lookup (wpAny_getItem_list_slice ht K1 pl pu .none (by simp) ?_ (by erw [aK];exact hz)) (hs _ _)
 erw [e]
 refine Eaa (R.pushF {cls:=.type "list",data:=.seq zs.toArray} rfl) λ R' X g=>?_
 exact pvI (Go.of_ext (tk:=s.toks) I R' X) (.p (.lst (.inr rfl) ⟨_,g,rfl,_,rfl⟩ (X.vps r))) q
theorem Wu {k:Int}(h:0<=k):slicePick vs.toArray none (some k) none=(vs.take k.toNat).toArray:=by
 have:=slicePick_upto' vs.toArray k.toNat
 rwa [bH h] at this
theorem zB1 {Q:D->zA->Prop}{value:aL}{v w:af}{x y:D}(hs:∀ o i,subscripted slice false o i=operate [i,o] (getItem o i))(R:Rel C T s.heap φ μ σ)(I:FrI F s.heap φ μ ρ)
  (V:VD s.heap φ μ v x) (W:VD s.heap φ μ w y) (h:yn σ x y λ d=>Q d σ) :
  wpAny (model C.prog C.w) A (iY value slice v (.ref s.heap.objs.size)) (PV C T F s φ μ ρ Q) NoE {s with heap:=s.heap.push {cls:=.type "slice",data:=.fields #[.none,w,.none]}}:=by
 have G:=Go.push R I {cls:=.type "slice",data:=.fields #[.none,w,.none]}
 have V':=G.ext.vd V
 (refine Eeeaa (Zw W h) λ k t Ao=>?_;obtain rfl:=Ao;intro AN;obtain rfl:=AN;intro h)
 have lst:∀ {a:ah} {vs:List af} {xs:List ab},(s.heap.push {cls:=.type "slice",data:=.fields #[.none,.int k t,.none]}).IsList a vs.toArray->VPs (s.heap.push {cls:=.type "slice",data:=.fields #[.none,.int k t,.none]}) φ vs xs->(Sm k/\0<=k/\Few xs.length/\Q (.p (.list (xs.take k.toNat))) σ) ->
   wpAny (model C.prog C.w) A (iY value slice (.ref a) (.ref s.heap.objs.size)) (PV C T F s φ μ ρ Q) NoE {s with heap:=s.heap.push {cls:=.type "slice",data:=.fields #[.none,.int k t,.none]}}:=λ ht r h =>
  ay (vM (Q:=Q) hs G.rel G.fr ht (by erw [r.length];exact zv h.2.2.1) (sq ..) .none (.int k t) (Wu h.2.1) (r.take _) h.2.2.2) (λ _ _ p=>PV.up G p) λ _ _ p=>p
 cases x with
 | p x=>cases x with
  | str x' =>
   (refine Z0 (h) λ sm hf ok q=>?_;try clear h)
   refine V.ip.mstr λ u _=>?_
   refine gS (typeIs_str _ _ _) PySem.F.slot_str_getitem.lookup (wpAny_getItem_str_slice (l:=none) (u:=some (k,t)) (st:=none) ⟨_,aI _ rfl,rfl,rfl⟩ rfl
    (post_val_or_str ⟨ae (Txt.slice_le x' _ _) (zv hf),λ t' k'=>?_⟩)) (hs _ _)
   exact PV.up G (zh G.rel G.fr (.p (.str _ _ ok)) q k')
  | list xs=>refine V'.ip.mlst λ a vs f ht r=>?_;exact lst ht r h
  | _=>exact h.elim
 | _=>exact h.elim
theorem JM (x:String):bu (ag x)=true:=by
 erw [Str.ofString_eq_toList]
 unfold bu
 simp only [List.all_toArray,List.all_map,bR,Function.comp,decide_eq_true_eq]
 intro c _
 have:=c.valid
 have e:c.toNat=c.val.toNat:=rfl
 erw [e]
 rcases this with h | h
 ·exact ae h (nB9 rfl)
 ·have:=h.2;exact this
theorem ul (hx:bu x=true)(hy:bu y=true):bu (x++y)=true:=by
 unfold bu at *
 show (x.cps++y.cps).all _=true
 (erw [Array.all_append];erw [hx];erw [hy]);rfl
theorem zEI {i:Int}(h:Sm i):i.natAbs.log2<1920:=by
 by_cases hz:i.natAbs=0
 ·erw [hz];decide
 ·have h2:i.natAbs<2 ^ 1920:=cw (m:=2 ^ 64) (cg (XN (n:=9223372036854775808) h.1 (ck h.2)) (oD9 rfl)) (iG (by decide) (by decide))
  exact (mU hz).mpr h2
theorem zB2 {Q:D->zA->Prop}{e:aL}{k:Nat}{pos AO Er:dD}{W:D->zA->Prop}(hp:bu pre=true/\pre.length<=1000)
  (he:DX C T F A (eval e F.env) ρ σ W) (hW:∀ d σ',W d σ'->onI d λ i=>Sm i/\Q (.p (.str (pre++ag (toString i)))) σ') :
  DX C T F A (eval (.JoinedStr [.Constant (.str pre) k pos,.FormattedValue e (-1) none AO] Er) F.env) ρ σ Q:=by
 intro s φ μ R I
 refine wpAny_JoinedStr ?_
 show wpAny _ A (eval (.Constant (.str pre) k pos) F.env) _ NoE s
 refine fc ?_
 refine ⟨pre,_,rfl,by erw [oY];have:=hp.2;erw [cA];exact ae this (nB9 rfl),?_⟩
 show wpAny _ A (eval (.FormattedValue e (-1) none AO) F.env) _ NoE _
 have G0:Go C T F s φ μ {s with toks:=s.toks + 1} φ μ ρ σ:=(Go.refl R I).tok _
 refine wpAny_FormattedValue_plain (he.seq G0.rel G0.fr λ s' j' sJ v d σ' G V q=>?_)
 obtain ⟨i,t,rfl,rfl,sm,q⟩:=Zw V (hW d σ' q)
 have hl:=zEI sm
 have hz:=int_text_length_le (k:=1920) (by decide) hl
 refine wpAny_formatField_int hl ?_
 have ok:bu (pre++ag (toString i))=true:=ul hp.1 (JM _)
 have hlen:(pre++ag (toString i)).length<=cJ:=by
  (erw [strLen_append];erw [PySem.ofString_length];erw [cA])
  have:=hp.2
  exact lin [pre.length,(toString i).length] [] (.a (.v 0) (.v 1)) (.k 16777216) [(1,.l (.v 0) (.k 1000)),(1,.l (.v 1) (.a (.k 1920) (.k 1)))] tT9 hp.2 hz
 erw [oY]
 exact ⟨_,_,rfl,hlen,hlen,j',sJ,_,σ',(G0.trans G).tok _,.p (.str _ _ ok),q⟩
end
theorem uE:typeLookup (.type "tuple") "keys"=pure none:=am_miss_of_fast (by decide +kernel)
section
variable {prog:bN}{w:cr}{A:aM}{E:af->ao->Prop}{s:ao}
theorem uD {a:ah}{items:Array af}{Q:Option af->ao->Prop}(ht:s.heap.IsTuple a items)(hd:∀ o,s.heap.get? a=some o->o.dict=none)(hA:A.handled=none)
  (h:∀ h' tk,(∀ b o,s.heap.get? b=some o->h'.get? b=some o)->Q none {s with heap:=h',toks:=tk}):wpAny (model prog w) A (getAttr? (.ref a) "keys") Q E s:=by
 obtain ⟨o,hx,hc,k,tZ⟩:=ht
 have hd:=hd _ hx
 obtain ⟨c,dct,dat,sl⟩:=o
 simp only at hc tZ hd
 subst hc tZ hd
 obtain ⟨hp,g,d,tk,os⟩:=s
 have hT:∀ A9,(⟨hp,g,d,A9,os⟩:ao).TypeIs (.ref a) "tuple":=λ _=>⟨_,hx,rfl⟩
 have f1:=sub_AttributeError
 have f3:=gh.lookup
 have f4:=gh.bind (.ref a)
 have f5:=am_tuple_getattr_none
 unfold getAttr? getAttrBy? getAttrBy
 repeat (any_goals (first | assumption | exact hT _ | ((with_reducible show wpAny _ _ (call (p8 "tuple.__getattribute__") _ _) _ _ _);refine lv gh (hT _) am_entry_tuple_getattribute (F.args_tuple_getattribute_2 _ _) (meets_getattribute_miss_tuple a items k sl _ _ uE (by decide +kernel) (by decide)) ⟨hx,hA,λ h' A9 e B7=>?_⟩) | wp_step))
 refine Eee (B7.there) λ t' u' he=>?_
 show wpAny _ _ (nS _ _ _ _ _ _ _) _ _ _
 unfold nS
 repeat (any_goals (first | assumption | wp_step))
 exact h _ _ B7.keeps
end
theorem Zv:mR table "dict.update.loop"=some cH.«dict.update.loop»:=entryFor_of_fast (by kernel_rfl)
theorem z6:plainId "dict.update.loop"=true:=by decide +kernel
theorem Yr {x:ab}{es:List (Int×D)}(e:qJ (x::xs)=some es):∃ k y es',x=.tuple [.int k,y]/\qJ xs=some es'/\es=(k,.p y)::es':=by
 refine Eea (ob e) λ ys e1 e2=>?_
 refine Eea (ob e2) λ p e3 e4=>?_
 refine Eea (ob e4) λ k e5 e6=>?_
 refine Eea (ob e6) λ l e7 e8=>?_
 obtain ⟨p1,p2⟩:=p
 obtain rfl:=YY e1
 obtain rfl:=vc e3
 obtain rfl:=Ja e5
 exact ⟨k,p2,l,rfl,e7,(so e8).symm⟩
section
variable {C:Cx}{T:Tabs}{F:Fm}{s s':ao}{φ j':ah->Prop}{μ sJ:List ah}{ρ sL:Rho}{σ σ':zA}{A:aM}{n:Nat}
theorem vA {h₀:aR}{ax:ah}{vs:List af}{RR:ls->ao->Prop}(hh:A.handled=none)(F1:B≠I)(Gc:B≠ax)(tq:ax≠I)(Fz:h₀.get? I=none)(K8:h₀.get? B=none) :
  ∀ (ys:List ab) (us:List af) (i:Nat) (es':List (Int×D)) (kvs:List (Int×af)) (es:List (Int×D)) (s:ao) (t:iv),vs.drop i=us->VPs h₀ φ us ys->qJ ys=some es'->((es++es').map (·.1)).Nodup->(es++es').length<=cJ ->
   (∀ b o,h₀.get? b=some o->s.heap.get? b=some o)->(s.heap.IsTupleIter I ax i/\s.heap.IsTuple ax vs.toArray)->s.heap.DictOf (intKind C.prog C.w) B kvs->IEs h₀ φ μ kvs es ->
   (∀ h' tk Ag,h'.DictOf (intKind C.prog C.w) B Ag->IEs h₀ φ μ Ag (es++es')->(∀ b o,h₀.get? b=some o->h'.get? b=some o)->RR (.ok (.ret .none)) {s with heap:=h',toks:=tk}) ->
   dZ (model C.prog C.w) A (.builtin "dict.update.loop" ⟨[.ref B,.ref I,.int i t,.none],[]⟩) RR s:=by
 have W:=rD (prog:=C.prog) (w:=C.w) (A:=A.in1) hh I ax tq vs.toArray
 intro ys
 induction ys with
 | nil =>
  intro us i es' kvs es s t hd hv hp hn hl hk tu hm he hR
  cases hv.inil
  obtain rfl:=so hp
  have hi:vs.toArray.size<=i:=by erw [aK];exact m3.mp hd
  refine eU Zv ?_
  erw [ef z6 _]
  show wpAny _ A.in1 (eZ (.ref I) >>= _) _ _ s
  refine aa (mD hh tu.1 tu.2 (by simpa using hi) λ h' FN=>?_)
  show wpAny _ A.in1 (su B [] >>= _) _ _ _
  refine aa (am (am ?_))
  rw [aP] at hR
  exact hR h' s.toks kvs (hm.extBut FN F1) he λ b o e=>FN b o (by rintro rfl;rw [Fz] at e;cases e) (hk b o e)
 | cons y ys ih =>
  intro us i es' kvs es s t hd hv hp hn hl hk tu hm he hR
  (refine Eeeeaa (Yr hp) λ k x EL Cp=>?_;obtain rfl:=Cp;intro Dt AF;obtain rfl:=AF)
  (refine Eeeaa (hv.icons) λ v us AY=>?_;obtain rfl:=AY;intro p r)
  (refine Eeeaaa (p.itup) λ a ws AU=>?_;obtain rfl:=AU;intro f ht rr)
  (refine Eeeaa (rr.icons) λ v1 ws A8=>?_;obtain rfl:=A8;intro p1 r1)
  (refine Ee (p1.iint) λ F3 Ds=>?_;obtain rfl:=Ds)
  (refine Eeeaa (r1.icons) λ v2 ws Hd=>?_;obtain rfl:=Hd;intro p2 r2)
  cases r2.inil
  have s3:i<vs.length:=by
   rcases rp i vs.length with h | h
   ·exact h
   ·rw [m3.mpr h] at hd;cases hd
  have KI:vs[i]?=some (.ref a):=by
   have:=congrArg (λ l=>l[0]?) hd
   simpa using this
  have BD:vs.drop (i + 1)=us:=by
   (refine rwS List.drop_drop ?_;erw [hd]);rfl
  refine eU Zv ?_
  erw [ef z6 _]
  show wpAny _ A.in1 (eZ (.ref I) >>= _) _ _ s
  refine aa (lY tu.1 tu.2 (x:=.ref a) (by simpa using KI) λ h' x9 Bj=>?_)
  have Ac:∀ b o,h₀.get? b=some o->h'.get? b=some o:=λ b o e=>Bj.extBut b o (by rintro rfl;rw [Fz] at e;cases e) (hk b o e)
  (refine Eeaa (id ht.t) λ o ho hc DC=>?_;refine Ee DC λ nn tZ=>?_)
  have x6:=Ac _ _ ho
  have hT:({s with heap:=h'}:ao).TypeIs (.ref a) "tuple":=⟨o,x6,hc⟩
  show wpAny _ A.in1 (cR [.ref a] _ >>= λ _=>_) _ _ _
  refine aa (aQ ?_)
  show wpAny _ A.in1 (tryCatch (mE (.ref a)) _ >>= _) _ _ _
  refine aa (wpAny_tryCatch ?_)
  unfold mE
  refine aa (mz hT ?_)
  show wpAny _ _ (lX (.ref a) >>= _) _ _ _
  refine aa (cE x6 tZ (am ?_))
  show wpAny _ _ (cR [.int k F3,v2] (dictSet B (.int k F3) v2)) _ _ _
  have Kl:k∉es.map (·.1):=by
   rw [aT,ee] at hn
   intro AV
   exact hn.2.2 k AV k (by simp) rfl
  have AJ:valueAt kvs k=none:=by
   rcases yZ he k with ⟨d,_,hd,_⟩ | ⟨_,this⟩
   ·unfold zP at hd
    rw [bL] at hd
    (refine Eea (hd) λ e h1 _=>?_;try clear hd)
    have h2:=pi h1
    exact absurd (aU.mpr ⟨e,lH h1,by simpa using h2⟩) Kl
   ·exact this
  have hlen:=yf he
  refine aQ (wpAny_dictSet_pairs (s:={s with heap:=h'}) (Z7 k F3) (hm.sameBut Bj F1) (λ Be CO BL=>?_) (by erw [hlen];rw [ak] at hl;exact ae (aH _ _) hl))
  rw [wg AJ] at CO
  refine am ⟨iV z6 _,ih us (i + 1) EL _ (es++[(k,.p x)]) _ _ BD r Dt (by simpa using hn) (by simpa using hl) (λ b o e=>BL.extBut b o (by rintro rfl;rw [K8] at e;cases e) (Ac b o e)) ?_ CO (uy he (.p p2)) λ h3 IW Hz a1 a2 a3=>?_⟩
  ·exact ⟨x9.extBut BL.extBut (iO F1),(tu.2.extBut Bj.extBut tq).extBut BL.extBut (iO Gc)⟩
  ·exact hR h3 IW Hz a1 (by simpa using a2) a3
theorem ym:∀ {xs:List ab} {es:List (Int×D)},qJ xs=some es->es.length=xs.length
 | [],es,e=>by (injection e with y5y0;subst y5y0);rfl
 | x::xs,es,e=>by (refine Eeeeaa (Yr e) λ k y es' Bo=>?_;obtain rfl:=Bo;intro h F0;obtain rfl:=F0);simp [ym h]
theorem zCm {Q:D->zA->Prop}{es:List (Int×D)}(hA:A.handled=none)(D7:eg<s.heap.objs.size)(R:Rel C T s.heap φ μ σ)(I:FrI F s.heap φ μ ρ)(V:VP s.heap φ v (.tuple xs))(e:qJ xs=some es)(nd:(es.map (·.1)).Nodup)(hf:Few xs.length)
  (q:Q (.obj σ.length) (σ++[.idict es])):wpAny (model C.prog C.w) A (call (.type "dict") [v]) (PV C T F s φ μ ρ Q) NoE s:=by
 refine V.mtup λ a vs f ht r=>?_
 ·skip
  refine callType_codes (Q₁:=λ obj sM=>obj=.ref s.heap.objs.size/\sM={s with heap:=s.heap.push {cls:=.type "dict",data:=.dict #[]}}) PySem.F.kt_called_dict (PySem.F.kt_typeCall_dict_1 _) PySem.F.entry_dict_init (kt_code_dict_new _ ⟨rfl,rfl⟩) ?_
  rintro obj sM ⟨rfl,rfl⟩
  have DM:(s.heap.push {cls:=.type "dict",data:=.dict #[]}).DictOf (intKind C.prog C.w) s.heap.objs.size []:=pj s.heap
  refine ⟨DM.typeIs,PySem.F.args_dict_init_2 _ _,?_⟩
  unfold cH.«dict.__init__»
  refine aa ?_
  unfold sw
  refine aa (mL DM.typeIs ?_)
  show wpAny _ _ (pure (s.heap.objs.size,[eI a])) _ _ _
  refine am ?_
  show wpAny _ _ (lZ "dict.__init__" s.heap.objs.size (.ref a) [] .none) _ _ _
  unfold lZ
  have k1:∀ b o,s.heap.get? b=some o->(s.heap.push {cls:=.type "dict",data:=.dict #[]}).get? b=some o:=λ b o e=>aq _ e
  have Lj:kc (s.heap.push {cls:=.type "dict",data:=.dict #[]}) a vs.toArray:=ht.t.push _
  (refine Eeaa (id ht.t) λ o ho hc IT=>?_;refine Ee IT λ nn tZ=>?_)
  have CC:=k1 _ _ ho
  refine aa (mz (T:="tuple") ⟨o,CC,hc⟩ ?_)
  erw [if_pos (by decide)]
  refine aa (uD (items:=vs.toArray) ⟨o,CC,hc,nn,tZ⟩ (λ o' e=>by rw [CC] at e;(injection e with y6y0;subst y6y0);exact ht.p _ ho) hA λ h2 Lk k2=>?_)
  have BM:=k2 _ _ CC
  have Iu:a<h2.objs.size:=a7 BM
  have Ig:s.heap.objs.size<h2.objs.size:=a7 (k2 _ _ (aI _ rfl))
  have Gc:s.heap.objs.size≠a:=λ e=>fM _ (e▸a7 ho)
  refine aa (fF (aa (cZ (items:=vs.toArray) ⟨o,BM,hc,nn,tZ⟩ ?_)))
  have Fz:s.heap.get? h2.objs.size=none:=dp (ey Ig)
  have tH:∀ h' tk Ag,h'.DictOf (intKind C.prog C.w) s.heap.objs.size Ag->IEs s.heap φ μ Ag es->(∀ b o,s.heap.get? b=some o->h'.get? b=some o) ->
    PV C T F s φ μ ρ Q (.ref s.heap.objs.size) {s with heap:=h',toks:=tk}:=λ h' tk Ag a1 a2 a3=>by
   obtain ⟨o',x6⟩:∃ o',h'.get? s.heap.objs.size=some o':=by (refine Eeeea (a1) λ o' _ _ e _=>?_;try clear a1);exact ⟨o',e⟩
   refine Eaa (R.newM (D:=s.heap.objs.size) a3 (zj _) o' x6 (.idict es) λ kk=>⟨by simpa using bv D7,Ag,a1,UU kk (λ i a e=>by erw [aB (av.mp e).1];exact e) a2⟩) λ R' X g=>?_
   exact pvI (Go.of_ext I R' X) (.obj g) q
  have tu:(h2.push {cls:=.type "tuple_iterator",data:=.fields #[.ref a,.int 0 0]}).IsTupleIter h2.objs.size a 0/\(h2.push {cls:=.type "tuple_iterator",data:=.fields #[.ref a,.int 0 0]}).IsTuple a vs.toArray :=
   ⟨⟨_,aI _ rfl,rfl,rfl⟩,⟨o,aq _ BM,hc,nn,tZ⟩⟩
  have F8:(h2.push {cls:=.type "tuple_iterator",data:=.fields #[.ref a,.int 0 0]}).DictOf (intKind C.prog C.w) s.heap.objs.size []:=(DM.at λ o e=>k2 _ _ e).push _
  refine am ⟨iV z6 _,vA (C:=C) (A:=A.in1) (h₀:=s.heap) (μ:=μ) (i:=0) (kvs:=[]) (es:=[]) hA (aF Ig) Gc (aF Iu) Fz (zj _) xs vs (es':=es) _ _ rfl r e (by simpa using nd)
   (by (erw [bP];erw [ym e]);exact zv hf) (λ b o e=>aq _ (k2 _ _ (k1 _ _ e))) tu F8 .nil λ h' tk Ag a1 a2 a3=>?_⟩
  exact ⟨rfl,tH h' tk Ag a1 a2 a3⟩
end
section
variable {C:Cx}{T:Tabs}{F:Fm}{s s' sM:ao}{φ j' sV:ah->Prop}{μ sJ sR:List ah}{ρ sL s0:Rho}{σ σ' s4:zA}{A:aM}{n:Nat}{B:ah}
theorem FrI.ne_locals (I:FrI F s.heap φ μ ρ)(h:s.heap.get? B=none):F.env.locals≠B:=λ e=>by
 (refine Eea (I.loc) λ m t7=>?_;(refine Eeeea (t7) λ o _ _ ho _=>?_;try clear t7);intro _)
 rw [e,h] at ho;cases ho
theorem FrI.ne_cells (I:FrI F s.heap φ μ ρ)(h:s.heap.get? B=none){c:ah}(hc:F.env.cells.lookup y=some c):c≠B:=λ e=>by
 (refine Ea (I.cμ y c hc) λ AN=>?_;(refine Ee (AN) λ o ho=>?_;try clear AN);intro _)
 rw [e,h] at ho;cases ho
theorem FrI.ne_own (I:FrI F s.heap φ μ ρ)(h:s.heap.get? B=none):B∉F.env.locals::F.own:=λ m=>by
 rcases aJ.mp m with e | m
 ·exact I.ne_locals h e.symm
 ·refine Ee (I.own _ m) λ o ho=>?_
  rw [h] at ho;cases ho
theorem Go.but {tk:Nat}(I:FrI F s.heap φ μ ρ)(G:Go C T F s φ μ sM sV sR s0 s4)(hf:s.heap.get? B=none)(nm:B∉sR)(nf:¬ sV B)(hs:cn B sM.heap h')(hB:h'.get? B=some o) :
  Go C T F s φ μ {sM with heap:=h',toks:=tk} sV sR s0 s4:=by
 refine Ea (G.rel.but nm nf hs hB) λ R' X=>?_
 refine G.mst λ h A9=>?_
 refine ⟨⟨h',tk,rfl⟩,R',G.fr.ext X (by simpa using I.ne_locals hf) (λ y c hc=>by simpa using I.ne_cells hf hc) (λ v L hv hl _=>by simpa using I.ne_out hf hv hl),G.ext.step X λ b hb=>?_⟩
 rw [aG] at hb
 subst hb
 exact .inl hf
theorem FrI.adopt {h:aR}(I:FrI F h φ μ ρ)(hL:F.env.locals≠B)(hc:∀ y c,F.env.cells.lookup y=some c->c≠B)(ho:∀ v L,v∈F.fs->v.frame=some L->L≠B):FrI F h φ (μ++[B]) ρ:=by
 have pre:∀ (i:Nat) (a:ah),μ[i]?=some a->(μ++[B])[i]?=some a:=λ i a e=>by
  erw [aB (av.mp e).1];exact e
 have k:∀ a,φ a->φ a/\h.get? a=h.get? a:=λ a f=>⟨f,rfl⟩
 refine Eea (I.loc) λ m hn hm=>?_
 refine ⟨I.kind,I.glob,I.blt,I.len,⟨m,hn,λ i y hi=>⟨(hm i y hi).1,(hm i y hi).2.mono k pre⟩⟩,λ i y kk hi hk=>?_,I.uniq,λ m=>?_,I.Lφ,λ y c hy=>?_,I.cinj,I.own,I.outsK λ v L o hv hf h1 h2 h3 _ _=>⟨⟨o,h1,rfl⟩,λ m=>(bB.mp m).elim h2 λ m=>ho v L hv hf (by simpa using m),h3⟩⟩
 ·(refine Ea (I.cell i y kk hi hk) λ h1 tM=>?_;refine Eeeaaa tM λ c v Ah Ap BU BO=>?_)
  exact ⟨h1,c,v,Ah,Ap,BU.mono k pre,BO⟩
 ·rcases bB.mp m with m | m
  ·exact I.Lμ m
  ·exact hL (by simpa using m)
 ·refine Z0 (I.cμ y c hy) λ h0 h1 h2 h3=>?_
  refine ⟨h0,λ m=>?_,h2,h3⟩
  rcases bB.mp m with m | m
  ·exact h1 m
  ·exact hc y c hy (by simpa using m)
theorem FrI.more {h:aR}(I:FrI F h φ μ ρ)(hL:F.env.locals≠B)(hc:∀ y c,F.env.cells.lookup y=some c->c≠B)(ho:∀ v L,v∈F.fs->v.frame=some L->L≠B):FrI F h (λ a=>φ a∨a=B) μ ρ:=by
 have k:∀ a,φ a->(φ a∨a=B)/\h.get? a=h.get? a:=λ a f=>⟨.inl f,rfl⟩
 have pre:∀ (i:Nat) (a:ah),μ[i]?=some a->μ[i]?=some a:=λ i a e=>e
 refine Eea (I.loc) λ m hn hm=>?_
 refine ⟨I.kind,I.glob,I.blt,I.len,⟨m,hn,λ i y hi=>⟨(hm i y hi).1,(hm i y hi).2.mono k pre⟩⟩,λ i y kk hi hk=>?_,I.uniq,I.Lμ,λ m=>?_,λ y c hy=>?_,I.cinj,I.own,I.outsK λ v L o hv hf h1 h2 h3 _ _=>⟨⟨o,h1,rfl⟩,h2,λ m=>m.elim h3 (ho v L hv hf)⟩⟩
 ·(refine Ea (I.cell i y kk hi hk) λ h1 Aw=>?_;refine Eeeaaa Aw λ c v Ah Ap BU BO=>?_)
  exact ⟨h1,c,v,Ah,Ap,BU.mono k pre,BO⟩
 ·rcases m with m | m
  ·exact I.Lφ m
  ·exact hL m
 ·refine Z0 (I.cμ y c hy) λ h0 h1 h2 h3=>?_
  refine ⟨h0,h1,λ m=>?_,h3⟩
  rcases m with m | m
  ·exact h2 m
  ·exact hc y c hy m
theorem Go.adopt {mo:MO}(G:Go C T F s φ μ sM sV sR s0 s4)(hf:s.heap.get? B=none)(nm:B∉sR)(nf:¬ sV B)(hB:sM.heap.get? B=some o)(hL:F.env.locals≠B)(hc:∀ y c,F.env.cells.lookup y=some c->c≠B)(I6:∀ v L,v∈F.fs->v.frame=some L->L≠B)
  (Fq:qF T C.prog C.w sM.heap sV (sR++[B]) B mo):Go C T F s φ μ sM sV (sR++[B]) s0 (s4++[mo])/\(sR++[B])[s4.length]?=some B:=by
 refine Ea (G.rel.adopt nm nf hB Fq) λ R' g=>?_
 exact ⟨⟨G.st,R',G.fr.adopt hL hc I6,G.ext.adopt hf⟩,g⟩
theorem Go.more (G:Go C T F s φ μ sM sV sR s0 s4)(hf:s.heap.get? B=none)(nm:B∉sR)(hB:sM.heap.get? B=some o)(hL:F.env.locals≠B)(hc:∀ y c,F.env.cells.lookup y=some c->c≠B)(ho:∀ v L,v∈F.fs->v.frame=some L->L≠B) :
  Go C T F s φ μ sM (λ a=>sV a∨a=B) sR s0 s4:=⟨G.st,G.rel.more hB nm,G.fr.more hL hc ho,G.ext.more hf⟩
inductive KV (h:aR)(φ:ah->Prop)(μ:List ah):List (af×af)->List aN->List D->Prop
 | nil:KV h φ μ [] [] []
 | cons {x:aN} {t:iv} {v:af} {d:D} {kvs:List (af×af)} {ks:List aN} {ds:List D}:VD h φ μ v d->KV h φ μ kvs ks ds->KV h φ μ ((.str x t,v)::kvs) (x::ks) (d::ds)
theorem KV.mono {h:aR}{ks:List aN}(k:∀ a,φ a->j' a/\h'.get? a=h.get? a)(m:∀ (i:Nat) (a:ah),μ[i]?=some a->sJ[i]?=some a)(x:KV h φ μ kvs ks ds):KV h' j' sJ kvs ks ds:=by
 induction x with
 | nil=>exact .nil
 | cons p _ ih=>exact .cons (p.mono k m) ih
noncomputable def y5:List (af×af)->List (aN×af)
 | (.str x _,v)::r=>(x,v)::y5 r
 | _::r=>y5 r
 | []=>[]
theorem KV.carries {h:aR}{ks:List aN}(x:KV h φ μ kvs ks ds):Carries (iX prog w) kvs (y5 kvs):=by
 induction x with
 | nil=>trivial
 | cons p _ ih=>exact ⟨strKind_is _ _ _ _,rfl,ih⟩
theorem KV.keys {h:aR}{ks:List aN}(x:KV h φ μ kvs ks ds):(y5 kvs).map (·.1)=ks:=by
 induction x with
 | nil=>rfl
 | cons p _ ih=>simp [y5,ih]
theorem KV.res {h:aR}{ks:List aN}(x:KV h φ μ kvs ks ds):∀ {ns:List Nat},ns.map (T.names[·]?)=ks.map some->REs T h φ μ (y5 kvs) (ns.zip ds):=by
 induction x with
 | nil=>intro ns h;cases ns with | nil=>exact .nil | cons _ _=>simp at h
 | cons p _ ih =>
  intro ns h
  cases ns with
  | nil=>simp at h
  | cons n ns =>
   simp only [aY,pk] at h
   exact .cons h.1 p (ih h.2)
noncomputable def DPs (C:Cx)(T:Tabs)(F:Fm)(A:aM)(t:kI (List (af×af)))(ks:List aN)(ρ:Rho)(σ:zA)(Q:List D->zA->Prop):Prop :=
 ∀ (s:ao) (φ:ah->Prop) (μ:List ah),Rel C T s.heap φ μ σ->FrI F s.heap φ μ ρ->wpAny (model C.prog C.w) A t (λ kvs s'=>∃ j' sJ ds σ',Go C T F s φ μ s' j' sJ ρ σ'/\KV s'.heap j' sJ kvs ks ds/\Q ds σ') NoE s
theorem zCx {Q:List D->zA->Prop}(q:Q [] σ):DPs C T F A (evalPairs (pairTrees [] [] F.env pos)) [] ρ σ Q:=λ s φ μ R I =>
 pairTrees_nil_walk ⟨φ,μ,[],σ,Go.refl R I,.nil,q⟩
theorem VF {x:aN}{k:Nat}{p:dD}{v:aL}{ks:List (Option aL)}{vs:List aL}{xs:List aN}{pos:dD}{W:D->zA->Prop}{Q:List D->zA->Prop}(hv:DX C T F A (eval v F.env) ρ σ W)
  (hr:∀ d σ',W d σ'->DPs C T F A (evalPairs (pairTrees ks vs F.env pos)) xs ρ σ' λ ds sK=>Q (d::ds) sK) :
  DPs C T F A (evalPairs (pairTrees (some (.Constant (.str x) k p)::ks) (v::vs) F.env pos)) (x::xs) ρ σ Q:=λ s φ μ R I=>by
 refine pairTrees_cons_walk (fc ?_)
 have G0:Go C T F s φ μ {s with toks:=s.toks + 1} φ μ ρ σ:=(Go.refl R I).tok _
 refine hv.seq G0.rel G0.fr λ s' j' sJ u d σ' G V q=>?_
 refine ay (hr d σ' q s' j' sJ G.rel G.fr) (λ kvs tz hh=>Eeeeeaa hh λ tx tD ds sY x8 K Bq=>?_) λ _ _ e=>e
 exact ⟨tx,tD,d::ds,sY,(G0.trans G).trans x8,.cons (x8.ext.vd V) K,Bq⟩
theorem zDr {keys:List (Option aL)}{values:List aL}{pos:dD}{ks:List aN}{ns:List Nat}{Q:D->zA->Prop}{W:List D->zA->Prop}(Y:C.Good)(h0:keys≠[])(B5:keys.all (·.isSome)=true)(hl:keys.length=values.length)(hlen:keys.length<=15)
  (nd:ks.Nodup) (hn:ns.map (T.names[·]?)=ks.map some) (hp:DPs C T F A (evalPairs (pairTrees keys values F.env pos)) ks ρ σ W) (hW:∀ ds σ',W ds σ'->Q (.obj σ'.length) (σ'++[.rdict (ns.zip ds)])) :
  DX C T F A (eval (.Dict keys values pos) F.env) ρ σ Q:=by
 intro s φ μ R I
 refine wpAny_Dict_walk (knd:=iX C.prog C.w) B5 hl h0 hlen ?_
 have G0:=Go.push R I {cls:=.type "dict",data:=.dict #[]}
 have hD:=zj s.heap
 refine ay (hp _ _ _ G0.rel G0.fr) (λ kvs sM hh=>Eeeeeaa hh λ sV sR ds s4 CZ K q=>?_) λ _ _ e=>e
 have e0:(s.heap.push {cls:=.type "dict",data:=.dict #[]}).get? s.heap.objs.size=some {cls:=.type "dict",data:=.dict #[]}:=aI _ rfl
 have Ga:s.heap.objs.size∉μ:=R.notin_none hD
 have KQ:¬ φ s.heap.objs.size:=R.notfrz_none hD
 have nm:s.heap.objs.size∉sR:=CZ.ext.notin e0 Ga
 have nf:¬ sV s.heap.objs.size:=CZ.ext.notfrz e0 Ga KQ
 have e1:sM.heap.get? s.heap.objs.size=some {cls:=.type "dict",data:=.dict #[]}:=(CZ.ext.oth _ _ e0 Ga (I.ne_own hD)).exact (I.ne_fr hD)
 have G:=G0.trans CZ
 refine ⟨y5 kvs,K.carries,?_,λ h' hm hs=>?_⟩
 ·refine Eeeea (pj (knd:=iX C.prog C.w) s.heap) λ o es ep ho r=>?_
  rw [e0] at ho;(injection ho with y4y0;subst y4y0)
  exact ⟨_,es,ep,e1,r⟩
 ·rw [merged_nil_of_nodup _ (by erw [K.keys];exact nd)] at hm
  obtain ⟨o,ho⟩:∃ o,h'.get? s.heap.objs.size=some o:=by (refine Eeeea (hm) λ o' _ _ e _=>?_;try clear hm);exact ⟨o',e⟩
  have G2:=Go.but (tk:=sM.toks + kvs.length) I G hD nm nf hs ho
  refine Ea (G.rel.but nm nf hs ho) λ R3 X3=>?_
  have D7:eg<s.heap.objs.size:=m4 (Y.lim.keeps R.keep)
  have pre:∀ (i:Nat) (a:ah),sR[i]?=some a->(sR++[s.heap.objs.size])[i]?=some a:=λ i a e=>by
   erw [aB (av.mp e).1];exact e
  refine Ea (Go.adopt (mo:=.rdict (ns.zip ds)) G2 hD nm nf ho (I.ne_locals hD) (λ y c hc=>I.ne_cells hD hc) (λ v L hv hl=>I.ne_out hD hv hl) ⟨by simpa using bv D7,y5 kvs,hm,(K.mono X3.frz pre).res hn⟩) λ G3 g=>?_
  exact pvI G3 (.obj g) (hW _ _ q)
theorem xj {Q:D->zA->Prop}(Y:C.Good)(Fq:mo=.idict []∨mo=.tdict [])(q:Q (.obj σ.length) (σ++[mo])):DX C T F A (eval (.Dict [] [] pos) F.env) ρ σ Q:=by
 intro s φ μ R I
 refine wpAny_Dict_empty ?_
 have D7:eg<s.heap.objs.size:=m4 (Y.lim.keeps R.keep)
 have tq:(s.heap.objs.size==eg)=false:=by simpa using bv D7
 obtain ⟨R',X,g⟩:=R.pushM {cls:=.type "dict",data:=.dict #[]} mo rfl λ h' e k=>by
  rcases Fq with rfl | rfl
  ·refine ⟨tq,[],⟨_,#[],0,e,⟨rfl,rfl,rfl⟩,rfl,λ _ he=>by simp at he,Pairs.nil,f9⟩,.nil⟩
  ·exact ⟨tq,[],⟨_,#[],0,e,⟨rfl,rfl,rfl⟩,rfl,by simp,by simp⟩,.nil⟩
 exact pvI (Go.of_ext (tk:=s.toks) I R' X) (.obj g) q
end
set_option tactic.hygienic true
structure ClsOk (C:Cx)(T:Tabs)(a:ah):Prop where
 ga:findIn C.K (.ref a) "__getattribute__"=some (some (.builtin "object.__getattribute__"))
 gt:findIn C.K (.ref a) "__getattr__"=some none
 sa:findIn C.K (.ref a) "__setattr__"=some (some (.builtin "object.__setattr__"))
 over:l3 C.K a=true
 dict:l4 C.K a=true
 plain:∀ (k:Nat) (x:aN),T.names[k]?=some x->zY a k T.meth=none->findIn C.K (.ref a) x=some none
 meth:∀ (k:Nat) (x:aN) (f:ah),T.names[k]?=some x->zY a k T.meth=some f->findIn C.K (.ref a) x=some (some (.ref f))/\typeIn C.K (.ref f)=some (.type "function")/\keepIn C.K (.ref f)=true
structure TOk (C:Cx)(T:Tabs):Prop where
 nd:T.names.Nodup
 cls:∀ a,a∈T.classes->ClsOk C T a
 glob:∀ (g:Nat) (x:aN) (d:D),T.glob[g]?=some (x,d)->jy C x d
 n0:T.names[zBe]?=some "append"
 n1:T.names[zGv]?=some "get"
 n2:T.names[xE]?=some "setdefault"
 n3:T.names[zFf]?=some "sort"
 n4:T.names[zBC]?=some "extend"
 n5:T.names[zEV]?=some "count"
section
variable {C:Cx}{T:Tabs}{F:Fm}{s s' sM:ao}{φ j' sV:ah->Prop}{μ sJ sR:List ah}{ρ sL s0:Rho}{σ σ' s4:zA}{A:aM}{n:Nat}{B:ah}
theorem ww {h:aR}{ds:List dS}(t:SEs T P h φ μ ds fs):ds.any (·.refKey)=false:=by
 induction t with
 | nil=>rfl
 | cons _ _ _ ih=>simp only [eO,ih,Bool.or_false];rfl
theorem Jb (hN:T.names.Nodup){h:aR}{ds:List dS}(t:SEs T P h φ μ ds fs)(hx:T.names[k]?=some x) :
  (∃ d v,look k fs=some d/\getL x ds=some (some v)/\VD h φ μ v d)∨(look k fs=none/\getL x ds=some none):=by
 have key:(∃ d e,look k fs=some d/\ds.find? (·.key.isStr x)=some e/\VD h φ μ e.val d)∨(look k fs=none/\ds.find? (·.key.isStr x)=none):=by
  induction t with
  | nil=>exact .inr ⟨rfl,rfl⟩
  | cons hk w t' ih =>
   rename_i k' x' tk v d r es
   by_cases q:k'=k
   ·subst q
    rw [hk] at hx;(injection hx with y1y0;subst y1y0)
    exact .inl ⟨d,_,XB,List.find?_cons_of_pos (by simp [kP]),w⟩
   ·have Ei:x'≠x:=λ e=>q (QT hN (e▸hk) hx)
    have e2:(oZ x' tk).isStr x=false:=by simp [kP,Ei]
    (erw [XH q];erw [bX];erw [e2])
    exact ih
 have nr:=ww t
 unfold getL
 rcases key with ⟨d,e,h0,h1,h2⟩ | ⟨h0,h1⟩
 ·erw [h1];exact .inl ⟨d,_,h0,rfl,h2⟩
 ·(erw [h1];erw [nr]);exact .inr ⟨h0,rfl⟩
theorem wG {h:aR}{ds:List dS}(t:SEs T P h φ μ ds fs):ds.length=fs.length:=by
 induction t with
 | nil=>rfl
 | cons _ _ _ ih=>simp [ih]
theorem zA0 {h:aR}{ds:List dS}(k:∀ a,φ a->j' a/\h'.get? a=h.get? a)(m:∀ (i:Nat) (a:ah),μ[i]?=some a->sJ[i]?=some a)(t:SEs T P h φ μ ds fs):SEs T P h' j' sJ ds fs:=by
 induction t with
 | nil=>exact .nil
 | cons q p _ ih=>exact .cons q (p.mono k m) ih
theorem zCU (hN:T.names.Nodup){h:aR}{ds:List dS}(t:SEs T P h φ μ ds fs){tk:iv}(hx:T.names[k]?=some x)(w:VD h φ μ v d) :
  SEs T P h φ μ (putL x (cP P x) (.str x tk) v ds) (put k d fs):=by
 induction t with
 | nil=>exact .cons hx w .nil
 | cons hk w' t' ih =>
  rename_i k' x' A9 v' d' r es
  by_cases q:k'=k
  ·subst q
   rw [hk] at hx;cases hx
   have e1:bc k' k'=true:=ku k'
   have e2:(oZ x A9).isStr x=true:=by simp [kP]
   simp only [wh,Xr,e1,putL,e2,if_true]
   exact .cons hk w t'
  ·have Ei:x'≠x:=λ e=>q (QT hN (e▸hk) hx)
   have e1:bc k' k=false:=by
    cases h:bc k' k with
    | false=>rfl
    | true=>exact absurd (z8 h) q
   have e2:(oZ x' A9).isStr x=false:=by simp [kP,Ei]
   simp only [wh,Xr,e1,putL,e2,ch,if_false]
   exact .cons hk w' ih
theorem Yp (x:aN)(hs:Int)(key v:af):∀ ds:List dS,(putL x hs key v ds).length<=ds.length + 1
 | []=>by simp [putL]
 | e::r=>by
  simp only [putL]
  split
  ·simp
  ·have:=Yp x hs key v r;simp only [aE];exact dH this
theorem Ya (R:Rel C T s.heap φ μ σ){a K:ah}(ha:μ[i]?=some a)(hi:σ[i]?=some (.inst K j))(hj:σ[j]?=some (.sdict fs)) :
  K∈T.classes/\∃ dx ds n,μ[j]?=some dx/\s.heap.get? dx=some (dictOf ds n)/\SEs T C.w.params s.heap φ μ ds fs/\InstAt s.heap a (instObj K dx) K (some (dictOf ds n)):=by
 (refine Ea (R.at_ i a _ ha hi) λ hc tM=>?_;refine Eea tM λ dx CJ ho=>?_)
 refine Eeea (R.at_ j dx _ CJ hj) λ ds n hd t=>?_
 exact ⟨hc,dx,ds,n,CJ,hd,t,⟨ho,rfl,rfl,hd⟩⟩
theorem zCr {Q:D->zA->Prop}{o:D}{expr:Bool}(Y:C.Good)(TT:TOk C T)(hx:T.names[k]?=some x)(R:Rel C T s.heap φ μ σ)(I:FrI F s.heap φ μ ρ)(V:VD s.heap φ μ v o)
  (h:ja T σ o k λ d=>Q d σ):wpAny (model C.prog C.w) A (getAttr v x expr) (PV C T F s φ μ ρ Q) NoE s:=by
 refine Xb V h λ i a ha h=>?_
 refine Eeeeaa (UJ h) λ K j fs hi hj h=>?_
 refine Ea (Xq h) λ hm h=>?_
 refine Eea (h.h) λ d hl h=>?_
 (refine Ea (Ya R ha hi hj) λ hc Aw=>?_;refine Eeeeaaa Aw λ dx ds nn CJ hd t II=>?_)
 have CK:=TT.cls _ hc
 rcases Jb TT.nd t hx with ⟨d',v,e,g1,g2⟩ | ⟨e,_⟩
 ·rw [hl] at e;(injection e with y3y0;subst y3y0)
  exact get_value (Y.X.keeps R.keep) II CK.ga (findObj_own CK.dict (CK.plain k x hx hm) rfl g1) g2.handed (zh R I g2 h _)
 ·rw [hl] at e;cases e
theorem vR {a K:ah}{f:ah}{pl:kI Bool}{Q:af×List af->ao->Prop}{E:af->ao->Prop}(Y:C.Good)(TT:TOk C T)(hx:T.names[k]?=some x)(R:Rel C T s.heap φ μ σ)(ha:μ[i]?=some a)(hi:σ[i]?=some (.inst K j))(hj:σ[j]?=some (.sdict fs))
  (hl:look k fs=none) (hm:zY K k T.meth=some f) (q:Q (.ref f,[.ref a]) s):wpAny (model C.prog C.w) A (o0 (.ref a) x pl) Q E s:=by
 (refine Ea (Ya R ha hi hj) λ hc Ch=>?_;refine Eeeeaaa Ch λ dx ds nn CJ hd t II=>?_)
 have CK:=TT.cls _ hc
 have X:=Y.X.keeps R.keep
 have g:getL x ds=some none:=by
  rcases Jb TT.nd t hx with ⟨d',v,e,_⟩ | ⟨_,g⟩
  ·rw [hl] at e;cases e
  ·exact g
 refine Eaa (CK.meth k x f hx hm) λ h1 h2 _=>?_
 exact method_fn X II CK.ga CK.gt h1 h2 (by show (lookIn x (dictOf ds nn)).map _=_;(erw [lookIn_dict];erw [g]);rfl) q
end
section
variable {prog:bN}{w:cr}{A:aM}{E:af->ao->Prop}{s:ao}{K:fZ}{x C dx:ah}{es:List dS}{n:Nat}{name:aN}{v:af}
theorem vv {R:ls->ao->Prop}{tk:iv}(X:K.In s.heap)(I:InstAt s.heap x (instObj C dx) C (some (dictOf es n)))(hp:l3 K C=true)
  (ht:takerIn K C name=some none) (hh:l4 K C=true) (hl:(getL name es).isSome=true) (hz:(putL name (cP w.params name) (.str name s.toks) v es).length<=1000)
  (h:∀ h',h'.get? dx=some (dictOf (putL name (cP w.params name) (.str name s.toks) v es) (putN name es n))->cn dx s.heap h'->R (.ok (.ret .none)) {s with heap:=h',toks:=s.toks + 1}) :
  dZ (model prog w) A (.call (.builtin "object.__setattr__") ⟨[.ref x,.str name tk,v],[]⟩) R s:=by
 refine osa_open X I hp ht λ b=>?_
 refine Eea (any_some hh) λ cd hc BD=>?_
 obtain ⟨hx,Ar,hn,D⟩:=I
 refine aa (am (aa (aa (pN hx (aa ((looks_clsIn X hc).here ?_))))))
 erw [BD]
 refine am (a:=some dx) (aa (am (aa ?_)))
 unfold nsSet
 refine aa (aa (dI (am (aa (wpAny_mkText (aa (pN D ?_)))))))
 have c:(!es.toArray.any (·.key.isStr name)&&es.toArray.any (·.refKey))=false:=by
  unfold getL at hl
  (erw [o3];erw [o3])
  split at hl
  ·rename_i en he
   erw [gR.mpr ⟨en,lH he,pi he⟩];rfl
  ·split at hl
   ·cases hl
   ·rename_i z;rw [Bool.not_eq_true] at z;(erw [z];erw [f8];rfl)
 dsimp only
 (erw [aRefKeyMayBeTheName_at];erw [c])
 have up:∀ tk,(rF name (cP w.params name) (.str name tk) v (dictOf es n)).isFreed=false:=λ tk=>by erw [putName_dict];rfl
 have D':=cI (h:=s.heap) (rF name (cP w.params name) (.str name s.toks) v) D (up _)
 have D6:=D'
 rw [putName_dict] at D6
 refine wpAny_updatePart D ?_
 refine aa (wpAny_lookBehind D6 (pastItsLine_dict (by (erw [aK];erw [cA]);exact ae hz (nB9 rfl))) ?_)
 exact am (h _ D6 (cu ..))
theorem vn {Q:Unit->ao->Prop}(X:K.In s.heap)(I:InstAt s.heap x (instObj C dx) C (some (dictOf es n)))(hs:findIn K (.ref C) "__setattr__"=some (some (.builtin "object.__setattr__")))(hp:l3 K C=true)
  (ht:takerIn K C name=some none) (hh:l4 K C=true) (hl:(getL name es).isSome=true) (hz:(putL name (cP w.params name) (.str name (s.toks + 1)) v es).length<=1000)
  (h:∀ h',h'.get? dx=some (dictOf (putL name (cP w.params name) (.str name (s.toks + 1)) v es) (putN name es n))->cn dx s.heap h'->Q () {s with heap:=h',toks:=s.toks + 2}) :
  wpAny (model prog w) A (setAttr (.ref x) name v) Q E s :=
 set_plain X I hs (vv (s:={s with toks:=s.toks + 1}) X I hp ht hh hl hz λ h' a b=>h h' a b)
end
section
variable {C:Cx}{T:Tabs}{F:Fm}{s s' sM:ao}{φ j' sV:ah->Prop}{μ sJ sR:List ah}{ρ sL s0:Rho}{σ σ' s4:zA}{A:aM}{n:Nat}{B:ah}
theorem j2 {Q:Unit->ao->Prop}{v:af}{d:D}{a K:ah}(Y:C.Good)(TT:TOk C T)(hx:T.names[k]?=some x)(R:Rel C T s.heap φ μ σ)(ha:μ[i]?=some a)(hi:σ[i]?=some (.inst K j))(hj:σ[j]?=some (.sdict fs))
  (V:VD s.heap φ μ v d) (hm:zY K k T.meth=none) (hf:Lt64 fs.length)
  (q:∀ h' tk,Rel C T h' φ μ (σ.set j (.sdict (put k d fs)))->Ext s.heap φ μ h' φ μ []->Q () {s with heap:=h',toks:=tk}):wpAny (model C.prog C.w) A (setAttr (.ref a) x v) Q NoE s:=by
 (refine Ea (Ya R ha hi hj) λ hc DC=>?_;refine Eeeeaaa DC λ dx ds nn CJ hd t II=>?_)
 have CK:=TT.cls _ hc
 have X:=Y.X.keeps R.keep
 have g:=Jb TT.nd t hx
 have hl:=wG t
 refine vn X II CK.sa CK.over (by unfold takerIn;erw [CK.plain k x hx hm];rfl) CK.dict ?_ ?_ λ h' ho hs=>?_
 ·rcases g with ⟨_,v,_,g,_⟩ | ⟨_,g⟩
  ·erw [g];rfl
  ·erw [g];rfl
 ·have:=Yp x (cP C.w.params x) (.str x (s.toks + 1)) v ds
  have:=hf.h
  lia
 ·refine Ea (R.upd (mo':=.sdict (put k d fs)) CJ hj (λ h=>nomatch h) hs ⟨_,ho⟩ λ kk=>⟨_,_,ho,zA0 kk (λ _ _ e=>e) (zCU TT.nd t hx V)⟩) λ R' X'=>?_
  exact q h' _ R' X'
end
set_option tactic.hygienic false
mutual
noncomputable def clD (k:Nat):D->Bool
 | .p _=>true
 | .obj i=>decide (i<k)
 | .fn _=>true
 | .bi _=>true
 | .tup ds=>clDs k ds
 | .rng _ _=>true
 | .zp d e _ _=>clD k d&&clD k e
noncomputable def clDs (k:Nat):List D->Bool
 | []=>true
 | d::ds=>clD k d&&clDs k ds
end
noncomputable def clM (k:Nat)(zz:MO):Bool:=@MO.casesOn (λ _=>Bool) zz (λ _=>true) (λ es=>es.all λ e=>clD k e.2) (λ es=>es.all λ e=>clD k e.2) (λ es=>es.all λ e=>clD k e.2) (λ es=>es.all λ e=>clD k e.2) (λ _ j=>decide (j<k)) true (λ _=>true)
theorem zU {a:Bool}(h:(a&&b)=true):a=true/\b=true:=(bt a b).mp h
theorem yC {a:Bool}(h:a=true)(k:b=true):(a&&b)=true:=(bt a b).mpr ⟨h,k⟩
mutual
theorem Q7 (h:k<=k'):∀ (d:D),clD k d=true->clD k' d=true
 | .p _,_=>rfl
 | .obj i,e=>decide_eq_true (cw (of_decide_eq_true e) h)
 | .fn _,_=>rfl
 | .bi _,_=>rfl
 | .tup ds,e=>clDs_mono h ds e
 | .rng _ _,_=>rfl
 | .zp d e _ _,x=>yC (Q7 h d (zU x).1) (Q7 h e (zU x).2)
theorem clDs_mono (h:k<=k'):∀ (ds:List D),clDs k ds=true->clDs k' ds=true
 | [],_=>rfl
 | d::ds,x=>yC (Q7 h d (zU x).1) (clDs_mono h ds (zU x).2)
end
theorem qm {α:Type}(h:k<=k'){es:List (α×D)}(e:(es.all λ e=>clD k e.2)=true):(es.all λ e=>clD k' e.2)=true:=by
 rw [bR] at e ⊢
 exact λ x hx=>Q7 h _ (e x hx)
theorem uj (h:k<=k')(mo:MO)(e:clM k mo=true):clM k' mo=true:=by
 cases mo with
 | lst _=>rfl
 | dead=>rfl
 | iset _=>rfl
 | inst _ j=>exact decide_eq_true (cw (of_decide_eq_true e) h)
 | idict es=>exact qm h e
 | rdict es=>exact qm h e
 | sdict es=>exact qm h e
 | tdict es=>exact qm h e
theorem Y9 {a:ah}(h:i<k)(e:μ[i]?=some a):(μ.take k)[i]?=some a:=by
 erw [dA h];exact e
theorem qM {α:Type}{μ:List α}{a:α}(e:(μ.take k)[i]?=some a):i<k/\μ[i]?=some a:=by
 rw [List.getElem?_take] at e
 split at e
 ·rename_i h;exact ⟨h,e⟩
 ·cases e
section
variable {C:Cx}{T:Tabs}{h h':aR}{φ j':ah->Prop}{μ sJ:List ah}{σ σ' sK:zA}
mutual
theorem VD.cut' :∀ (d:D) {v:af},VD h φ μ v d->clD k d=true->VD h φ (μ.take k) v d
 | .p _,_,V,_=>.p V.ip
 | .obj _,_,V,c=>by refine V.mobj λ a m=>?_;exact .obj (Y9 (of_decide_eq_true c) m)
 | .fn a,_,V,_=>by cases V.ifn;exact .fn a
 | .bi b,_,V,_=>by cases V.ibi;exact .bi b
 | .tup ds,_,V,c=>by refine V.mtup λ a vs f t r=>?_;exact .tup f t (VDs.cut' ds r c)
 | .rng _ _,_,V,_=>by refine V.mrng λ a t u w f r=>?_;exact .rng f r
 | .zp _ _ _ _,_,V,_=>V.izp
theorem VDs.cut' :∀ (ds:List D) {vs:List af},VDs h φ μ vs ds->clDs k ds=true->VDs h φ (μ.take k) vs ds
 | [],_,V,_=>by cases V.inil;exact .nil
 | d::ds,_,V,c=>by refine V.mcons λ v w p r=>?_;exact .cons (VD.cut' d p (zU c).1) (VDs.cut' ds r (zU c).2)
end
theorem VD.cut (V:VD h φ μ v d)(c:clD k d=true):VD h φ (μ.take k) v d:=VD.cut' d V c
mutual
theorem VD.closed':∀ (d:D) {v:af},VD h φ μ v d->clD μ.length d=true
 | .p _,_,_=>rfl
 | .obj _,_,V=>by refine Eea (V.iobj) λ a _ m=>?_;exact decide_eq_true (av.mp m).1
 | .fn _,_,_=>rfl
 | .bi _,_,_=>rfl
 | .tup ds,_,V=>by refine Eeeaaa (V.itup) λ a vs _ f t r=>?_;exact VDs.closed' ds r
 | .rng _ _,_,_=>rfl
 | .zp _ _ _ _,_,V=>V.izp
theorem VDs.closed':∀ (ds:List D) {vs:List af},VDs h φ μ vs ds->clDs μ.length ds=true
 | [],_,_=>rfl
 | d::ds,_,V=>by refine Eeeaa (V.icons) λ v w _ p r=>?_;exact yC (VD.closed' d p) (VDs.closed' ds r)
end
theorem VD.closed (V:VD h φ μ v d):clD μ.length d=true:=VD.closed' d V
theorem zEg {a:ah}(x:qF T prog w h φ μ a mo)(c:clM k mo=true):qF T prog w h φ (μ.take k) a mo:=by
 cases mo with
 | dead=>trivial
 | lst xs=>exact x
 | iset _=>exact x
 | inst K j=>(refine Ea (x) λ hc tM=>?_;try clear x;refine Eea tM λ d h1 h2=>?_);exact ⟨hc,d,Y9 (of_decide_eq_true c) h1,h2⟩
 | idict es =>
  obtain ⟨hs,kvs,r,q⟩:=x
  refine ⟨hs,kvs,r,?_⟩
  clear r
  change (es.all λ e=>clD k e.2)=true at c
  induction q with
  | nil=>exact .nil
  | cons p _ ih=>have c:=zU c;exact .cons (p.cut c.1) (ih c.2)
 | rdict es =>
  obtain ⟨hs,kvs,r,q⟩:=x
  refine ⟨hs,kvs,r,?_⟩
  clear r
  change (es.all λ e=>clD k e.2)=true at c
  induction q with
  | nil=>exact .nil
  | cons q p _ ih=>have c:=zU c;exact .cons q (p.cut c.1) (ih c.2)
 | sdict es =>
  (refine Eeea (x) λ ds n ho r=>?_;try clear x)
  refine ⟨ds,n,ho,?_⟩
  clear ho
  change (es.all λ e=>clD k e.2)=true at c
  induction r with
  | nil=>exact .nil
  | cons q p _ ih=>have c:=zU c;exact .cons q (p.cut c.1) (ih c.2)
 | tdict es =>
  obtain ⟨hs,xs,r,q⟩:=x
  refine ⟨hs,xs,r,?_⟩
  clear r
  change (es.all λ e=>clD k e.2)=true at c
  induction q with
  | nil=>exact .nil
  | cons p hk hd v _ ih=>have c:=zU c;exact .cons p hk hd (v.cut c.1) (ih c.2)
theorem Wc {a:ah}(x:qF T prog w h φ μ a mo):clM μ.length mo=true:=by
 cases mo with
 | dead=>rfl
 | lst xs=>rfl
 | iset _=>rfl
 | inst K j=>(refine Ea (x) λ hc DC=>?_;try clear x;refine Eea DC λ d h1 h2=>?_);exact decide_eq_true (av.mp h1).1
 | idict es =>
  obtain ⟨hs,kvs,r,q⟩:=x
  clear r
  show es.all _=true
  induction q with
  | nil=>rfl
  | cons p _ ih=>exact yC p.closed ih
 | rdict es =>
  obtain ⟨hs,kvs,r,q⟩:=x
  clear r
  show es.all _=true
  induction q with
  | nil=>rfl
  | cons _ p _ ih=>exact yC p.closed ih
 | sdict es =>
  (refine Eeea (x) λ ds n ho r=>?_;try clear x)
  clear ho
  show es.all _=true
  induction r with
  | nil=>rfl
  | cons _ p _ ih=>exact yC p.closed ih
 | tdict es =>
  obtain ⟨hs,xs,r,q⟩:=x
  clear r
  show es.all _=true
  induction q with
  | nil=>rfl
  | cons p hk hd v _ ih=>exact yC v.closed ih
theorem Rel.cut (R:Rel C T h φ μ σ)(hk:∀ (i:Nat) (mo:MO),i<k->σ[i]?=some mo->clM k mo=true):Rel C T h φ (μ.take k) (σ.take k):=by
 refine ⟨R.keep,R.base,R.frz,by (erw [gI];erw [gI];erw [R.len];rfl),λ i j a ei ej=>R.nodup i j a (qM ei).2 (qM ej).2,λ i a e=>R.lt i a (qM e).2,λ i a e f=>?_,λ i a mo e e'=>?_⟩
 ·refine Ea (qM e) λ h1 h2=>?_
  erw [dA h1];exact R.apart i a h2 f
 ·refine Ea (qM e) λ h1 h2=>?_
  refine Ea (qM e') λ _ h3=>?_
  exact zEg (R.at_ i a mo h2 h3) (hk i mo h1 h3)
theorem Ext.cut (X:Ext h φ μ h' j' sJ wr fr)(hk:μ.length<=k):Ext h φ μ h' j' (sJ.take k) wr fr :=
 ⟨X.frz,X.new,λ i a e=>Y9 (cw (av.mp e).1 hk) (X.pre i a e),λ i a e=>X.fresh i a (qM e).2,X.ex,X.oth⟩
inductive Kp (σ σ':zA):zA->D->Prop
 | all {d:D}:Kp σ σ' σ' d
 | cut {d:D} (k:Nat):σ.length<=k->clD k d=true->(∀ (i:Nat) (mo:MO),i<k->σ'[i]?=some mo->σ[i]?=some mo∨clM k mo=true)->Kp σ σ' (σ'.take k) d
theorem Rel.closed (R:Rel C T h φ μ σ)(e:σ[i]?=some mo):clM σ.length mo=true:=by
 have hl:i<μ.length:=by erw [R.len];exact (av.mp e).1
 refine rwS R.len ?_
 exact Wc (R.at_ i _ mo (aw hl) e)
theorem Kp.go (K:Kp σ σ' sK d)(Fp:Rel C T h φ μ σ)(R:Rel C T h' j' sJ σ')(X:Ext h φ μ h' j' sJ wr fr)(V:VD h' j' sJ v d) :
  ∃ s7,Rel C T h' j' s7 sK/\Ext h φ μ h' j' s7 wr fr/\VD h' j' s7 v d:=by
 cases K with
 | all=>exact ⟨sJ,R,X,V⟩
 | cut k hk hd hm =>
  refine ⟨sJ.take k,R.cut λ i mo hi e=>?_,X.cut (by erw [Fp.len];exact hk),V.cut hd⟩
  rcases hm i mo hi e with q | q
  ·exact uj hk _ (Fp.closed q)
  ·exact q
end
inductive FlI (h:aR)(φ:ah->Prop)(μ:List ah):Flow->Fl->Prop
 | next:FlI h φ μ .next .next
 | cont:FlI h φ μ .cont .cont
 | ret {v:af} {d:D}:VD h φ μ v d->FlI h φ μ (.ret v) (.ret d)
def PS (C:Cx)(T:Tabs)(F:Fm)(s:ao)(φ:ah->Prop)(μ:List ah)(Q:Fl->Rho->zA->Prop):Flow->ao->Prop:=λ fl s' =>
 ∃ j' sJ f sL σ',Go C T F s φ μ s' j' sJ sL σ'/\FlI s'.heap j' sJ fl f/\Q f sL σ'
theorem psI {fl:Flow}{f:Fl}{Q:Fl->Rho->zA->Prop}(G:Go C T F s φ μ s' j' sJ sL σ')(V:FlI s'.heap j' sJ fl f)(q:Q f sL σ'):PS C T F s φ μ Q fl s':=⟨j',sJ,f,sL,σ',G,V,q⟩
theorem ptI (G:Go C T F s φ μ s' j' sJ sL σ')(q:Q sL σ'):∃ j' sJ sL σ',Go C T F s φ μ s' j' sJ sL σ'/\Q sL σ':=⟨j',sJ,sL,σ',G,q⟩
noncomputable def DS (C:Cx)(T:Tabs)(F:Fm)(A:aM)(t:kI Flow)(ρ:Rho)(σ:zA)(Q:Fl->Rho->zA->Prop):Prop :=
 ∀ (s:ao) (φ:ah->Prop) (μ:List ah),Rel C T s.heap φ μ σ->FrI F s.heap φ μ ρ->wpAny (model C.prog C.w) A t (PS C T F s φ μ Q) NoE s
noncomputable def uS (zz:Fl):Option D:=@Fl.casesOn (λ _=>Option D) zz (some (.p .none)) none (λ d=>some d)
def ZR (σ:zA)(Q:D->zA->Prop)(fl:Fl)(σ':zA):Prop:=∃ d sK,uS fl=some d/\Kp σ σ' sK d/\Q d sK
structure FnOk (C:Cx)(f:ah)(fd:dK)(ps:List aN)(ks:List (aN×aW))(body:List fw):Prop where
 at_:∃ oc od sl,C.K.lookup f=some ⟨oc,od,.func fd,sl⟩
 code:pO C.K fd.code fd.qualname=true
 body:fd.body=.stmts body
 bind:∀ vals:List af,vals.length=ps.length->m5 fd ⟨vals,[]⟩=pure (ps.zip vals)
 clo:fd.closure=[]
 glob:fd.globals=cv
 blt:fd.builtins=fH
 co:fd.scope.isCoroutine=false
 gen:fd.scope.isGenerator=false
 kind:fd.scope.kind=.function
 nd:(ks.map (·.1)).Nodup
 pre:(ks.map (·.1)).take ps.length=ps
 kinds:∀ x k,(x,k)∈ks->(k=.local∨k=.cell)/\fd.scope.names.lookup x=some k
 cells:∀ x L,(x,lQ)∈ks->((iP L fd.scope.names []).lookup x).isSome=true
theorem WK (hy:kindOf y=some .local):∀ (binds:List (aN×af)) (m:aN->Option af),(binds.map (·.1)).Nodup->bindL kindOf binds m y=match binds.lookup y with | some v=>some v | none=>m y:=by
 intro binds
 induction binds with
 | nil =>
  intro m _
  exact rfl
 | cons Fj r ih =>
  intro m nd
  obtain ⟨n,v⟩:=Fj
  rw [aY,cG] at nd
  (rewrite [bindL];erw [ih _ nd.2];erw [cC])
  by_cases q:y=n
  ·subst q
   have:r.lookup y=none:=by
    cases e:r.lookup y with
    | none=>rfl
    | some w=>exact absurd (aU.mpr ⟨_,mem_of_lookup e,rfl⟩) nd.1
   simp [this,hy]
  ·have:(y==n)=false:=by simpa using q
   erw [this]
   cases r.lookup y with
   | some w=>rfl
   | none=>simp only;split <;> simp [q]
theorem WT (hy:kindOf y≠some .local):∀ (binds:List (aN×af)) (m:aN->Option af),(binds.map (·.1)).Nodup->bindC kindOf binds m y=match binds.lookup y with | some v=>some v | none=>m y:=by
 intro binds
 induction binds with
 | nil =>
  intro m _
  exact rfl
 | cons Fj r ih =>
  intro m nd
  obtain ⟨n,v⟩:=Fj
  rw [aY,cG] at nd
  (rewrite [bindC];erw [ih _ nd.2];erw [cC])
  by_cases q:y=n
  ·subst q
   have:r.lookup y=none:=by
    cases e:r.lookup y with
    | none=>rfl
    | some w=>exact absurd (aU.mpr ⟨_,mem_of_lookup e,rfl⟩) nd.1
   simp [this,hy]
  ·have:(y==n)=false:=by simpa using q
   erw [this]
   cases r.lookup y with
   | some w=>rfl
   | none=>simp only;split <;> simp [q]
theorem ql:∀ {ps:List aN} {vals:List af} {i:Nat} {x:aN},ps.Nodup->ps.length=vals.length->ps[i]?=some x->(ps.zip vals).lookup x=vals[i]?
 | [],_,i,x,_,_,e=>by simp at e
 | p::ps,[],_,_,_,hl,_=>by simp at hl
 | p::ps,v::vals,0,x,_,_,e=>by simp at e;subst e;simp
 | p::ps,v::vals,i + 1,x,nd,hl,e=>by
  rw [cG] at nd
  have e':ps[i]?=some x:=by simpa using e
  have:(x==p)=false:=by
   rw [beq_eq_false_iff_ne];rintro rfl;exact nd.1 (aS.mpr ⟨i,e'⟩)
  (erw [nT];erw [cC];erw [this])
  simpa using ql (vals:=vals) nd.2 (by simpa using hl) e'
theorem jr {vals:List af}(h:x∉ps):(ps.zip vals).lookup x=none:=by
 cases e:(ps.zip vals).lookup x with
 | none=>rfl
 | some w=>exact absurd (k9 (mem_of_lookup e)).1 h
theorem zBh {h:aR}(V:VDs h φ μ vs ds):∀ {i:Nat} {v:af} {d:D},vs[i]?=some v->ds[i]?=some d->VD h φ μ v d:=by
 induction ds generalizing vs with
 | nil=>intro i v d _ e;simp at e
 | cons d' ds ih =>
  cases V with
  | cons p r =>
   intro i v d e e'
   cases i with
   | zero=>simp at e e';subst e e';exact p
   | succ i=>exact ih r (by simpa using e) (by simpa using e')
noncomputable def Qg (ds:List D)(n:Nat):Rho:=ds.map some++bD (n - ds.length) none
theorem J8 {h:aR}{vals:List af}(nd:(ks.map (·.1)).Nodup)(pre:(ks.map (·.1)).take ps.length=ps)(V:VDs h φ μ vals ds)(hl:vals.length=ps.length)
  {i:Nat} {x:aN} {k:aW} (e:ks[i]?=some (x,k)):OptV h φ μ (match (ps.zip vals).lookup x with | some v=>some v | none=>none) (Qg ds ks.length)[i]?:=by
 have hlen:=Zo V
 have hx:(ks.map (·.1))[i]?=some x:=by (erw [a6];erw [e]);rfl
 have E1:i<ks.length:=(av.mp e).1
 have ED:ps.Nodup:=by refine rwS pre ?_;exact nd.sublist (gp _ _)
 unfold Qg
 by_cases hi:i<ps.length
 ·have hp:ps[i]?=some x:=by (refine rwS pre ?_;erw [dA hi]);exact hx
  have Gr:i<vals.length:=nU hi hl.symm
  have Bb:i<ds.length:=by exact lin [_,_,_] [] (.a (.v 0) (.k 1)) (.v 1) [(1,.e (.v 2) (.v 1)),(1,.l (.a (.v 0) (.k 1)) (.v 2))] tT9 hlen Gr
  (erw [ql ED hl.symm hp];erw [aB (by refine rwE (aj ..) ?_;exact Bb)];erw [a6])
  (erw [aw Gr];erw [aw Bb])
  exact .is (zBh V (aw Gr) (aw Bb))
 ·have KP:x∉ps:=by
   intro hm
   refine Ee (aS.mp hm) λ j hj=>?_
   have FP:=(av.mp hj).1
   have Eb:(ks.map (·.1))[j]?=some x:=by
    rw [<- pre,dA FP] at hj;exact hj
   have:=(gB (by erw [aj];exact E1) nd).mp (hx.trans Eb.symm)
   exact liF [_,_,_] [] [(1,.l (.v 0) (.v 1)),(1,.l (.a (.v 2) (.k 1)) (.v 0)),(1,.e (.v 1) (.v 2))] tT9 (bk hi) FP this
  have DT:ds.length<=i:=by refine rwS hlen ?_;erw [hl];exact bk hi
  (erw [jr KP];erw [cj (by refine rwE (aj ..) ?_;exact DT)];refine rwE List.getElem?_replicate ?_;erw [if_pos (by refine rwE (aj ..) ?_;exact Nat.sub_lt_sub_right DT E1)])
  exact .no _
section
variable {C:Cx}{T:Tabs}
theorem Yq (h:Room (n + 1) A):Room n (A.deeper env) :=
 ⟨h.hd,by have:=h.depth;erw [depth_deeper];exact lin [_,_,_] [] (.a (.a (.a (.a (.v 0) (.k 1)) (.m 2 (.v 1))) (.k 10)) (.k 1)) (.v 2) [(1,.l (.a (.a (.a (.v 0) (.m 2 (.a (.v 1) (.k 1)))) (.k 10)) (.k 1)) (.v 2))] tT9 this,by have:=h.units;erw [Around.deeper_units];exact lin [_,_,_] [] (.a (.a (.a (.a (.v 0) (.k 3)) (.m 20 (.v 1))) (.k 400)) (.k 1)) (.v 2) [(1,.l (.a (.a (.a (.v 0) (.m 20 (.a (.v 1) (.k 1)))) (.k 400)) (.k 1)) (.v 2))] tT9 this⟩
structure Entry (n:Nat)(A:aM)(h:aR)(F:Fm)(s5:aR):Prop where
 fs:∃ fs,A.frames=some fs/\F.fs=F.env::fs
 room:Room n (A.deeper F.env)
 keep:∀ b o,h.get? b=some o->s5.get? b=some o
 L:h.get? F.env.locals=none
 fr:F.env.frame=some F.env.locals
 own:∀ b,b∈F.own->h.get? b=none
theorem Entry.deep {h:aR}(x:Entry n A h F s5):(A.deeper F.env).frames=some F.fs:=by
 refine Eea x.fs λ fs h1 h2=>?_
 erw [h2];exact iH h1
theorem Entry.tops {h:aR}(x:Entry n A h F s5):∃ fs,F.fs=F.env::fs:=let ⟨fs,_,e⟩:=x.fs;⟨fs,e⟩
theorem Entry.back {h:aR}(x:Entry n A h F s5)(DN:Ext h φ μ s5 φ μ [])(X:Ext s5 φ μ h' j' sJ (F.env.locals::F.own) (frL F.fs)):Ext h φ μ h' j' sJ [] (frA A):=by
 refine DN.slack.stepF X (λ b hb=>.inl ?_) λ b hb=>?_
 ·rcases aJ.mp hb with rfl | hb
  ·exact x.L
  ·exact x.own b hb
 ·refine Eea x.fs λ fs h1 h2=>?_
  refine Eea (cx.mp hb) λ v hv hL=>?_
  rw [h2] at hv
  rcases aJ.mp hv with rfl | hv
  ·rw [x.fr] at hL;exact .inl (so hL▸x.L)
  ·refine .inr (cx.mpr ⟨v,?_,hL⟩)
   erw [h1];exact hv
theorem zC8 {n:Nat}{f:ah}{σ:zA}{A:aM}{s:ao}{φ:ah->Prop}{μ:List ah}{vs:List af}{P:ls->ao->Prop}(Y:C.Good)(O:FnOk C f fd ps ks body)(tn:ds.length=ps.length)
  (r:Room (n + 1) A) (ou:Out A s.heap φ μ) (R:Rel C T s.heap φ μ σ) (V:VDs s.heap φ μ vs ds)
  (h:∀ (F:Fm) (s5:aR) (BE:Nat),F.ks=ks->F.env.scope=fd.scope->Entry n A s.heap F s5->Rel C T s5 φ μ σ->FrI F s5 φ μ (Qg ds ks.length)->wpAny (model C.prog C.w) (A.deeper F.env) (execs body F.env) (λ f s'=>P (.ok (.ret (match f with | .ret v=>v | _=>.none))) s')
   (λ e s'=>wpAny (model C.prog C.w) (A.deeper F.env) (leaving F.env e) (λ _ tz=>P (.error e) tz) (λ e' tz=>P (.error e') tz) s') {s with heap:=s5,toks:=BE}):dZ (model C.prog C.w) A (.call (.ref f) ⟨vs,[]⟩) P s:=by
 refine Eeee (O.at_) λ oc od sl ho=>?_
 refine Eea (ou.h) λ fs Hu B6=>?_
 have X:=Y.X.keeps R.keep
 have AA:vs.length=ps.length:=by (erw [Zo V];erw [tn];rfl)
 have Hs:∀ x,x∈ps->∃ k,(x,k)∈ks:=λ x hx=>by
  have:x∈ks.map (·.1):=by rw [<- O.pre] at hx;exact List.mem_of_mem_take hx
  (refine Eea (aU.mp this) λ AN=>?_;obtain ⟨y,k⟩:=AN;intro h1 Bh;obtain rfl:=Bh)
  exact ⟨k,h1⟩
 refine codeAny_call_cells (R:=P) (by have:=r.depth;exact lin [_,_,_] [] (.a (.v 0) (.k 1)) (.v 1) [(1,.l (.a (.a (.a (.v 0) (.m 2 (.a (.v 2) (.k 1)))) (.k 10)) (.k 1)) (.v 1))] tT9 this) (X _ _ ho) rfl (Y.lim.keeps R.keep) (codeRec_of X O.code) O.body (O.bind vs AA) O.clo (λ x hx=>?_) (λ sM IC=>?_) O.co O.gen O.kind
 ·refine Ee (Hs x.1 (k9 hx).1) λ k hk=>?_
  refine Ea (O.kinds _ _ hk) λ h1 h2=>?_
  rcases h1 with rfl | rfl
  ·exact .inl h2
  ·exact .inr ⟨h2,O.cells _ _ hk⟩
 ·generalize tX:callEnvC fd s.heap.objs.size f=env at IC
  have eL:env.locals=s.heap.objs.size:=by refine rwS tX ?_;rfl
  have eS:env.scope=fd.scope:=by refine rwS tX ?_;rfl
  have eC:env.cells=iP (s.heap.objs.size + 1) fd.scope.names []:=by refine rwS tX ?_;rfl
  have eG:env.globals=cv:=by refine rwS tX ?_;exact O.glob
  have eB:env.builtins=fH:=by refine rwS tX ?_;exact O.blt
  (refine Eee (IC.toInCall.same) λ s5 BE Cp=>?_;obtain rfl:=Cp)
  refine Ea (R.grow (h':=s5) IC.toInCall.keep) λ Dz DN=>?_
  have ED:ps.Nodup:=by refine rwS O.pre ?_;exact O.nd.sublist (gp _ _)
  have HY:((ps.zip vs).map (·.1)).Nodup:=by erw [o4 (dk AA.symm)];exact ED
  have EE:=DN.vds V
  have Bn:∀ x c,(x,c)∈env.cells->s.heap.get? c=none:=λ x c hm=>dp (by have:=IC.above x c hm;rw [eL] at this;exact ey this)
  obtain ⟨own,tG⟩:∃ own,own=env.cells.filterMap λ p=>env.cells.lookup p.1:=⟨_,rfl⟩
  have HB:∀ x c,env.cells.lookup x=some c->c∈own:=λ x c hc=>by erw [tG];exact cx.mpr ⟨_,mem_of_lookup hc,hc⟩
  have Du:∀ c,c∈own->∃ x,env.cells.lookup x=some c:=λ c hc=>by rw [tG] at hc;refine Eea (cx.mp hc) λ p _ h2=>?_;exact ⟨_,h2⟩
  have I:FrI ⟨env,ks,own,env::fs⟩ s5 φ μ (Qg ds ks.length):=by
   refine ⟨by show env.scope.kind=_;erw [eS];exact O.kind,eG,eB,?_,⟨_,IC.toInCall.ns,λ i x hx=>?_⟩,λ i x k hx hk=>?_,λ i j x k k' hi hj _ _=>?_,?_,?_,λ x c hc=>?_,λ x y c hx hy=>?_,λ c hc=>?_,λ v hv=>?_⟩
   ·have AM:ps.length<=ks.length:=by
     have:=congrArg rG O.pre
     rw [gI,aj] at this;exact ae (dk this.symm) (dG _ _)
    show (Qg ds ks.length).length=ks.length
    unfold Qg
    (erw [ak];erw [aj];erw [List.length_replicate]);lia
   ·have hk:env.kindOf x=some .local:=by
     unfold hJ;erw [eS];exact (O.kinds _ _ (aS.mpr ⟨i,hx⟩)).2
    refine ⟨hk,?_⟩
    erw [WK hk _ _ HY]
    exact J8 O.nd O.pre EE AA hx
   ·refine Ea (O.kinds _ _ (aS.mpr ⟨i,hx⟩)) λ h1 h2=>?_
    have Fx:k=.cell:=by rcases hk with rfl | rfl;rfl;rcases h1 with h1 | h1 <;> cases h1
    subst Fx
    have Ac:env.kindOf x=some .cell:=by unfold hJ;erw [eS];exact h2
    have hs:=O.cells x (s.heap.objs.size + 1) (aS.mpr ⟨i,hx⟩)
    rw [<- eC] at hs
    refine Ee (gF.mp hs) λ c hc=>?_
    refine ⟨.inl Ac,c,_,hc,IC.cell x c hc,?_,λ _=>HB _ _ hc⟩
    rw [WT (by rw [Ac];simp) _ _ HY]
    exact J8 O.nd O.pre EE AA hx
   ·have BY:(ks.map (·.1))[i]?=some x:=by (erw [a6];erw [hi]);rfl
    have Eb:(ks.map (·.1))[j]?=some x:=by (erw [a6];erw [hj]);rfl
    exact (gB (by erw [aj];exact (av.mp hi).1) O.nd).mp (BY.trans Eb.symm)
   ·erw [eL];exact R.notin_none (zj _)
   ·erw [eL];exact R.notfrz_none (zj _)
   ·have hf:=Bn x c (mem_of_lookup hc)
    refine Eea (IC.cell x c hc) λ o ho _=>?_
    exact ⟨⟨o,ho⟩,R.notin_none hf,R.notfrz_none hf,by have:=IC.above x c (mem_of_lookup hc);exact bv this⟩
   ·exact name_of_addr IC.apart (mem_of_lookup hx) (mem_of_lookup hy)
   ·refine Ee (Du c hc) λ x hx=>?_
    refine Eea (IC.cell x c hx) λ o ho _=>?_
    exact ⟨o,ho⟩
   ·rcases aJ.mp hv with rfl | hv
    ·exact ⟨by (erw [eS];erw [O.kind]);decide,v.locals,by refine rwS tX ?_;rfl,.inl rfl⟩
    ·(refine Ea (B6 v hv) λ k1 B0=>?_;refine Eeeaaaa B0 λ L o k2 k3 k4 k5 k6=>?_)
     refine ⟨k1,L,k2,.inr ⟨o,IC.toInCall.keep _ _ k3,k4,k5,k6,λ m=>?_,λ e=>?_⟩⟩
     ·refine Ee (Du L m) λ x hx=>?_
      rw [Bn x L (mem_of_lookup hx)] at k3;cases k3
     ·have e':L=env.locals:=e
      rw [e',eL,zj] at k3;cases k3
  have E:Entry n A s.heap ⟨env,ks,own,env::fs⟩ s5:=⟨⟨fs,Hu,rfl⟩,Yq r,IC.toInCall.keep,by show s.heap.get? env.locals=none;erw [eL];exact zj _,by refine rwS tX ?_;rfl,λ b hb=>by refine Ee (Du b hb) λ x hx=>?_;exact Bn x b (mem_of_lookup hx)⟩
  have:=h ⟨env,ks,own,env::fs⟩ s5 BE rfl eS E Dz I
  exact this
theorem zED {n:Nat}{f:ah}{σ:zA}{Q:D->zA->Prop}(Y:C.Good)(O:FnOk C f fd ps ks body)(tn:ds.length=ps.length)
  (h:∀ (F:Fm) (A:aM),F.ks=ks->F.env.scope=fd.scope->A.frames=some F.fs->(∃ fs,F.fs=F.env::fs)->F.env.frame=some F.env.locals->Room n A->DS C T F A (execs body F.env) (Qg ds ks.length) σ λ fl _ σ'=>ZR σ Q fl σ'):SatCall C T (n + 1) f ds σ Q:=by
 refine ⟨by refine Eeee (O.at_) λ oc od sl ho=>?_;unfold keepIn;simp only [ho],λ A s φ μ vs r ou R V=>zC8 Y O tn r ou R V λ F s5 BE hk hs E Dz I=>?_⟩
 refine ay (h F _ hk hs E.deep E.tops E.fr E.room _ φ μ Dz I) (λ fl s' hp=>?_) λ _ _ e=>e.elim
 obtain ⟨j',sJ,Ln,sL,σ',G,hf,d,sK,hr,K,q⟩:=hp
 have X':Ext s.heap φ μ s'.heap j' sJ [] (frA A):=E.back (R.grow E.keep).2 G.ext
 have fin:∀ v,VD s'.heap j' sJ v d->∃ h' tk j' sJ d σ',s'={s with heap:=h',toks:=tk}/\Rel C T h' j' sJ σ'/\Ext s.heap φ μ h' j' sJ [] (frA A)/\VD h' j' sJ v d/\Q d σ':=λ v V'=>by
  refine Eeaa (K.go R G.rel X' V') λ s7 E7 DF KN=>?_
  (refine Eee (G.st) λ h' A9 AD=>?_;obtain rfl:=AD)
  exact ⟨h',A9,j',s7,d,sK,rfl,E7,DF,KN,q⟩
 cases hf with
 | next=>(injection hr with y4y0;subst y4y0);exact fin _ (.p .none)
 | cont=>cases hr
 | ret V'=>(injection hr with y6y0;subst y6y0);exact fin _ V'
end
noncomputable def XL:aW->Bool
 | .local=>true
 | .cell=>true
 | _=>false
noncomputable def wT:aW->Bool
 | .local=>true
 | .cell=>true
 | .free=>true
 | _=>false
noncomputable def bix:List (aN×aW)->aN->Option Nat
 | [],_=>none
 | (y,k)::r,x=>if (y==x&&XL k)=true then some 0 else (bix r x).map (· + 1)
noncomputable def aix:List (aN×aW)->aN->Option Nat
 | [],_=>none
 | (y,k)::r,x=>if (y==x&&wT k)=true then some 0 else (aix r x).map (· + 1)
theorem Qs:∀ {ks:List (aN×aW)} {x:aN} {i:Nat},bix ks x=some i->∃ k,ks[i]?=some (x,k)/\(k=.local∨k=.cell)
 | [],_,_,e=>nn e
 | (y,k)::r,x,i,e=>by
  have e:(if (y==x&&XL k)=true then some 0 else (bix r x).map (· + 1))=some i:=e
  by_cases h:(y==x&&XL k)=true
  ·rw [if_pos h] at e
   obtain rfl:=so e
   refine Ea ((bt ..).mp h) λ h1 h2=>?_
   cases eq_of_beq h1
   refine ⟨k,rfl,?_⟩
   cases k with
   | «local»=>exact .inl rfl
   | cell=>exact .inr rfl
   | _=>exact bd h2
  ·rw [if_neg h] at e
   (refine Eea (bL.mp e) λ j hj BQ=>?_;obtain rfl:=BQ)
   exact Qs (ks:=r) hj
theorem zFD {k:aW}(h:wT k=true):k=.local∨k=.cell∨k=.free:=by
 cases k with
 | «local»=>exact .inl rfl
 | cell=>exact .inr (.inl rfl)
 | free=>exact .inr (.inr rfl)
 | _=>exact bd h
theorem zDP :∀ {i:Nat},aix ks x=some i->∃ k,ks[i]?=some (x,k)/\(k=.local∨k=.cell∨k=.free):=by
 induction ks with
 | nil=>exact λ e=>nn e
 | cons p r ih =>
  intro i e
  have e:(if (p.1==x&&wT p.2)=true then some 0 else (aix r x).map (· + 1))=some i:=e
  by_cases h:(p.1==x&&wT p.2)=true
  ·rw [if_pos h] at e
   obtain rfl:=so e
   refine Ea ((bt ..).mp h) λ h1 h2=>?_
   exact ⟨p.2,congrArg some (pv (eq_of_beq h1) rfl),zFD h2⟩
  ·rw [if_neg h] at e
   refine Eea (bL.mp e) λ j hj q=>?_
   refine rwS q ?_;exact ih hj
section
variable {C:Cx}{T:Tabs}{F:Fm}{s s' sM:ao}{φ j' sV:ah->Prop}{μ sJ sR:List ah}{ρ sL s0:Rho}{σ σ' s4:zA}{A:aM}{n:Nat}{B:ah}
theorem OptV.of_eq {h:aR}{o:Option af}{d:Option (Option D)}(p:OptV h φ μ o d)(k:∀ a,φ a->h'.get? a=h.get? a):OptV h' φ μ o d :=
 p.mono (λ a f=>⟨f,k a f⟩) λ _ _ e=>e
theorem YW {ρ:Rho}(hi:i<ρ.length):(ρ.set i (some d))[j]?=if i=j then some (some d) else ρ[j]?:=by
 by_cases h:i=j
 ·subst h;(erw [if_pos rfl];erw [fu hi];rfl)
 ·(erw [if_neg h];erw [dq h];rfl)
theorem qO {Q:Unit->ao->Prop}{k:aW}(R:Rel C T s.heap φ μ σ)(I:FrI F s.heap φ μ ρ)(V:VD s.heap φ μ v d)(hi:F.ks[i]?=some (x,k))(hk:k=.local∨k=.cell)
  (q:∀ s',Go C T F s φ μ s' φ μ (ρ.set i (some d)) σ->Q () s'):wpAny (model C.prog C.w) A (fy F.env x v) Q NoE s:=by
 have hlen:i<ρ.length:=by erw [I.len];exact (av.mp hi).1
 refine wpAny_bindName ?_
 rcases hk with rfl | rfl
 ·refine Eea (I.loc) λ m hn hm=>?_
  have hx:=(hm i x hi).1
  refine wpAny_storeName_local hx hn (λ h' CP hs=>?_) (by erw [I.kind];rfl)
  obtain ⟨o',x6⟩:∃ o,h'.get? F.env.locals=some o:=by (refine Eeeea (CP) λ o _ _ e _=>?_;try clear CP);exact ⟨o,e⟩
  refine Ea (R.but I.Lμ I.Lφ hs x6) λ R' X=>?_
  have EI:∀ a,φ a->h'.get? a=s.heap.get? a:=λ a f=>(X.frz a f).2
  refine q _ ⟨⟨h',_,rfl⟩,R',⟨I.kind,I.glob,I.blt,by erw [eW];exact I.len,⟨_,CP,λ j y hj=>⟨(hm j y hj).1,?_⟩⟩,λ j y kk hj Em=>?_,I.uniq,I.Lμ,I.Lφ,λ y c hc=>?_,I.cinj,λ c hc=>let ⟨o,ho⟩:=I.own c hc;X.ex c o ho,I.outsK λ v L o hv hf h1 h2 h3 _ h4=>⟨⟨o,(hs.2 L h4).trans h1,rfl⟩,h2,h3⟩⟩,?_⟩
  ·erw [YW hlen]
   by_cases e:i=j
   ·subst e
    rw [hi] at hj;cases hj
    (erw [if_pos rfl];erw [if_pos rfl])
    exact .is (X.vd V)
   ·(erw [if_neg e];erw [if_neg (λ e':y=x=>e (I.uniq i j x _ _ hi (e'▸hj) (.inl rfl) (.inl rfl)))])
    exact (hm j y hj).2.of_eq EI
  ·(refine Ea (I.cell j y kk hj Em) λ h1 tM=>?_;refine Eeeaaa tM λ c v' Ah Ap BU BO=>?_)
   have tq:=(I.cμ y c Ah).2.2.2
   refine ⟨h1,c,v',Ah,?_,?_,BO⟩
   ·(refine Eea (Ap) λ o ho hd=>?_;try clear Ap);exact ⟨o,(hs.2 c tq).trans ho,hd⟩
   ·(erw [YW hlen];rewrite [if_neg])
    ·exact BU.of_eq EI
    ·intro e
     subst e
     rw [hi] at hj;cases hj
     rcases Em with h | h <;> cases h
  ·(refine Z0 (I.cμ y c hc) λ Bk=>?_;(refine Ee (Bk) λ o h0=>?_;try clear Bk);intro h1 h2 h3)
   exact ⟨X.ex c o h0,h1,h2,h3⟩
  ·exact (X.wider λ b o m _=>by rw [aG] at m;erw [m];exact cY).slack
 ·(refine Ea (I.cell i x _ hi (.inl rfl)) λ hx Aw=>?_;refine Eeeaaa Aw λ c v' Ah Ap _ tG=>?_)
  have hx:=hx.resolve_right (λ h=>by cases h.1)
  refine wpAny_storeName_cell I.kind hx Ah Ap λ h' Aq hs=>?_
  obtain ⟨o',x6⟩:∃ o,h'.get? c=some o:=by (refine Eea (Aq) λ o e _=>?_;try clear Aq);exact ⟨o,e⟩
  refine Z0 (I.cμ x c Ah) λ _ cm cf cL=>?_
  refine Ea (R.but cm cf hs x6) λ R' X=>?_
  have EI:∀ a,φ a->h'.get? a=s.heap.get? a:=λ a f=>(X.frz a f).2
  refine Eea (I.loc) λ m hn hm=>?_
  refine q _ ⟨⟨h',_,rfl⟩,R',⟨I.kind,I.glob,I.blt,by erw [eW];exact I.len,⟨m,?_,λ j y hj=>⟨(hm j y hj).1,?_⟩⟩,λ j y kk hj Em=>?_,I.uniq,I.Lμ,I.Lφ,λ y c' Aq=>?_,I.cinj,λ c hc=>let ⟨o,ho⟩:=I.own c hc;X.ex c o ho,I.outsK λ v L o hv hf h1 h2 h4 h3 _=>⟨⟨o,(hs.2 L λ e=>h3 (e▸tG rfl)).trans h1,rfl⟩,h2,h4⟩⟩,?_⟩
  ·(refine Eeeea (hn) λ o es ep ho r=>?_;try clear hn);exact ⟨o,es,ep,(hs.2 _ (iO cL)).trans ho,r⟩
  ·(erw [YW hlen];rewrite [if_neg])
   ·exact (hm j y hj).2.of_eq EI
   ·intro e
    subst e
    rw [hi] at hj;cases hj
  ·(refine Ea (I.cell j y kk hj Em) λ h1 Ch=>?_;refine Eeeaaa Ch λ D2 CY CV EG GY Fk=>?_)
   erw [YW hlen]
   by_cases e:i=j
   ·subst e
    rw [hi] at hj;cases hj
    rw [Ah] at CV;(injection CV with y6y0;subst y6y0)
    refine ⟨h1,c,_,Ah,Aq,?_,Fk⟩
    erw [if_pos rfl]
    exact .is (X.vd V)
   ·erw [if_neg e]
    have tq:D2≠c:=λ h=>by
     subst h
     have:=I.cinj x y _ Ah CV
     subst this
     exact e (I.uniq i j x _ _ hi hj (.inr (.inl rfl)) (by rcases Em with h | h;exact .inr (.inl h);exact .inr (.inr h)))
    refine ⟨h1,D2,CY,CV,?_,GY.of_eq EI,Fk⟩
    (refine Eea (EG) λ o ho hd=>?_;try clear EG);exact ⟨o,(hs.2 D2 tq).trans ho,hd⟩
  ·(refine Z0 (I.cμ y c' Aq) λ AD=>?_;(refine Ee (AD) λ o h0=>?_;try clear AD);intro h1 h2 h3)
   exact ⟨X.ex c' o h0,h1,h2,h3⟩
  ·exact (X.wider λ b o m _=>by rw [aG] at m;erw [m];exact bU _ (tG rfl)).slack
end
mutual
noncomputable def trP (ks:List (aN×aW)):aL->Option Pt
 | .Name x _=>(bix ks x).bind λ i=>some (.nm i)
 | .Tuple es _ _=>(trPs ks es).bind λ ps=>some (.tup ps)
 | _=>none
noncomputable def trPs (ks:List (aN×aW)):List aL->Option (List Pt)
 | []=>some []
 | e::es=>(trP ks e).bind λ p=>(trPs ks es).bind λ ps=>some (p::ps)
end
section
variable {C:Cx}{T:Tabs}{F:Fm}{A:aM}{σ:zA}
theorem wn {e:aL}{p:Pt}(h:trP ks e=some p):(∃ x pos i,e=.Name x pos/\bix ks x=some i/\p=.nm i)∨∃ es c pos ps,e=.Tuple es c pos/\trPs ks es=some ps/\p=.tup ps:=by
 cases e with
 | Name x pos=>refine Eea (ob h) λ i h1 h2=>?_;exact .inl ⟨x,pos,i,rfl,h1,(so h2).symm⟩
 | Tuple es c pos=>refine Eea (ob h) λ ps h1 h2=>?_;exact .inr ⟨es,c,pos,ps,rfl,h1,(so h2).symm⟩
 | _=>exact nn h
theorem Ys {e:aL}{p:Pt}(h:trP ks e=some p){rest:List aL}:assignEach (e::rest) env=(false,ge e env)::assignEach rest env:=by
 rcases wn h with ⟨x,pos,i,rfl,_⟩ | ⟨es,c,pos,ps,rfl,_⟩ <;> rfl
theorem yz {e:aL}{es:List aL}{ps:List Pt}(h:trPs ks (e::es)=some ps):∃ p qs,trP ks e=some p/\trPs ks es=some qs/\ps=p::qs:=by
 refine Eea (ob h) λ p h1 h2=>?_
 refine Eea (ob h2) λ qs h3 h4=>?_
 exact ⟨p,qs,h1,h3,(so h4).symm⟩
theorem J9 :∀ {es:List aL} {ps:List Pt},trPs ks es=some ps->∀ env,(assignEach es env).length=ps.length/\(assignEach es env).findIdx? (·.1)=none
 | [],ps,h,env=>by obtain rfl:=so h;exact ⟨rfl,rfl⟩
 | e::es,ps,h,env=>by
  (refine Eeeaa (yz h) λ p qs hp hq F'=>?_;obtain rfl:=F')
  refine Ea (J9 hq env) λ h1 h2=>?_
  erw [Ys hp]
  refine ⟨congrArg (· + 1) h1,?_⟩
  (erw [nV];erw [h2]);rfl
theorem yi:∀ {ps:List Pt} {xs:List ab} {ρ sL:Rho},bindPs ps xs ρ=some sL->ps.length=xs.length
 | [],[],_,_,_=>rfl
 | [],_::_,_,_,h=>nn h
 | _::_,[],_,_,h=>nn h
 | p::ps,x::xs,ρ,sL,h=>by
  refine Eea (ob h) λ _ _ h=>?_
  exact congrArg (· + 1) (yi h)
mutual
theorem Um (hA:A.handled=none):∀ (p:Pt) (e:aL) (x:ab) (ρ sL:Rho) (s:ao) (φ:ah->Prop) (μ:List ah) (v:af),trP F.ks e=some p->Zd p x ρ=some sL->Rel C T s.heap φ μ σ->FrI F s.heap φ μ ρ->VP s.heap φ v x ->
  wpAny (model C.prog C.w) A (ge e F.env v) (λ _ s'=>Go C T F s φ μ s' φ μ sL σ) NoE s
 | .nm i,e,x,ρ,sL,s,φ,μ,v,ht,hb,R,I,V=>by
  rcases wn ht with ⟨y,pos,j,rfl,hi,h⟩ | ⟨_,_,_,_,_,_,h⟩
  ·(injection h with y7y0;subst y7y0)
   obtain rfl:=so hb
   refine Eea (Qs hi) λ k h1 h2=>?_
   erw [lc]
   exact aa (bx (qO R I (.p V) h1 h2 λ s' G=>G))
  ·cases h
 | .tup ps,e,x,ρ,sL,s,φ,μ,v,ht,hb,R,I,V=>by
  rcases wn ht with ⟨_,_,_,_,_,h⟩ | ⟨es,c,pos,qs,rfl,CS,h⟩
  ·cases h
  ·(injection h with y10y0;subst y10y0)
   refine Eea (ob hb) λ xs e1 hb=>?_
   obtain rfl:=YY e1
   refine V.mtup λ a vs f t r=>?_
   refine Ea (J9 CS F.env) λ h1 h2=>?_
   refine nW hA t.t (by (erw [h1];erw [yi hb];erw [aK];erw [r.length];rfl)) h2 λ h' hs=>?_
   have kk:∀ b o,s.heap.get? b=some o->h'.get? b=some o:=λ b o e=>hs b o (aF (a7 e)) e
   refine Ea (R.grow kk) λ R' X=>?_
   have G:=Go.of_ext (tk:=s.toks) I R' X
   exact ay (asg_pts hA ps es xs ρ sL {s with heap:=h'} φ μ _ CS hb R' G.fr (X.vps r)) (λ _ s' G'=>G.trans G') λ _ _ e=>e
theorem asg_pts (hA:A.handled=none):∀ (ps:List Pt) (es:List aL) (xs:List ab) (ρ sL:Rho) (s:ao) (φ:ah->Prop) (μ:List ah) (vs:List af),trPs F.ks es=some ps->bindPs ps xs ρ=some sL->Rel C T s.heap φ μ σ->FrI F s.heap φ μ ρ->VPs s.heap φ vs xs ->
  wpAny (model C.prog C.w) A (eP ((assignEach es F.env).map (·.2)) vs) (λ _ s'=>Go C T F s φ μ s' φ μ sL σ) NoE s
 | [],es,xs,ρ,sL,s,φ,μ,vs,ht,hb,R,I,V=>by
  cases es with
  | cons _ _=>refine Eeeaa (yz ht) λ _ _ _ _ h=>?_;cases h
  | nil=>cases xs with
   | cons _ _=>exact nn hb
   | nil =>
    cases V.inil
    obtain rfl:=so hb
    exact gG (Go.refl R I)
 | p::ps,es,xs,ρ,sL,s,φ,μ,vs,ht,hb,R,I,V=>by
  cases es with
  | nil=>cases so ht
  | cons e es =>
   refine Eeeaa (yz ht) λ _ _ hp hq h=>?_
   cases h
   cases xs with
   | nil=>exact nn hb
   | cons x xs =>
    refine V.mcons λ v ws p1 r=>?_
    refine Eea (ob hb) λ s0 h1 hb=>?_
    erw [Ys hp]
    refine wpAny_assignInOrder_more (ay (Um hA p e _ ρ s0 s φ μ _ hp h1 R I p1) (λ _ sM G=>?_) λ _ _ e=>e)
    exact ay (asg_pts hA ps es _ s0 sL sM φ μ _ hq hb G.rel G.fr (G.ext.vps r)) (λ _ s' G'=>G.trans G') λ _ _ e=>e
end
end
def SAt (l:Bool)(h:aR)(a:ah)(vs:Array af):Prop:=if l then h.IsList a vs else h.IsTuple a vs
def SIt (l:Bool)(h:aR)(I a:ah)(i:Nat):Prop:=if l then h.IsListIter I a i else h.IsTupleIter I a i
theorem SAt.extBut {l:Bool}{h:aR}{a b:ah}{vs:Array af}(x:SAt l h a vs)(hs:gy b h h')(ne:a≠b):SAt l h' a vs:=by
 cases l
 ·exact sy x hs ne
 ·exact sz x hs ne
theorem SIt.extBut {l:Bool}{h:aR}{a b:ah}(x:SIt l h I a i)(hs:gy b h h')(ne:I≠b):SIt l h' I a i:=by
 cases l
 ·exact sA x hs ne
 ·exact sB x hs ne
theorem SIt.at {l:Bool}{h:aR}{a:ah}(x:SIt l h I a i)(k:∀ o,h.get? I=some o->h'.get? I=some o):SIt l h' I a i:=by
 cases l
 ·exact Heap.IsTupleIter.at x k
 ·exact Heap.IsListIter.at x k
theorem SAt.at {l:Bool}{h:aR}{a:ah}{vs:Array af}(x:SAt l h a vs)(k:∀ o,h.get? a=some o->h'.get? a=some o):SAt l h' a vs:=by
 cases l
 ·exact Heap.IsTuple.at x k
 ·exact Heap.IsList.at x k
noncomputable def qI (zz:Bool):String:=@gZ (λ _=>String) zz "tuple_iterator" "list_iterator"
theorem SIt.obj {l:Bool}{h:aR}{a:ah}(x:SIt l h I a i):∃ o,h.get? I=some o/\o.cls=.type (qI l)/\∃ vs,o.data=.fields vs:=by
 cases l
 ·(refine Eeaa (x) λ o ho hc hd=>?_;try clear x);exact ⟨o,ho,hc,_,hd⟩
 ·(refine Eeaa (x) λ o ho hc hd=>?_;try clear x);exact ⟨o,ho,hc,_,hd⟩
section
variable {prog:bN}{w:cr}{A:aM}{E:af->ao->Prop}{s:ao}{l:Bool}{I a:ah}{i:Nat}{vs:Array af}
theorem zC4 {Q:af->ao->Prop}(ht:SAt l s.heap a vs)(h:∀ h',SIt l h' s.heap.objs.size a 0->(∀ b o,s.heap.get? b=some o->h'.get? b=some o)->Q (.ref s.heap.objs.size) {s with heap:=h'}) :
  wpAny (model prog w) A (gD (.ref a)) Q E s:=by
 cases l
 ·exact cZ ht (h _ ⟨_,aI _ rfl,rfl,rfl⟩ λ b o e=>aq _ e)
 ·exact dm ht (h _ ⟨_,aI _ rfl,rfl,rfl⟩ λ b o e=>aq _ e)
theorem VE {Q:Option af->ao->Prop}{x:af}(hi:SIt l s.heap I a i)(ht:SAt l s.heap a vs)(hx:vs[i]?=some x)(h:∀ h',SIt l h' I a (i + 1)->cn I s.heap h'->Q (some x) {s with heap:=h'}) :
  wpAny (model prog w) A (eZ (.ref I)) Q E s:=by
 cases l
 ·exact lY hi ht hx h
 ·exact wpAny_pyNext_list_item hi ht hx h
theorem zBs {Q:Option af->ao->Prop}(hh:A.handled=none)(hi:SIt l s.heap I a i)(ht:SAt l s.heap a vs)(hx:vs[i]?=none)(h:∀ h',gy I s.heap h'->Q none {s with heap:=h'}) :
  wpAny (model prog w) A (eZ (.ref I)) Q E s:=by
 cases l
 ·exact mD hh hi ht hx h
 ·exact wpAny_pyNext_list_end hh hi ht hx h
theorem vh {Q:af->ao->Prop}(hi:SIt l s.heap I a i)(h:Q (.ref I) s):wpAny (model prog w) A (gD (.ref I)) Q E s:=by
 cases l
 ·exact wpAny_pyIter_tupleiter hi h
 ·exact wpAny_pyIter_listiter hi h
theorem XQ {Q:af->ao->Prop}{x:af}(tB:s.heap.IsTupleIter I a i)(ht:s.heap.IsTuple a vs)(hx:vs[i]?=some x)(hQ:∀ h',h'.IsTupleIter I a (i + 1)->cn I s.heap h'->Q x {s with heap:=h'}) :
  wpAny (model prog w) A (bz (.ref I)) Q E s:=by
 refine Eeaa (id tB) λ o ho hc hd=>?_
 obtain ⟨ol,El,_,nl,CD⟩:=ht
 unfold bz
 refine aa (cz (name:=ag "__next__") tB.typeIs eu
  (bQ eu tB.typeIs lm ?_ (lf _)))
 show wpAny _ _ (l5 (.ref I) 0 >>= _) _ _ s
 refine aa (cU ho hd (x:=.ref a) rfl ?_)
 show wpAny _ _ (if (eI a==dw)=true then _ else _) _ _ s
 erw [if_neg (show ¬ ((eI a==dw)=true) from a5)]
 show wpAny _ _ (l5 (.ref I) 1 >>= _) _ _ s
 refine aa (cU ho hd (x:=.int i 0) rfl ?_)
 show wpAny _ _ (lX (.ref a) >>= _) _ _ s
 refine aa (cE El CD ?_)
 simp only [bq,hx]
 refine aa (gb ho hd (by simp) (am ⟨x,rfl,am (hQ _ ?_ (cu ..))⟩))
 exact ⟨_,cI _ ho (im (dN hd _)),(kj ..).trans hc,by rw [dN hd];simp [rawInt]⟩
theorem Wx {Q:af->ao->Prop}(hh:A.handled=none)(tB:s.heap.IsTupleIter I a i)(ht:s.heap.IsTuple a vs)(hx:vs[i]?=none)
  (hE:∀ h' e,gy I s.heap h'->(∃ o,h'.get? e=some o/\o.cls=.type "StopIteration")->E (.ref e) {s with heap:=h'}) :
  wpAny (model prog w) A (bz (.ref I)) Q E s:=by
 refine Eeaa (id tB) λ o ho hc hd=>?_
 obtain ⟨ol,El,_,nl,CD⟩:=ht
 unfold bz
 refine aa (cz (name:=ag "__next__") tB.typeIs eu
  (bQ eu tB.typeIs lm ?_ (lf _)))
 show wpAny _ _ (l5 (.ref I) 0 >>= _) _ _ s
 refine aa (cU ho hd (x:=.ref a) rfl ?_)
 show wpAny _ _ (if (eI a==dw)=true then _ else _) _ _ s
 erw [if_neg (show ¬ ((eI a==dw)=true) from a5)]
 show wpAny _ _ (l5 (.ref I) 1 >>= _) _ _ s
 refine aa (cU ho hd (x:=.int i 0) rfl ?_)
 show wpAny _ _ (lX (.ref a) >>= _) _ _ s
 refine aa (cE El CD ?_)
 simp only [bq,hx]
 refine aa (fF (aa (gb ho hd (by simp) ?_)))
 show wpAny _ _ (pC (.type "StopIteration") [] >>= _) _ _ _
 refine aa ?_
 simp only [pC,pD]
 refine aa (cD ?_ (by size_fits))
 refine aa (m:=iz _ _) (gx (a:=dw) (by first | rfl | (simp only [iz];rfl)) ?_)
 refine cD ?_ (by size_fits)
 simp only [raiseNew]
 refine aa (p7 ?_)
 first | refine rwE (show A.in1.handled=none from hh) ?_ | rw [hh]
 refine aa (am (wpAny_throw ?_))
 exact hE _ _ (((cu ..).extBut.push _).push _) ⟨_,aI _ rfl,rfl⟩
theorem yI {Q:af->ao->Prop}{x:af}(hi:SIt l s.heap I a i)(ht:SAt l s.heap a vs)(hx:vs[i]?=some x)(h:∀ h',SIt l h' I a (i + 1)->cn I s.heap h'->Q x {s with heap:=h'}) :
  wpAny (model prog w) A (bz (.ref I)) Q E s:=by
 cases l
 ·exact XQ hi ht hx h
 ·exact wpAny_nextOf_list_item hi ht hx h
theorem Jn {Q:af->ao->Prop}(hh:A.handled=none)(hi:SIt l s.heap I a i)(ht:SAt l s.heap a vs)(hx:vs[i]?=none)(hE:∀ h' e,gy I s.heap h'->(∃ o,h'.get? e=some o/\o.cls=.type "StopIteration")->E (.ref e) {s with heap:=h'}) :
  wpAny (model prog w) A (bz (.ref I)) Q E s:=by
 cases l
 ·exact Wx hh hi ht hx hE
 ·exact wpAny_nextOf_list_end hh hi ht hx hE
theorem js {tC:aL}{v:af}{n:String}{fs:Array af}{Q:Unit->ao->Prop}(ho:s.heap.get? I=some o)(hc:o.cls=.type n)(hd:o.data=.fields fs)
  (hn:(["enumerate","zip","dict_itemiterator","dict_reverseitemiterator","odict_iterator","itertools.zip_longest","itertools.pairwise"].contains n)=false) (q:Q () s) :
  wpAny (model prog w) A (fS tC (.ref I) v) Q E s:=by
 have key:∀ a,wpAny (model prog w) A (do
   let o<-load I
   match o.cls,o.data with
   | .type n,.fields vs =>
    if ["enumerate","zip","dict_itemiterator","dict_reverseitemiterator","odict_iterator","itertools.zip_longest","itertools.pairwise"].contains n&&vs[0]?==some (rawInt a) then
     rule "for.unpacks-the-owned-tuple"
     updateField I 0 .none
   | _,_=>pure ():kI Unit) Q E s:=λ a=>by
  refine aa (wpAny_load ho ?_)
  (erw [hc];erw [hd])
  dsimp only
  (erw [hn];erw [pH];erw [if_neg (by decide)])
  exact am q
 unfold fS
 cases tC <;> first | exact am q | skip
 all_goals cases v <;> first | exact am q | exact key _
end
structure ZSt (h:aR)(L:Nat)(l1 l2:ah)(a b:Bool)(f0:af)(k:Nat):Prop where
 z:lA h (L + 4) (L + 2) (L + 3) f0
 ti:iI h (L + 2) (.ref L) (.ref (L + 1))
 to:∃ x y,iI h (L + 3) x y
 i1:SIt a h L l1 k
 i2:SIt b h (L + 1) l2 k
theorem ZSt.at {h:aR}{l1 l2:ah}{a:Bool}{f0:af}(x:ZSt h L l1 l2 a b f0 k)(q:∀ (c:Nat) o,L<=c->c<=L + 4->h.get? c=some o->h'.get? c=some o):ZSt h' L l1 l2 a b f0 k:=by
 refine Eee (x.to) λ u v to=>?_
 exact ⟨q _ _ (aH _ _) (bn _) x.z,q _ _ (aH _ _) (lin [_] [] (.a (.v 0) (.k 2)) (.a (.v 0) (.k 4)) [] tT9) x.ti,⟨u,v,q _ _ (aH _ _) (lin [_] [] (.a (.v 0) (.k 3)) (.a (.v 0) (.k 4)) [] tT9) to⟩,x.i1.at λ o e=>q _ _ (bn _) (aH _ _) e,x.i2.at λ o e=>q _ _ (aH _ _) (lin [_] [] (.a (.v 0) (.k 1)) (.a (.v 0) (.k 4)) [] tT9) e⟩
noncomputable abbrev itO (n:String) (a:ah):eV:={cls:=.type n,data:=.fields #[.ref a,.int 0 0]}
noncomputable abbrev zH2 (h:aR) (o1 o2:eV):aR:=(h.push o1).push o2
noncomputable abbrev zH3 (h:aR) (o1 o2:eV):aR:=(zH2 h o1 o2).push {cls:=.type "tuple",data:=.seq #[.ref h.objs.size,.ref (h.push o1).objs.size]}
noncomputable abbrev zH4 (h:aR) (o1 o2:eV):aR:=(zH3 h o1 o2).push {cls:=.type "tuple",data:=.seq #[.none,.none]}
noncomputable abbrev zH5 (h:aR) (o1 o2:eV):aR:=(zH4 h o1 o2).push {cls:=.type "zip",data:=.fields #[.none,.bool false,.bool false,.ref (zH2 h o1 o2).objs.size,.ref (zH3 h o1 o2).objs.size]}
theorem Ut (l1 l2:ah)(xs ys:Array af) :
  Meets (cH.«zip.__new__» ⟨[.type "zip",.ref l1,.ref l2],[]⟩) (λ _ R s=>s.heap.IsTuple l1 xs/\s.heap.IsTuple l2 ys /\
   R (.ok (.ret (.ref (zH4 s.heap (itO "tuple_iterator" l1) (itO "tuple_iterator" l2)).objs.size))) {s with heap:=zH5 s.heap (itO "tuple_iterator" l1) (itO "tuple_iterator" l2)}) :=
 .of_wp λ prog w A R s h=>by
  obtain ⟨hp,g,d,tk,os⟩:=s;refine Eaa (h) λ x7 AL h=>?_
  have t8:=ow
  have Dx:kz (fg ⟨hp,g,d,tk,os⟩) l1 xs:=x7
  have DU:kz (fg ⟨hp.push {cls:=.type "tuple_iterator",data:=.fields #[.ref l1,.int 0 0]},g,d,tk,os⟩) l2 ys:=oy AL _
  wp_walk using cZ Dx,cZ DU
  exact ⟨_,rfl,h⟩
theorem UN (l1 l2:ah)(xs ys:Array af) :
  Meets (cH.«zip.__new__» ⟨[.type "zip",.ref l1,.ref l2],[]⟩) (λ _ R s=>s.heap.IsTuple l1 xs/\s.heap.IsList l2 ys /\
   R (.ok (.ret (.ref (zH4 s.heap (itO "tuple_iterator" l1) (itO "list_iterator" l2)).objs.size))) {s with heap:=zH5 s.heap (itO "tuple_iterator" l1) (itO "list_iterator" l2)}) :=
 .of_wp λ prog w A R s h=>by
  obtain ⟨hp,g,d,tk,os⟩:=s;refine Eaa (h) λ x7 AL h=>?_
  have t8:=ow
  have Dx:kz (fg ⟨hp,g,d,tk,os⟩) l1 xs:=x7
  have DU:kQ (fg ⟨hp.push {cls:=.type "tuple_iterator",data:=.fields #[.ref l1,.int 0 0]},g,d,tk,os⟩) l2 ys:=o5 AL _
  wp_walk using cZ Dx,dm DU
  exact ⟨_,rfl,h⟩
theorem uw (l1 l2:ah)(xs ys:Array af) :
  Meets (cH.«zip.__new__» ⟨[.type "zip",.ref l1,.ref l2],[]⟩) (λ _ R s=>s.heap.IsList l1 xs/\s.heap.IsTuple l2 ys /\
   R (.ok (.ret (.ref (zH4 s.heap (itO "list_iterator" l1) (itO "tuple_iterator" l2)).objs.size))) {s with heap:=zH5 s.heap (itO "list_iterator" l1) (itO "tuple_iterator" l2)}) :=
 .of_wp λ prog w A R s h=>by
  obtain ⟨hp,g,d,tk,os⟩:=s;refine Eaa (h) λ x7 AL h=>?_
  have t8:=ow
  have Dx:kQ (fg ⟨hp,g,d,tk,os⟩) l1 xs:=x7
  have DU:kz (fg ⟨hp.push {cls:=.type "list_iterator",data:=.fields #[.ref l1,.int 0 0]},g,d,tk,os⟩) l2 ys:=oy AL _
  wp_walk using dm Dx,cZ DU
  exact ⟨_,rfl,h⟩
theorem ue (l1 l2:ah)(xs ys:Array af) :
  Meets (cH.«zip.__new__» ⟨[.type "zip",.ref l1,.ref l2],[]⟩) (λ _ R s=>s.heap.IsList l1 xs/\s.heap.IsList l2 ys /\
   R (.ok (.ret (.ref (zH4 s.heap (itO "list_iterator" l1) (itO "list_iterator" l2)).objs.size))) {s with heap:=zH5 s.heap (itO "list_iterator" l1) (itO "list_iterator" l2)}) :=
 .of_wp λ prog w A R s h=>by
  obtain ⟨hp,g,d,tk,os⟩:=s;refine Eaa (h) λ x7 AL h=>?_
  have t8:=ow
  have Dx:kQ (fg ⟨hp,g,d,tk,os⟩) l1 xs:=x7
  have DU:kQ (fg ⟨hp.push {cls:=.type "list_iterator",data:=.fields #[.ref l1,.int 0 0]},g,d,tk,os⟩) l2 ys:=o5 AL _
  wp_walk using dm Dx,dm DU
  exact ⟨_,rfl,h⟩
theorem zEG (h:aR)(a b:Bool)(l1 l2:ah):ZSt (zH5 h (itO (qI a) l1) (itO (qI b) l2)) h.objs.size l1 l2 a b .none 0/\(zH4 h (itO (qI a) l1) (itO (qI b) l2)).objs.size=h.objs.size + 4:=by
 generalize e1:itO (qI a) l1=o1
 generalize e2:itO (qI b) l2=o2
 have f1:o1.isFreed=false:=by refine rwS e1 ?_;rfl
 have f2:o2.isFreed=false:=by refine rwS e2 ?_;rfl
 have z1:(h.push o1).objs.size=h.objs.size + 1:=dJ ..
 have z2:(zH2 h o1 o2).objs.size=h.objs.size + 2:=by (erw [dJ];erw [z1];rfl)
 have z3:(zH3 h o1 o2).objs.size=h.objs.size + 3:=by (erw [dJ];erw [z2];rfl)
 have z4:(zH4 h o1 o2).objs.size=h.objs.size + 4:=by (erw [dJ];erw [z3];rfl)
 have g5:(zH5 h o1 o2).get? (zH4 h o1 o2).objs.size=some _:=aI _ rfl
 have g4:(zH5 h o1 o2).get? (zH3 h o1 o2).objs.size=some _:=aq _ (aI _ rfl)
 have g3:(zH5 h o1 o2).get? (zH2 h o1 o2).objs.size=some _:=aq _ (aq _ (aI _ rfl))
 have g2:(zH5 h o1 o2).get? (h.push o1).objs.size=some o2:=aq _ (aq _ (aq _ (aI _ f2)))
 have g1:(zH5 h o1 o2).get? h.objs.size=some o1:=aq _ (aq _ (aq _ (aq _ (aI _ f1))))
 rw [z2,z3,z4] at g5
 rw [z1,z2] at g3
 rw [z3] at g4
 rw [z1] at g2
 refine ⟨⟨g5,g3,⟨_,_,g4⟩,?_,?_⟩,z4⟩
 ·subst e1
  cases a
  ·exact ⟨_,g1,rfl,rfl⟩
  ·exact ⟨_,g1,rfl,rfl⟩
 ·subst e2
  cases b
  ·exact ⟨_,g2,rfl,rfl⟩
  ·exact ⟨_,g2,rfl,rfl⟩
theorem VN (h:aR)(o1 o2:eV):∀ c o,h.get? c=some o->(zH5 h o1 o2).get? c=some o:=λ c o x =>
 aq _ (aq _ (aq _ (aq _ (aq _ x))))
section
variable {prog:bN}{w:cr}{A:aM}{E:af->ao->Prop}{s:ao}{a b:Bool}{l1 l2 L:Nat}{xs ys:Array af}{k:Nat}
theorem zCh {Q:af->ao->Prop}(x7:SAt a s.heap l1 xs)(AL:SAt b s.heap l2 ys)
  (h:∀ h',ZSt h' s.heap.objs.size l1 l2 a b .none 0->(∀ c o,s.heap.get? c=some o->h'.get? c=some o)->Q (.ref (s.heap.objs.size + 4)) {s with heap:=h'}) :
  wpAny (model prog w) A (call (.type "zip") [.ref l1,.ref l2]) Q E s:=by
 have go:∀ n m,n=qI a->m=qI b->({s with heap:=zH5 s.heap (itO n l1) (itO m l2)}:ao).TypeIs (.ref (zH4 s.heap (itO n l1) (itO m l2)).objs.size) "zip"/\Q (.ref (zH4 s.heap (itO n l1) (itO m l2)).objs.size) {s with heap:=zH5 s.heap (itO n l1) (itO m l2)}:=by
  rintro n m rfl rfl
  refine Ea (zEG s.heap a b l1 l2) λ z e=>?_
  erw [e]
  exact ⟨⟨_,z.z,rfl⟩,h _ z (VN _ _ _)⟩
 cases a <;> cases b
 ·exact kA kB (by decide) (gT _ _) (ic _ _) (λ obj=>fQ obj _ _) ie (Ut l1 l2 xs ys) ⟨x7,AL,go _ _ rfl rfl⟩
 ·exact kA kB (by decide) (gT _ _) (ic _ _) (λ obj=>fQ obj _ _) ie (UN l1 l2 xs ys) ⟨x7,AL,go _ _ rfl rfl⟩
 ·exact kA kB (by decide) (gT _ _) (ic _ _) (λ obj=>fQ obj _ _) ie (uw l1 l2 xs ys) ⟨x7,AL,go _ _ rfl rfl⟩
 ·exact kA kB (by decide) (gT _ _) (ic _ _) (λ obj=>fQ obj _ _) ie (ue l1 l2 xs ys) ⟨x7,AL,go _ _ rfl rfl⟩
theorem Vn {Q:Option af->ao->Prop}{x y:af}(Z:ZSt s.heap L l1 l2 a b .none k)(x7:SAt a s.heap l1 xs)(AL:SAt b s.heap l2 ys)(b1:l1<L)(b2:l2<L)(hx:xs[k]?=some x)(hy:ys[k]?=some y)
  (hQ:∀ h',ZSt h' L l1 l2 a b (rawInt s.heap.objs.size) (k + 1)->iI h' s.heap.objs.size x y->(∀ c o,c≠L + 4->c≠L + 3->c≠L->c≠L + 1->s.heap.get? c=some o->h'.get? c=some o)->Q (some (.ref s.heap.objs.size)) {s with heap:=h'}) :
  wpAny (model prog w) A (eZ (.ref (L + 4))) Q E s:=by
 obtain ⟨hz,FH,⟨u,v,Hb⟩,h1,h2⟩:=Z
 have ne:∀ {m n:Nat},m≠n->((m:ah)≠(n:ah)):=λ h=>h
 have hT:s.TypeIs (.ref (L + 4)) "zip":=⟨_,hz,rfl⟩
 unfold eZ
 refine aa (iW (cz (name:=ag "__next__") hT ig
  (bQ ig hT o6 ?_ (oz _))))
 show wpAny _ _ (l5 (.ref (L + 4)) 2 >>= _) _ _ _
 refine aa (cU hz rfl (x:=.bool false) rfl ?_)
 show wpAny _ _ (l5 (.ref (L + 4)) 3 >>= _) _ _ _
 refine aa (cU hz rfl (x:=.ref (L + 2)) rfl ?_)
 refine aa (cE FH rfl ?_)
 show wpAny _ _ (cV (.ref (L + 4)) >>= _) _ _ _
 refine aa ?_
 unfold cV
 refine aa (cU hz rfl (x:=.none) rfl (am ?_))
 simp only [if_true]
 refine aa (fF ?_)
 refine aa (cU hz rfl (x:=.ref (L + 3)) rfl ?_)
 refine aa (dO hz (by simp) λ s5 Am tE=>?_)
 replace Am:lA s5 (L + 4) (L + 2) (L + 3) .ellipsis:=Am
 refine aa ?_
 simp only [o7,pn,eX,lB]
 refine aa (aa (iZ ?_))
 show wpAny _ _ (bz (.ref L) >>= _) _ _ _
 refine aa (yI (h1.extBut tE.extBut (ne (aF (lin [_] [] (.a (.v 0) (.k 1)) (.a (.v 0) (.k 4)) [] tT9)))) (x7.extBut tE.extBut (ne (aF (ae b1 (aH _ _))))) hx λ A6 C7 tL=>am ?_)
 have Ax:iI A6 (L + 3) u v:=tL.extBut _ _ (ne (bv (lin [_] [] (.a (.v 0) (.k 1)) (.a (.v 0) (.k 3)) [] tT9))) (tE.extBut _ _ (ne (aF (aZ _))) Hb)
 refine aa (cE Ax rfl ?_)
 refine aa (iJ Ax λ CF AP tO=>?_)
 replace AP:iI CF (L + 3) x v:=AP
 refine aa (m6 (am ?_))
 refine aa (aa (iZ ?_))
 show wpAny _ _ (bz (.ref (L + 1)) >>= _) _ _ _
 refine aa (yI (((h2.extBut tE.extBut (ne (aF (lin [_] [] (.a (.a (.v 0) (.k 1)) (.k 1)) (.a (.v 0) (.k 4)) [] tT9)))).extBut tL.extBut (ne (bv (aZ _)))).extBut tO.extBut (ne (aF (lin [_] [] (.a (.a (.v 0) (.k 1)) (.k 1)) (.a (.v 0) (.k 3)) [] tT9))))
  (((AL.extBut tE.extBut (ne (aF (ae b2 (aH _ _))))).extBut tL.extBut (ne (aF (b2)))).extBut tO.extBut (ne (aF (ae b2 (aH _ _))))) hy λ DQ Fh Ak=>am ?_)
 have Cs:iI DQ (L + 3) x v:=Ak.extBut _ _ (ne (bv (lin [_] [] (.a (.a (.v 0) (.k 1)) (.k 1)) (.a (.v 0) (.k 3)) [] tT9))) AP
 refine aa (cE Cs rfl ?_)
 refine aa (iJ Cs λ t0 AS Al=>?_)
 replace AS:iI t0 (L + 3) x y:=AS
 refine aa (m6 (am (am ?_)))
 refine aa (cE AS rfl ?_)
 refine aa (pK ?_)
 have Bf:t0.objs.size=s.heap.objs.size:=by (erw [Al.1];erw [Ak.1];erw [tO.1];erw [tL.1];erw [tE.1];rfl)
 have Dl:lA t0 (L + 4) (L + 2) (L + 3) .ellipsis:=Al.extBut _ _ (ne (bv (aZ _))) (Ak.extBut _ _ (ne (bv (lin [_] [] (.a (.a (.v 0) (.k 1)) (.k 1)) (.a (.v 0) (.k 4)) [] tT9))) (tO.extBut _ _ (ne (bv (aZ _))) (tL.extBut _ _ (ne (bv (lin [_] [] (.a (.v 0) (.k 1)) (.a (.v 0) (.k 4)) [] tT9))) Am)))
 have Dc:∀ (c:Nat) o,c≠L + 4->c≠L + 3->c≠L->c≠L + 1->s.heap.get? c=some o->t0.get? c=some o:=λ c o c1 c2 c3 c4 e =>
  Al.extBut _ _ c2 (Ak.extBut _ _ c4 (tO.extBut _ _ c2 (tL.extBut _ _ c3 (tE.extBut _ _ c1 e))))
 have En:SIt a t0 L l1 (k + 1):=((C7.extBut tO.extBut (ne (aF (lin [_] [] (.a (.v 0) (.k 1)) (.a (.v 0) (.k 3)) [] tT9)))).extBut Ak.extBut (ne (aF (aZ _)))).extBut Al.extBut (ne (aF (lin [_] [] (.a (.v 0) (.k 1)) (.a (.v 0) (.k 3)) [] tT9)))
 have Et:SIt b t0 (L + 1) l2 (k + 1):=Fh.extBut Al.extBut (ne (aF (lin [_] [] (.a (.a (.v 0) (.k 1)) (.k 1)) (.a (.v 0) (.k 3)) [] tT9)))
 have Fe:L + 4<t0.objs.size:=a7 Dl
 show wpAny _ _ (iT (.ref (L + 4)) (.ref t0.objs.size) >>= _) _ _ _
 refine aa ?_
 unfold iT
 have EZ:lA (t0.push {cls:=.type "tuple",data:=.seq #[x,y]}) (L + 4) (L + 2) (L + 3) .ellipsis:=aq _ Dl
 refine aa (dO EZ (by simp) λ GK Cr Dg=>?_)
 replace Cr:lA GK (L + 4) (L + 2) (L + 3) (rawInt t0.objs.size):=Cr
 refine dO Cr (by simp) λ CX Bz Dr=>?_
 replace Bz:lA CX (L + 4) (L + 2) (L + 3) (rawInt t0.objs.size):=Bz
 have up:∀ (c:Nat) o,c≠L + 4->t0.get? c=some o->CX.get? c=some o:=λ c o c1 e=>Dr.extBut _ _ c1 (Dg.extBut _ _ c1 (aq _ e))
 have Di:iI CX t0.objs.size x y:=Dr.extBut _ _ (bv Fe) (Dg.extBut _ _ (bv Fe) (aI _ rfl))
 have D3:iI t0 (L + 2) (.ref L) (.ref (L + 1)):=Dc _ _ (aF (lin [_] [] (.a (.a (.v 0) (.k 2)) (.k 1)) (.a (.v 0) (.k 4)) [] tT9)) (aF (aZ _)) (bv (lin [_] [] (.a (.v 0) (.k 1)) (.a (.v 0) (.k 2)) [] tT9)) (bv (aZ _)) FH
 rw [Bf] at Bz Di
 have fin:=hQ CX ⟨Bz,up _ _ (aF (lin [_] [] (.a (.a (.v 0) (.k 2)) (.k 1)) (.a (.v 0) (.k 4)) [] tT9)) D3,⟨_,_,up _ _ (aF (aZ _)) AS⟩,En.at λ o e=>up _ o (aF (lin [_] [] (.a (.v 0) (.k 1)) (.a (.v 0) (.k 4)) [] tT9)) e,Et.at λ o e=>up _ o (aF (lin [_] [] (.a (.a (.v 0) (.k 1)) (.k 1)) (.a (.v 0) (.k 4)) [] tT9)) e⟩ Di λ c o c1 c2 c3 c4 e=>up c o c1 (Dc c o c1 c2 c3 c4 e)
 rw [<- Bf] at fin
 exact am ⟨_,rfl,am fin⟩
theorem zCD {Q:Option af->ao->Prop}(hh:A.handled=none)(Z:ZSt s.heap L l1 l2 a b .none k)(x7:SAt a s.heap l1 xs)(AL:SAt b s.heap l2 ys)(b1:l1<L)(b2:l2<L)(B8:xs[k]?=none∨ys[k]?=none)
  (hQ:∀ h',(∀ c o,c≠L + 4->c≠L + 3->c≠L->c≠L + 1->s.heap.get? c=some o->h'.get? c=some o)->Q none {s with heap:=h'}):wpAny (model prog w) A (eZ (.ref (L + 4))) Q E s:=by
 obtain ⟨hz,FH,⟨u,v,Hb⟩,h1,h2⟩:=Z
 have ne:∀ {m n:Nat},m≠n->((m:ah)≠(n:ah)):=λ h=>h
 have hT:s.TypeIs (.ref (L + 4)) "zip":=⟨_,hz,rfl⟩
 have hE:∀ h' e,(∀ (c:Nat) o,c≠L + 4->c≠L + 3->c≠L->c≠L + 1->s.heap.get? c=some o->h'.get? c=some o)->(∃ o,h'.get? e=some o/\o.cls=.type "StopIteration") ->
   wpAny (model prog w) A (do if<-isInstance (.ref e) (.type "StopIteration") then pure none else throw (.ref e)) Q E {s with heap:=h'}:=λ h' e hk ⟨o,ho,hc⟩ =>
  aa (gL (T:="StopIteration") (b:=true) ⟨o,ho,hc⟩ pE (am (hQ _ hk)))
 unfold eZ
 refine aa (iW (cz (name:=ag "__next__") hT ig
  (bQ ig hT o6 ?_ (oz _))))
 show wpAny _ _ (l5 (.ref (L + 4)) 2 >>= _) _ _ _
 refine aa (cU hz rfl (x:=.bool false) rfl ?_)
 show wpAny _ _ (l5 (.ref (L + 4)) 3 >>= _) _ _ _
 refine aa (cU hz rfl (x:=.ref (L + 2)) rfl ?_)
 refine aa (cE FH rfl ?_)
 show wpAny _ _ (cV (.ref (L + 4)) >>= _) _ _ _
 refine aa ?_
 unfold cV
 refine aa (cU hz rfl (x:=.none) rfl (am ?_))
 simp only [if_true]
 refine aa (fF ?_)
 refine aa (cU hz rfl (x:=.ref (L + 3)) rfl ?_)
 refine aa (dO hz (by simp) λ s5 Am tE=>?_)
 replace Am:lA s5 (L + 4) (L + 2) (L + 3) .ellipsis:=Am
 refine aa ?_
 simp only [o7,pn,eX,lB]
 refine aa (aa (iZ ?_))
 show wpAny _ _ (bz (.ref L) >>= _) _ _ _
 cases hx:xs[k]? with
 | none =>
  refine aa (Jn hh (h1.extBut tE.extBut (ne (aF (lin [_] [] (.a (.v 0) (.k 1)) (.a (.v 0) (.k 4)) [] tT9)))) (x7.extBut tE.extBut (ne (aF (ae b1 (aH _ _))))) hx λ A6 e tL he=>?_)
  (refine Eea (he) λ oe D1 Ep=>?_;try clear he)
  have Dp:lA A6 (L + 4) (L + 2) (L + 3) .ellipsis:=tL _ _ (ne (bv (lin [_] [] (.a (.v 0) (.k 1)) (.a (.v 0) (.k 4)) [] tT9))) Am
  have Ha:e≠L + 4:=λ x=>by subst x;rw [Dp] at D1;(injection D1 with y4y0;subst y4y0);simp at Ep
  refine dO Dp (by simp) λ CF _ tO=>hE CF e (λ c o c1 _ c3 _ x=>tO.extBut _ _ c1 (tL _ _ c3 (tE.extBut _ _ c1 x))) ⟨oe,tO.extBut _ _ Ha D1,Ep⟩
 | some x =>
  have hy:ys[k]?=none:=by rcases B8 with h | h;rw [hx] at h;cases h;exact h
  refine aa (yI (h1.extBut tE.extBut (ne (aF (lin [_] [] (.a (.v 0) (.k 1)) (.a (.v 0) (.k 4)) [] tT9)))) (x7.extBut tE.extBut (ne (aF (ae b1 (aH _ _))))) hx λ A6 C7 tL=>am ?_)
  have Ax:iI A6 (L + 3) u v:=tL.extBut _ _ (ne (bv (lin [_] [] (.a (.v 0) (.k 1)) (.a (.v 0) (.k 3)) [] tT9))) (tE.extBut _ _ (ne (aF (aZ _))) Hb)
  refine aa (cE Ax rfl ?_)
  refine aa (iJ Ax λ CF AP tO=>?_)
  refine aa (m6 (am ?_))
  refine aa (aa (iZ ?_))
  show wpAny _ _ (bz (.ref (L + 1)) >>= _) _ _ _
  refine aa (Jn hh (((h2.extBut tE.extBut (ne (aF (lin [_] [] (.a (.a (.v 0) (.k 1)) (.k 1)) (.a (.v 0) (.k 4)) [] tT9)))).extBut tL.extBut (ne (bv (aZ _)))).extBut tO.extBut (ne (aF (lin [_] [] (.a (.a (.v 0) (.k 1)) (.k 1)) (.a (.v 0) (.k 3)) [] tT9))))
   (((AL.extBut tE.extBut (ne (aF (ae b2 (aH _ _))))).extBut tL.extBut (ne (aF (b2)))).extBut tO.extBut (ne (aF (ae b2 (aH _ _))))) hy λ DQ e Ak he=>?_)
  (refine Eea (he) λ oe D1 Ep=>?_;try clear he)
  have Do:lA DQ (L + 4) (L + 2) (L + 3) .ellipsis:=Ak _ _ (ne (bv (lin [_] [] (.a (.a (.v 0) (.k 1)) (.k 1)) (.a (.v 0) (.k 4)) [] tT9))) (tO.extBut _ _ (ne (bv (aZ _))) (tL.extBut _ _ (ne (bv (lin [_] [] (.a (.v 0) (.k 1)) (.a (.v 0) (.k 4)) [] tT9))) Am))
  have Ha:e≠L + 4:=λ x=>by subst x;rw [Do] at D1;(injection D1 with y6y0;subst y6y0);simp at Ep
  refine dO Do (by simp) λ t0 _ Al=>hE t0 e (λ c o c1 c2 c3 c4 x=>Al.extBut _ _ c1 (Ak _ _ c4 (tO.extBut _ _ c2 (tL.extBut _ _ c3 (tE.extBut _ _ c1 x))))) ⟨oe,Al.extBut _ _ Ha D1,Ep⟩
theorem zEM {elts:List aL}{x1:Nat}{pos:dD}{T:ah}{Q:Unit->ao->Prop}(Z:ZSt s.heap L l1 l2 a b (rawInt T) k)(hQ:∀ h',ZSt h' L l1 l2 a b .none k->cn (L + 4) s.heap h'->Q () {s with heap:=h'}) :
  wpAny (model prog w) A (fS (.Tuple elts x1 pos) (.ref (L + 4)) (.ref T)) Q E s:=by
 have ne:∀ {m n:Nat},m≠n->((m:ah)≠(n:ah)):=λ h=>h
 refine wpAny_letOwnedTupleGo_zip Z.z λ h' I0 Bj=>hQ h' ⟨I0,Bj.extBut _ _ (ne (aF (lin [_] [] (.a (.a (.v 0) (.k 2)) (.k 1)) (.a (.v 0) (.k 4)) [] tT9))) Z.ti,?_,Z.i1.extBut Bj.extBut (ne (aF (lin [_] [] (.a (.v 0) (.k 1)) (.a (.v 0) (.k 4)) [] tT9))),Z.i2.extBut Bj.extBut (ne (aF (lin [_] [] (.a (.a (.v 0) (.k 1)) (.k 1)) (.a (.v 0) (.k 4)) [] tT9)))⟩ Bj
 refine Eee (Z.to) λ u v e=>?_
 exact ⟨u,v,Bj.extBut _ _ (ne (aF (aZ _))) e⟩
end
section
variable {C:Cx}{T:Tabs}{F:Fm}{s s' sM:ao}{φ j' sV:ah->Prop}{μ sJ sR:List ah}{ρ sL s0:Rho}{σ σ' s4:zA}{A:aM}{h h':aR}{own:List ah}
structure Lone (h:aR)(φ:ah->Prop)(μ:List ah)(own:List ah):Prop where
 nm:∀ b,b∈own->b∉μ
 nf:∀ b,b∈own->¬ φ b
 at_:∀ b,b∈own->∃ o,h.get? b=some o
theorem Rel.butL (R:Rel C T h φ μ σ)(nm:∀ b,b∈own->b∉μ)(nf:∀ b,b∈own->¬ φ b)(k:∀ c o,c∉own->h.get? c=some o->h'.get? c=some o)(ex:∀ b,b∈own->∃ o,h'.get? b=some o) :
  Rel C T h' φ μ σ/\Ext h φ μ h' φ μ own:=by
 have kf:∀ b,φ b->φ b/\h'.get? b=h.get? b:=λ b f=>⟨f,by refine Ee (R.frz b f) λ o e=>?_;erw [e];exact k b o (λ m=>nf b m f) e⟩
 have GR:∀ b o,h.get? b=some o->∃ o',h'.get? b=some o':=λ b o e=>by
  by_cases q:b∈own
  ·exact ex b q
  ·exact ⟨o,k b o q e⟩
 refine ⟨⟨λ b o e=>by erw [(kf b (R.base b o e)).2];exact R.keep b o e,R.base,λ b f=>let ⟨o,e⟩:=R.frz b f;GR b o e,R.len,R.nodup,λ j b e=>let ⟨o,e'⟩:=R.lt j b e;GR b o e',R.apart,λ j b mo e e'=>?_⟩,
  ⟨kf,λ _ f=>.inl f,λ _ _ e=>e,λ _ _ e=>.inl e,GR,λ b o e _ nw=>by erw [k b o nw e];exact Kept.refl _⟩⟩
 refine Ee (R.lt j b e) λ o eo=>?_
 exact Zp (R.at_ j b mo e e') kf (λ _ _ e=>e) (.inr ((k b o (λ m=>nm b m (aS.mpr ⟨j,e⟩)) eo).trans eo.symm))
theorem Lone.ext (N:Lone h φ μ own)(X:Ext h φ μ h' j' sJ wr fr)(hw:∀ b,b∈own->b∉wr)(hf:∀ b,b∈own->b∉fr):Lone h' j' sJ own/\∀ b,b∈own->h'.get? b=h.get? b:=by
 have e:∀ b,b∈own->h'.get? b=h.get? b:=λ b m=>by
  refine Ee (N.at_ b m) λ o ho=>?_
  erw [ho];exact (X.oth b o ho (N.nm b m) (hw b m)).exact (hf b m)
 refine ⟨⟨λ b m=>?_,λ b m=>?_,λ b m=>?_⟩,e⟩
 ·refine Ee (N.at_ b m) λ o ho=>?_;exact X.notin ho (N.nm b m)
 ·refine Ee (N.at_ b m) λ o ho=>?_;exact X.notfrz ho (N.nm b m) (N.nf b m)
 ·erw [e b m];exact N.at_ b m
structure Walk (C:Cx)(T:Tabs)(A:aM)(it:af)(tC:aL)(own:List ah)(src:Option (Nat×List ab))(xs:List ab)(It:Nat->aR->Prop)(Sr:aR->(ah->Prop)->List ah->Prop):Prop where
 frame:∀ (k:Nat) (h h':aR),It k h->(∀ b,b∈own->h'.get? b=h.get? b)->It k h'
 live:∀ (k:Nat) (h:aR),It k h->∀ b,b∈own->∃ o,h.get? b=some o
 sr:∀ (h h':aR) (φ j':ah->Prop) (μ sJ wr fr:List ah),Sr h φ μ->Ext h φ μ h' j' sJ wr fr->Sr h' j' sJ
 turn:∀ (k:Nat) (x:ab) (s:ao) (φ:ah->Prop) (μ:List ah) (σ:zA) (Q:af->ao->Prop),xs[k]?=some x->It k s.heap->Rel C T s.heap φ μ σ->Sr s.heap φ μ->zS src σ True->Lone s.heap φ μ own ->
  (∀ v h' j' tk,Rel C T h' j' μ σ->Ext s.heap φ μ h' j' μ own->VP h' j' v x->It (k + 1) h'->Lone h' j' μ own->Q v {s with heap:=h',toks:=tk}) ->
  wpAny (model C.prog C.w) A (eZ it) (λ r sM=>match r with | none=>False | some v=>wpAny (model C.prog C.w) A (fS tC it v) (λ _ sP=>Q v sP) NoE sM) NoE s
 done:∀ (s:ao) (φ:ah->Prop) (μ:List ah) (σ:zA) (Q:Option af->ao->Prop),It xs.length s.heap->Rel C T s.heap φ μ σ->Sr s.heap φ μ->zS src σ True->Lone s.heap φ μ own ->
  (∀ h' tk,(∀ c o,c∉own->s.heap.get? c=some o->h'.get? c=some o)->Q none {s with heap:=h',toks:=tk})->wpAny (model C.prog C.w) A (eZ it) Q NoE s
 self:∀ (k:Nat) (s:ao) (Q:af->ao->Prop),It k s.heap->Q it s->wpAny (model C.prog C.w) A (gD it) Q NoE s
inductive Srt where
 | fz (l:Bool) (a:ah)
 | ob (i:Nat) (a:ah)
noncomputable def Srt.l:Srt->Bool
 | .fz l _=>l
 | .ob _ _=>true
noncomputable def Srt.a:Srt->ah
 | .fz _ a=>a
 | .ob _ a=>a
def Srt.ok (S:Srt)(xs:List ab)(h:aR)(φ:ah->Prop)(μ:List ah):Prop:=match S with
 | .fz l a=>φ a/\∃ vs:List af,SAt l h a vs.toArray/\VPs h φ vs xs
 | .ob i a=>μ[i]?=some a
def Srt.stay (S:Srt)(xs:List ab)(σ:zA):Prop:=match S with
 | .fz _ _=>True
 | .ob i _=>σ[i]?=some (.lst xs)
theorem Srt.at_ {S:Srt}(R:Rel C T h φ μ σ)(o:S.ok xs h φ μ)(t:S.stay xs σ):∃ vs:List af,SAt S.l h S.a vs.toArray/\VPs h φ vs xs:=by
 cases S with
 | fz l a=>exact o.2
 | ob i a =>
  refine Eeea (R.at_ i a _ o t) λ vs n ho hp=>?_
  exact ⟨vs,⟨_,ho,rfl,_,rfl⟩,hp⟩
theorem Srt.ext {S:Srt}(o:S.ok xs h φ μ)(X:Ext h φ μ h' j' sJ wr fr):S.ok xs h' j' sJ:=by
 cases S with
 | fz l a =>
  (refine Ea (o) λ f tM=>?_;try clear o;refine Eea tM λ vs h1 h2=>?_)
  exact ⟨(X.frz a f).1,vs,h1.at λ o e=>(X.frz a f).2.trans e,X.vps h2⟩
 | ob i a=>exact X.pre i a o
theorem W8 (R:Rel C T h φ μ σ)(V:VD h φ μ v d)(e:zu σ d=some xs):∃ S:Srt,v=.ref S.a/\S.ok xs h φ μ/\S.stay xs σ/\(∀ i,d=.obj i->S=.ob i S.a)/\((∀ i,d≠.obj i)->∃ l,S=.fz l S.a):=by
 cases d with
 | p x =>
  obtain ⟨a,vs,rfl,f,r,⟨_,ht⟩ | ⟨_,ht⟩⟩:=Qn V.ip e
  ·exact ⟨.fz false a,rfl,⟨f,_,ht.t,r⟩,trivial,λ i h=>(nomatch h),λ _=>⟨_,rfl⟩⟩
  ·exact ⟨.fz true a,rfl,⟨f,_,ht,r⟩,trivial,λ i h=>(nomatch h),λ _=>⟨_,rfl⟩⟩
 | obj i =>
  refine V.mobj λ a ha=>?_
  exact ⟨.ob i a,rfl,ha,QI e,λ j h=>by (injection h with y1y0;subst y1y0);rfl,λ h=>absurd rfl (h _)⟩
 | _=>exact nn e
theorem WM {I:ah}{tC:aL}{S:Srt}(hA:A.handled=none)(hs:∀ σ,zS src σ True->S.stay xs σ) :
  Walk C T A (.ref I) tC [I] src xs (λ k h=>SIt S.l h I S.a k) (λ h φ μ=>S.ok xs h φ μ):=by
 have De:∀ (k:Nat) (h:aR),SIt S.l h I S.a k->∃ o,h.get? I=some o:=λ k h x=>by
  refine Eeaa (x.obj) λ o ho hc _=>?_
  exact ⟨o,ho⟩
 refine ⟨λ k h h' x e=>x.at λ o q=>(e I (by simp)).trans q,λ k h x b m=>by rw [aG] at m;erw [m];exact De k h x,λ h h' φ j' μ sJ wr fr o X=>Srt.ext o X,?_,?_,λ k s Q x q=>vh x q⟩
 ·intro k x s φ μ σ Q hx tB R o st N hQ
  refine Eea (Srt.at_ R o (hs σ st)) λ vs h1 h2=>?_
  refine Eea (h2.get hx) λ v hv hp=>?_
  refine VE tB h1 (by simpa using hv) λ h' x9 Bj=>?_
  (refine Eeaa (x9.obj) λ o' x6 Aq Aw=>?_;refine Ee Aw λ fs BD=>?_)
  refine js x6 Aq BD (by cases S.l <;> decide) ?_
  obtain ⟨R',X⟩:=R.butL (h':=h') N.nm N.nf (λ c o m e=>Bj.extBut c o (λ q=>m (by simp [q])) e) λ b m=>by rw [aG] at m;erw [m];exact ⟨o',x6⟩
  refine hQ v h' φ s.toks R' X (X.vp hp) x9 ⟨N.nm,N.nf,λ b m=>by rw [aG] at m;erw [m];exact De _ _ x9⟩
 ·intro s φ μ σ Q tB R o st N hQ
  refine Eea (Srt.at_ R o (hs σ st)) λ vs h1 h2=>?_
  have hl:=h2.length
  exact zBs hA tB h1 (by simp [hl]) λ h' he=>hQ h' s.toks λ c o m e=>he c o (λ q=>m (by simp [q])) e
theorem zAl {I:ah}{tC:aL}{a:Int}{m:Nat}(hA:A.handled=none) :
  Walk C T A (.ref I) tC [I] none ((gX m).map λ (j:Nat)=>be (a + j)) (λ k h=>iK h I (a + (k:Nat)) ((m:Int) - (k:Nat)) 1) (λ _ _ _=>True):=by
 have W:=Walks.range (prog:=C.prog) (w:=C.w) hA I a 1 m
 have De:∀ (k:Nat) (h:aR),iK h I (a + (k:Nat)) ((m:Int) - (k:Nat)) 1->∃ o,h.get? I=some o:=λ k h x=>⟨_,x⟩
 refine ⟨λ k h h' x e=>by unfold iK at x ⊢;erw [e I (by simp)];exact x,λ k h x b m=>by rw [aG] at m;erw [m];exact De k h x,λ h h' φ j' μ sJ wr fr o X=>trivial,?_,?_,λ k s Q x q=>?_⟩
 ·intro k x s φ μ σ Q hx tB R o st N hQ
  rw [a6,bL] at hx
  (refine Eea (hx) λ j hj AU=>?_;try clear hx;obtain rfl:=AU)
  have D9:k<m:=by have:=(av.mp hj).1;simpa using this
  have Ko:j=k:=by rw [List.getElem?_range D9] at hj;(injection hj with y2y0;subst y2y0);rfl
  subst Ko
  refine W.item j s _ _ D9 (by simpa using tB) λ v h' tk hv tu hk=>?_
  (refine Ee (hv) λ t A8=>?_;try clear hv;obtain rfl:=A8)
  have BV:iK h' I (a + ((j + 1:Nat):Nat)) ((m:Int) - ((j + 1:Nat):Nat)) 1:=by simpa using tu
  refine js BV rfl rfl (by decide) ?_
  obtain ⟨R',X⟩:=R.butL (h':=h') N.nm N.nf (λ c o m e=>hk c o m e) λ b m=>by rw [aG] at m;erw [m];exact ⟨_,BV⟩
  refine hQ _ h' φ tk R' X (by simpa using VP.int _ _) BV ⟨N.nm,N.nf,λ b m=>by rw [aG] at m;erw [m];exact De _ _ BV⟩
 ·intro s φ μ σ Q tB R o st N hQ
  refine W.done s Q NoE (by simpa using tB) λ h' tk hk=>hQ h' tk hk
 ·exact W.self k s _ _ (by simpa using x) q
theorem Vl (h1:L<=c)(h2:c<=L + 4):c∈[L,L + 1,L + 2,L + 3,L + 4] :=
 (aU.mpr ⟨c - L,iw.mpr (gj h1 (kC h2)),Nat.add_sub_of_le h1⟩:c∈(gX 5).map (L + ·))
theorem VA {P:Nat->Prop}{a b d e:Nat}(ha:P a)(hb:P b)(hc:P c)(hd:P d)(he:P e)(x:Nat)(m:x∈[a,b,c,d,e]):P x :=
 cQ.mpr ⟨ha,cQ.mpr ⟨hb,cQ.mpr ⟨hc,cQ.mpr ⟨hd,cQ.mpr ⟨he,λ _ m=>absurd m eA⟩⟩⟩⟩⟩ x m
theorem V9 {elts:List aL}{x1:Nat}{pos:dD}{S1 S2:Srt}{ys:List ab}(hA:A.handled=none)(hs:∀ σ,zS src σ True->S1.stay xs σ/\S2.stay ys σ)(b1:(show Nat from S1.a)<L)(b2:(show Nat from S2.a)<L) :
  Walk C T A (.ref (L + 4)) (.Tuple elts x1 pos) [L,L + 1,L + 2,L + 3,L + 4] src ((xs.zip ys).map λ p=>.tuple [p.1,p.2]) (λ k h=>ZSt h L S1.a S2.a S1.l S2.l .none k) (λ h φ μ=>S1.ok xs h φ μ/\S2.ok ys h φ μ):=by
 have De:∀ (k:Nat) (f0:af) (h:aR),ZSt h L S1.a S2.a S1.l S2.l f0 k->∀ b,b∈[L,L + 1,L + 2,L + 3,L + 4]->∃ o,h.get? b=some o:=λ k f0 h x b m=>by
  exact VA (P:=λ b=>∃ o,h.get? b=some o) (Eeaa (x.i1.obj) λ o ho _ _=>⟨o,ho⟩) (Eeaa (x.i2.obj) λ o ho _ _=>⟨o,ho⟩) ⟨_,x.ti⟩ (Eee (x.to) λ _ _ e=>⟨_,e⟩) ⟨_,x.z⟩ b m
 have mem:∀ c:Nat,c∉[L,L + 1,L + 2,L + 3,L + 4]->c≠L + 4/\c≠L + 3/\c≠L/\c≠L + 1:=λ c m=>by
  exact ⟨λ e=>m (e▸.tail _ (.tail _ (.tail _ (.tail _ (.head _))))),λ e=>m (e▸.tail _ (.tail _ (.tail _ (.head _)))),λ e=>m (e▸.head _),λ e=>m (e▸.tail _ (.head _))⟩
 refine ⟨λ k h h' x e=>x.at λ c o h1 h2 q=>(e c ?_).trans q,λ k h x=>De k _ h x,λ h h' φ j' μ sJ wr fr o X=>⟨Srt.ext o.1 X,Srt.ext o.2 X⟩,?_,?_,λ k s Q x q=>wpAny_pyIter_zip x.z q⟩
 ·exact Vl h1 h2
 ·intro k x s φ μ σ Q hx tB R o st N hQ
  refine Ea (hs σ st) λ Ho Gk=>?_
  refine Eea (Srt.at_ R o.1 Ho) λ vs h1 h2=>?_
  refine Eea (Srt.at_ R o.2 Gk) λ ws h3 h4=>?_
  rw [a6,bL] at hx
  (refine Eea (hx) λ Bo=>?_;try clear hx;obtain ⟨K6,IL⟩:=Bo;intro hz D5;obtain rfl:=D5)
  refine Ea (lI.mp hz) λ Km I3=>?_
  refine Eea (h2.get Km) λ EH KR BX=>?_
  refine Eea (h4.get I3) λ CY HF BP=>?_
  refine Vn tB h1 h3 b1 b2 (by simpa using KR) (by simpa using HF) λ h' Z' hP hk=>?_
  refine zEM Z' λ Be HS BL=>?_
  have s3:L + 4<s.heap.objs.size:=a7 tB.z
  have keep:∀ c o,c∉[L,L + 1,L + 2,L + 3,L + 4]->s.heap.get? c=some o->Be.get? c=some o:=λ c o m e=>by
   refine Z0 (mem c m) λ c1 c2 c3 c4=>?_
   exact (BL.2 c c1).trans (hk c o c1 c2 c3 c4 e)
  have C6:=De _ _ _ HS
  refine Ea (R.butL (h':=Be) N.nm N.nf keep C6) λ R' X=>?_
  have hT:Be.get? s.heap.objs.size=some {cls:=.type "tuple",data:=.seq #[EH,CY]}:=(BL.2 _ (bv s3)).trans hP
  have Dq:s.heap.get? s.heap.objs.size=none:=zj _
  have GI:s.heap.objs.size∉μ:=R.notin_none Dq
  have E7:=R'.more hT GI
  have DF:Ext s.heap φ μ Be (λ a=>φ a∨a=s.heap.objs.size) μ [L,L + 1,L + 2,L + 3,L + 4]:=X.more Dq
  refine hQ (.ref s.heap.objs.size) Be (λ a=>φ a∨a=s.heap.objs.size) s.toks E7 DF (.tup (vs:=[EH,CY]) (.inr rfl) (Tup.new hT) (.cons (DF.vp BX) (.cons (DF.vp BP) .nil))) HS ⟨N.nm,λ b m f=>?_,C6⟩
  rcases f with f | rfl
  ·exact N.nf b m f
  ·refine Ee (N.at_ _ m) λ o ho=>?_
   rw [Dq] at ho;cases ho
 ·intro s φ μ σ Q tB R o st N hQ
  refine Ea (hs σ st) λ Ho Gk=>?_
  refine Eea (Srt.at_ R o.1 Ho) λ vs h1 h2=>?_
  refine Eea (Srt.at_ R o.2 Gk) λ ws h3 h4=>?_
  have l1:=h2.length
  have l2:=h4.length
  refine zCD hA tB h1 h3 b1 b2 ?_ λ h' hk=>hQ h' s.toks λ c o m e=>?_
  ·simp only [aj,List.length_zip,dU,List.getElem?_eq_none_iff]
   lia
  ·refine Z0 (mem c m) λ c1 c2 c3 c4=>?_
   exact hk c o c1 c2 c3 c4 e
end
section
variable {C:Cx}{T:Tabs}{F:Fm}{s s' sQ sM:ao}{φ j' sS sV:ah->Prop}{μ sJ sT sR:List ah}{ρ sL tV s0:Rho}{σ σ' s4:zA}{A:aM}{h h':aR}{own:List ah}{n:Nat}
theorem zDK (I:FrI F sQ.heap sS sT tV)(hf:∀ b,b∈own->sQ.heap.get? b=none):∀ b,b∈own->b∉F.env.locals::F.own:=λ b m=>I.ne_own (hf b m)
theorem Go.butL (I:FrI F sQ.heap sS sT tV)(G:Go C T F sQ sS sT s φ μ ρ σ)(hf:∀ b,b∈own->sQ.heap.get? b=none)(R':Rel C T h' j' μ σ)(X:Ext s.heap φ μ h' j' μ own):Go C T F sQ sS sT {s with heap:=h',toks:=tk} j' μ ρ σ:=by
 refine G.mst λ hh A9=>?_
 refine ⟨⟨h',tk,rfl⟩,R',G.fr.ext X (λ m=>I.ne_locals (hf _ m) rfl) (λ y c hc m=>?_) (λ v L hv hl _ m=>I.ne_out (hf _ m) hv hl rfl),G.ext.step X λ b m=>.inl (hf b m)⟩
 obtain ⟨c',Aq,e⟩:∃ c',F.env.cells.lookup y=some c'/\c'=c:=⟨c,hc,rfl⟩
 exact I.ne_cells (hf _ m) hc rfl
theorem Rel.endL (R:Rel C T s.heap φ μ σ)(nm:∀ b,b∈own->b∉μ)(nf:∀ b,b∈own->¬ φ b)(k:∀ c o,c∉own->s.heap.get? c=some o->h'.get? c=some o):(∀ b,φ b->φ b/\h'.get? b=s.heap.get? b)/\Rel C T h' φ μ σ:=by
 have kf:∀ b,φ b->φ b/\h'.get? b=s.heap.get? b:=λ b f=>⟨f,by refine Ee (R.frz b f) λ o e=>?_;refine rwE (show s.heap.get? b=some o from e) ?_;exact k b o (λ m=>nf b m f) e⟩
 have km:∀ (j:Nat) (b:ah),μ[j]?=some b->h'.get? b=s.heap.get? b:=λ j b e=>by
  refine Ee (R.lt j b e) λ o eo=>?_
  refine rwE (show s.heap.get? b=some o from eo) ?_;exact k b o (λ m=>nm b m (aS.mpr ⟨j,e⟩)) eo
 have R':Rel C T h' φ μ σ:=⟨λ b o e=>by erw [(kf b (R.base b o e)).2];exact R.keep b o e,R.base,λ b f=>by erw [(kf b f).2];exact R.frz b f,R.len,R.nodup,λ j b e=>by erw [km j b e];exact R.lt j b e,R.apart,
  λ j b mo e e'=>Zp (R.at_ j b mo e e') kf (λ _ _ e=>e) (.inr (km j b e))⟩
 exact ⟨kf,R'⟩
theorem Go.endL {tk:Nat}(I:FrI F sQ.heap sS sT tV)(G:Go C T F sQ sS sT s φ μ ρ σ)(hf:∀ b,b∈own->sQ.heap.get? b=none)(nm:∀ b,b∈own->b∉μ)(nf:∀ b,b∈own->¬ φ b)(k:∀ c o,c∉own->s.heap.get? c=some o->h'.get? c=some o) :
  Go C T F sQ sS sT {s with heap:=h',toks:=tk} φ μ ρ σ:=by
 have R:=G.rel
 refine Ea (R.endL nm nf k) λ kf R'=>?_
 have old:∀ b o,sQ.heap.get? b=some o->b∉own:=λ b o e m=>by rw [hf b m] at e;cases e
 have AC:∀ b o,sQ.heap.get? b=some o->∀ o',s.heap.get? b=some o'->h'.get? b=some o':=λ b o e o' e'=>k b o' (old b o e) e'
 refine ⟨(Eee G.st λ _ _ e9=>⟨h',tk,by rw [e9]⟩),R',?_,⟨λ a f=>⟨(G.ext.frz a f).1,(kf a (G.ext.frz a f).1).2.trans (G.ext.frz a f).2⟩,G.ext.new,G.ext.pre,G.ext.fresh,λ b o e=>?_,λ b o e nm nw=>?_⟩⟩
 ·refine Eea (G.fr.loc) λ m hn hm=>?_
  have hL:F.env.locals∉own:=λ m=>I.ne_locals (hf _ m) rfl
  refine ⟨G.fr.kind,G.fr.glob,G.fr.blt,G.fr.len,⟨m,?_,λ i y hi=>⟨(hm i y hi).1,(hm i y hi).2.mono kf λ _ _ e=>e⟩⟩,λ i y kk hi hk=>?_,G.fr.uniq,G.fr.Lμ,G.fr.Lφ,λ y c hc=>?_,G.fr.cinj,λ c hc=>?_,G.fr.outsK λ v L o hv hl h1 h2 h3 _ _=>⟨⟨o,k _ _ (λ m=>I.ne_out (hf _ m) hv hl rfl) h1,rfl⟩,h2,h3⟩⟩
  ·(refine Eeeea (hn) λ o es ep ho r=>?_;try clear hn);exact ⟨o,es,ep,k _ _ hL ho,r⟩
  ·(refine Ea (G.fr.cell i y kk hi hk) λ h1 tM=>?_;refine Eeeaaa tM λ c v Ah Ap BU BO=>?_)
   refine ⟨h1,c,v,Ah,?_,BU.mono kf λ _ _ e=>e,BO⟩
   (refine Eea (Ap) λ o ho hd=>?_;try clear Ap)
   exact ⟨o,k _ _ (λ m=>I.ne_cells (hf _ m) Ah rfl) ho,hd⟩
  ·(refine Z0 (G.fr.cμ y c hc) λ AF=>?_;(refine Ee (AF) λ o h0=>?_;try clear AF);intro h1 h2 h3)
   exact ⟨⟨o,k _ _ (λ m=>I.ne_cells (hf _ m) hc rfl) h0⟩,h1,h2,h3⟩
  ·refine Ee (G.fr.own c hc) λ o ho=>?_
   exact ⟨o,k _ _ (λ m=>I.ne_own (hf _ m) (bU _ hc)) ho⟩
 ·refine Ee (G.ext.ex b o e) λ o' e'=>?_
  exact ⟨o',AC b o e o' e'⟩
 ·rcases G.ext.oth b o e nm nw with q | ⟨hc,sl,q⟩
  ·exact .inl (AC b o e _ q)
  ·exact .inr ⟨hc,sl,AC b o e _ q⟩
theorem qn {σ:zA}{K:Prop}(h:zS src σ K):zS src σ True/\K:=by
 cases src with
 | none=>exact ⟨trivial,h⟩
 | some p=>exact ⟨⟨h.1,trivial⟩,h.2⟩
noncomputable def zK (C:Cx)(T:Tabs)(n:Nat)(t:Pt)(body:List St)(src:Option (Nat×List ab))(Q:Fl->Rho->zA->Prop):ab->Rho×zA->(Rho×zA->Prop)->Prop :=
 λ x a K=>Is (Zd t x a.1) λ sL=>wpSs C T n body sL a.2 λ fl t6 sK=>yB fl (λ d=>Q (.ret d) t6 sK) (zS src sK (K (t6,sK)))
abbrev zAK (C:Cx) (T:Tabs) (n:Nat) (F:Fm) (sQ:ao) (sS:ah->Prop) (sT own:List ah) (It:Nat->aR->Prop) (Sr:aR->(ah->Prop)->List ah->Prop) (src:Option (Nat×List ab)) (t:Pt) (body:List St) (xs:List ab) (Q:Fl->Rho->zA->Prop) (m:Nat) (s:ao):Prop :=
 ∃ k φ μ ρ σ,m=xs.length - k/\k<=xs.length/\Go C T F sQ sS sT s φ μ ρ σ/\It k s.heap/\Lone s.heap φ μ own/\Sr s.heap φ μ/\zS src σ True/\zH (zK C T n t body src Q) (xs.drop k) (ρ,σ) λ a=>Q .next a.1 a.2
theorem VU {it:af}{tC:aL}{t:Pt}{Cg:List fw}{body:List St}{src:Option (Nat×List ab)}{xs:List ab}{It:Nat->aR->Prop}{Sr:aR->(ah->Prop)->List ah->Prop}{Q:Fl->Rho->zA->Prop}
  (W:Walk C T A it tC own src xs It Sr) (hA:A.handled=none) (ht:trP F.ks tC=some t) (hb:∀ ρ σ Q,wpSs C T n body ρ σ Q->DS C T F A (execs Cg F.env) ρ σ Q)
  (tY:FrI F sQ.heap sS sT tV) (hf:∀ b,b∈own->sQ.heap.get? b=none) (G:Go C T F sQ sS sT s φ μ ρ σ) (tB:It 0 s.heap) (N:Lone s.heap φ μ own) (AH:Sr s.heap φ μ) (tu:zS src σ True)
  (hw:zH (zK C T n t body src Q) xs (ρ,σ) λ a=>Q .next a.1 a.2) :
  dZ (model C.prog C.w) A (.forLoop tC it Cg [] F.env) (λ r s'=>match r with | .ok f=>PS C T F sQ sS sT Q f s' | .error e=>cameBackBy (model C.prog C.w) A F.env NoE e s') s:=by
 refine codeAny_forLoop_any (zAK C T n F sQ sS sT own It Sr src t body xs Q)
  (λ m s hI=>?_) xs.length ⟨0,φ,μ,ρ,σ,rfl,bO _,G,tB,N,AH,tu,by simpa using hw⟩
 clear G tB N AH tu hw
 refine Eee hI λ k φ hI=>?_
 refine Eeeea hI λ μ ρ σ hm hI=>?_
 refine uO hI λ hk G tB N hI=>?_
 refine Eaa hI λ AH tu hw=>?_
 erw [hm]
 clear hm
 by_cases s3:k<xs.length
 ·have hx:xs[k]?=some xs[k]:=aw s3
  rw [eK s3] at hw
  refine Eea (Is.h hw) λ sL FQ hw=>?_
  refine ay (W.turn k xs[k] s φ μ σ (λ v B4=>wpAny (model C.prog C.w) A (ge tC F.env v) (λ _ sP=>wpAny (model C.prog C.w) A (execs Cg F.env) (λ f tI=>match f with
    | .next | .cont=>∃ m,m<xs.length - k/\zAK C T n F sQ sS sT own It Sr src t body xs Q m tI
    | .brk=>PS C T F sQ sS sT Q .next tI
    | .ret v=>PS C T F sQ sS sT Q (.ret v) tI) NoE sP) NoE B4) hx tB G.rel AH tu N λ v h' j' tk R' X V x9 N'=>?_) (λ r sM hr=>?_) λ _ _ e=>e.elim
  ·have G1:Go C T F sQ sS sT {s with heap:=h',toks:=tk} j' μ ρ σ:=Go.butL tY G hf R' X
   refine ay (Um hA t tC xs[k] ρ sL _ j' μ v ht FQ G1.rel G1.fr V) (λ _ sP G2=>?_) λ _ _ e=>e
   have tq:=zDK tY hf
   have Ec:∀ b,b∈own->b∉frL F.fs:=λ b m=>tY.ne_fr (hf b m)
   refine Ea (N'.ext G2.ext tq Ec) λ N2 e2=>?_
   have C0:=W.frame _ _ _ x9 e2
   have CH:=W.sr _ _ _ _ _ _ _ _ (W.sr _ _ _ _ _ _ _ _ AH X) G2.ext
   refine ay (hb sL σ _ hw sP j' μ G2.rel G2.fr) (λ f tI hp=>?_) λ _ _ e=>e
   (refine Eeeeeeaa (hp) λ Aa Ab fl C4 sO G3 Kz hq=>?_;try clear hp)
   have CI:=(G1.trans G2).trans G3
   refine Ea (N2.ext G3.ext tq Ec) λ N3 e3=>?_
   cases Kz with
   | next =>
    refine Ea (qn hq) λ q1 q2=>?_
    exact ⟨xs.length - (k + 1),fU s3 (aZ k),k + 1,Aa,Ab,C4,sO,rfl,s3,CI,W.frame _ _ _ C0 e3,N3,W.sr _ _ _ _ _ _ _ _ CH G3.ext,q1,q2⟩
   | cont =>
    refine Ea (qn hq) λ q1 q2=>?_
    exact ⟨xs.length - (k + 1),fU s3 (aZ k),k + 1,Aa,Ab,C4,sO,rfl,s3,CI,W.frame _ _ _ C0 e3,N3,W.sr _ _ _ _ _ _ _ _ CH G3.ext,q1,q2⟩
   | ret V'=>exact psI CI (.ret V') hq
  ·cases r with
   | none=>exact hr.elim
   | some v=>exact ay hr (λ _ sP h2=>ay h2 (λ _ tI h3=>ay h3 (λ f Ay h4=>h4) λ _ _ e=>e.elim) λ _ _ e=>e.elim) λ _ _ e=>e.elim
 ·have Dn:k=xs.length:=by exact bl (hk) ((bk s3))
  subst Dn
  rw [o8] at hw
  refine ay (W.done s φ μ σ (λ r sM=>r=none/\Go C T F sQ sS sT sM φ μ ρ σ) tB G.rel AH tu N λ h' tk kk=>⟨rfl,Go.endL tY G hf N.nm N.nf kk⟩) (λ r sM ⟨hr,G1⟩=>?_) λ _ _ e=>e.elim
  subst hr
  exact po (psI G1 .next hw)
end
section
variable {C:Cx}{T:Tabs}{F:Fm}{s s' sQ sM:ao}{φ j' sS sV:ah->Prop}{μ sJ sT sR:List ah}{ρ sL tV s0:Rho}{σ σ' s4:zA}{A:aM}{h h':aR}{own:List ah}{n:Nat}
theorem FrI.weaken (I:FrI F h φ μ ρ)(hl:sL.length=ρ.length)(hw:∀ j,j<ρ.length->sL[j]?=some none∨sL[j]?=ρ[j]?):FrI F h φ μ sL:=by
 have w:∀ {j:Nat} {o:Option af},j<ρ.length->OptV h φ μ o ρ[j]?->OptV h φ μ o sL[j]?:=λ {j o} hj p=>by
  rcases hw j hj with e | e
  ·erw [e];exact .no o
  ·erw [e];exact p
 refine Eea (I.loc) λ m hn hm=>?_
 refine ⟨I.kind,I.glob,I.blt,hl.trans I.len,⟨m,hn,λ i x hi=>⟨(hm i x hi).1,w ?_ (hm i x hi).2⟩⟩,λ i x k hi hk=>?_,I.uniq,I.Lμ,I.Lφ,I.cμ,I.cinj,I.own,I.outs⟩
 ·erw [I.len];exact (av.mp hi).1
 ·(refine Ea (I.cell i x k hi hk) λ h1 tM=>?_;refine Eeeaaa tM λ c v Ah Ap BU BO=>?_)
  exact ⟨h1,c,v,Ah,Ap,w (by erw [I.len];exact (av.mp hi).1) BU,BO⟩
theorem Lone.one {b:ah}(h1:b∉μ)(h2:¬ φ b)(h3:h.get? b=some o):Lone h φ μ [b] :=
 ⟨λ c m=>by rw [aG] at m;erw [m];exact h1,λ c m=>by rw [aG] at m;erw [m];exact h2,λ c m=>by rw [aG] at m;erw [m];exact ⟨o,h3⟩⟩
noncomputable def DI (C:Cx)(T:Tabs)(F:Fm)(A:aM)(FF tC:aL)(ρ:Rho)(σ:zA)(K:List ab->Option (Nat×List ab)->zA->Prop):Prop :=
 ∀ (s:ao) (φ:ah->Prop) (μ:List ah) (X:af->ao->Prop),Rel C T s.heap φ μ σ->FrI F s.heap φ μ ρ ->
  (∀ it s' j' sJ σ' own src xs It Sr,Go C T F s φ μ s' j' sJ ρ σ'->Walk C T A it tC own src xs It Sr->It 0 s'.heap->Lone s'.heap j' sJ own->(∀ b,b∈own->s.heap.get? b=none)->Sr s'.heap j' sJ->zS src σ' True->K xs src σ'->X it s') ->
  wpAny (model C.prog C.w) A (eval FF F.env) (λ x sM=>wpAny (model C.prog C.w) A (gD x) X NoE sM) NoE s
theorem uc {S:Srt}{tC:aL}{X:af->ao->Prop}(hA:A.handled=none)(G:Go C T F s φ μ s' j' sJ ρ σ')(o:S.ok xs s'.heap j' sJ)(t:S.stay xs σ')(hs:∀ σ,zS src σ True->S.stay xs σ)(st:zS src σ' True)(q:K xs src σ')
  (hX:∀ it s' j' sJ σ' own src xs It Sr,Go C T F s φ μ s' j' sJ ρ σ'->Walk C T A it tC own src xs It Sr->It 0 s'.heap->Lone s'.heap j' sJ own->(∀ b,b∈own->s.heap.get? b=none)->Sr s'.heap j' sJ->zS src σ' True->K xs src σ'->X it s') :
  wpAny (model C.prog C.w) A (gD (.ref S.a)) X NoE s':=by
 refine Eea (Srt.at_ G.rel o t) λ vs h1 h2=>?_
 refine zC4 h1 λ h' tB hk=>?_
 refine Ea (G.rel.grow hk) λ R' X'=>?_
 have G':Go C T F s φ μ {s' with heap:=h'} j' sJ ρ σ':=G.trans (Go.of_ext (tk:=s'.toks) G.fr R' X')
 have fr:=zj s'.heap
 refine Eeaa (tB.obj) λ o' x6 _ BD=>?_
 refine hX _ _ j' sJ σ' [s'.heap.objs.size] src xs _ _ G' (WM hA hs) tB (Lone.one (G.rel.notin_none fr) (G.rel.notfrz_none fr) x6) (λ b m=>?_) (Srt.ext o X') st q
 rw [aG] at m;erw [m];exact G.ext.back fr
theorem W9 (a b:Int):l6 a b 1=((b - a).toNat:Int):=by
 erw [rangeSize_one]
 split
 ·next h=>exact (bH (ck (Int.sub_pos_of_lt h))).symm
 ·next h=>exact (congrArg Int.ofNat (Int.toNat_of_nonpos (iu (cy.mp h)))).symm
theorem Vb {FF:aL}(hA:A.handled=none)(hx:DX C T F A (eval FF F.env) ρ σ λ d σ'=>zk σ' d λ xs i=>K xs i σ'):DI C T F A FF tC ρ σ K:=by
 intro s φ μ X R I hX
 refine hx.seq R I λ s' j' sJ v d σ' G V q=>?_
 cases d with
 | p x =>
  refine Eea (q.h) λ xs e q=>?_
  obtain ⟨a,vs,rfl,f,r,⟨_,ht⟩ | ⟨_,ht⟩⟩:=Qn V.ip e
  ·exact uc (S:=.fz false _) (src:=none) hA G ⟨f,_,ht.t,r⟩ trivial (λ _ _=>trivial) trivial q hX
  ·exact uc (S:=.fz true _) (src:=none) hA G ⟨f,_,ht,r⟩ trivial (λ _ _=>trivial) trivial q hX
 | obj i =>
  refine Eea (q.h) λ xs e q=>?_
  refine V.mobj λ a ha=>?_
  exact uc (S:=.ob i a) (src:=some (i,xs)) hA G ha (QI e) (λ _ st=>st.1) ⟨QI e,trivial⟩ q hX
 | rng a b =>
  refine Ea (q) λ rg q=>?_
  refine V.mrng λ r t u w f ht=>?_
  refine wpAny_pyIter_range ht (small_one rg.h.1 rg.h.2.1 rg.h.2.2.1 rg.h.2.2.2) ?_
  have Bf:l6 a b 1=((b - a).toNat:Int):=W9 a b
  erw [Bf]
  have g:=aI s'.heap (o:={cls:=.type "range_iterator",data:=.fields #[rawInt a,rawInt ((b - a).toNat:Int),rawInt 1]}) rfl
  have tB:iK (s'.heap.push {cls:=.type "range_iterator",data:=.fields #[rawInt a,rawInt ((b - a).toNat:Int),rawInt 1]}) s'.heap.objs.size (a + (0:Nat)) (((b - a).toNat:Int) - (0:Nat)) 1:=by
   (refine rwE (show a + ((0:Nat):Int)=a from bJ a) ?_;refine rwE (show ((b - a).toNat:Int) - ((0:Nat):Int)=_ from Int.sub_zero _) ?_);exact g
  refine Ea (G.rel.grow (h':=s'.heap.push {cls:=.type "range_iterator",data:=.fields #[rawInt a,rawInt ((b - a).toNat:Int),rawInt 1]}) λ _ _ e=>aq _ e) λ R' X'=>?_
  have G':=G.trans (Go.of_ext (tk:=s'.toks) G.fr R' X')
  have fr:=zj s'.heap
  refine hX _ _ j' sJ σ' [s'.heap.objs.size] none _ _ _ G' (zAl hA) tB (Lone.one (G.rel.notin_none fr) (G.rel.notfrz_none fr) g) (λ b m=>?_) trivial trivial q
  rw [aG] at m;erw [m];exact G.ext.back fr
 | zp _ _ _ _=>exact V.izp
 | _=>exact q.elim
end
section
variable {C:Cx}{T:Tabs}{F:Fm}{s s':ao}{φ j':ah->Prop}{μ sJ:List ah}{ρ sL:Rho}{σ σ':zA}{A:aM}{n:Nat}
theorem Jo {A:aM}(hA:Room n A):A.in1.in1.units<cLine:=by
 show A.units + 1 + 1<cLine
 have:=hA.units;exact lin [_,_,_] [] (.a (.a (.a (.v 0) (.k 1)) (.k 1)) (.k 1)) (.v 1) [(1,.l (.a (.a (.a (.v 0) (.m 20 (.v 2))) (.k 400)) (.k 1)) (.v 1))] tT9 this
theorem wF {A:aM}(hA:Room n A):A.in1.units<cLine:=Nat.lt_of_succ_lt (Jo hA)
theorem wA {Q:D->zA->Prop}{m:Bool}{l:List (Int×Bool)}(hA:Room n A)(R:Rel C T s.heap φ μ σ)(I:FrI F s.heap φ μ ρ)(V:VD s.heap φ μ v d)(e:zu σ d=some (l.map zI))(hb:BitsOk l)
  (q:Zk m ((ZM l).map zI) σ Q):wpAny (model C.prog C.w) A (call (.builtin "sorted") [v]) (PV C T F s φ μ ρ Q) NoE s:=by
 refine Eeeaa (uZ R V e) λ a vs e1 hs vp=>?_
 erw [e1]
 have hl:vs.length=l.length:=vp.length.trans (aj ..)
 have hz:vs.toArray.size<=cJ:=by (erw [aK];erw [hl];erw [cA]);have:=hb.few;exact lin [_] [] (.v 0) (.k 16777216) [(1,.l (.a (.v 0) (.k 1)) (.k 64))] tT9 this
 have key:∀ h',(∀ b o,s.heap.get? b=some o->h'.get? b=some o)->wpAny (model C.prog C.w) A.in1 (do let l<-newList vs;let _<-cR [l] (call (.builtin "list.sort") [l]);ret l) (λ fin s'=>∃ v,fin=.done (.ret v)/\PV C T F s φ μ ρ Q v s') NoE {s with heap:=h'}:=λ h' hk=>by
  refine aa (lN ?_ (by (erw [hl];erw [cA]);have:=hb.few;exact lin [_] [] (.v 0) (.k 16777216) [(1,.l (.a (.v 0) (.k 1)) (.k 64))] tT9 this))
  have BB:(h'.push (seqObj "list" vs.toArray 0)).get? h'.objs.size=some (seqObj "list" vs.toArray 0):=aI _ rfl
  have up:∀ b o,s.heap.get? b=some o->(h'.push (seqObj "list" vs.toArray 0)).get? b=some o:=λ b o e=>aq _ (hk b o e)
  have hV:VPs (h'.push (seqObj "list" vs.toArray 0)) φ vs (l.map zI):=vp.mono λ b fb=>⟨fb,Ee (R.frz b fb) λ o ho=>(up b o ho).trans ho.symm⟩
  refine aa (aQ (bQ iC ⟨_,BB,rfl⟩ k8 (Js (φ:=φ) BB hV (λ b fb=>Ee (R.frz b fb) λ o ho=>⟨aF (a7 (hk b o ho)),o,up b o ho⟩) hb (Jo hA) λ out B6=>⟨_,rfl,?_⟩) (lw _)))
  refine Ee (lO (vs:=vs) (out:=out.toArray) BB) λ e he=>?_
  have hD:s.heap.get? h'.objs.size=none:=by
   cases q:s.heap.get? h'.objs.size with
   | none=>rfl
   | some o=>exact absurd (a7 (hk _ _ q)) (fM _)
  refine am ⟨_,rfl,Yf (tk:=s.toks) R I (λ b o q=>?_) hD he (B6 _ _ vp) q⟩
  have hb:=hk _ _ q
  have s3:=a7 hb
  exact (lx (aF s3) (by erw [ly];exact dr s3)).trans (aq _ hb)
 refine nB kind_sorted plain_sorted entry_sorted (args_sorted1 _) ?_
 unfold cH.«sorted»
 refine aa (m:=checkCount "sorted" 1 1 _) (am ?_)
 rcases hs with ⟨o,ho,hc,k,hd⟩ | ⟨o,ho,hc,k,hd⟩
 ·exact aa (gz a (.inr rfl) ho hc hd (λ h' hk=>key h' hk) hz)
 ·exact aa (gz a (.inl rfl) ho hc hd (λ h' hk=>key h' hk) hz)
theorem Vf {Q:D->zA->Prop}{a:ah}{l:List (Int×Bool)}(hA:Room n A)(R:Rel C T s.heap φ μ σ)(I:FrI F s.heap φ μ ρ)(ha:μ[i]?=some a)(hi:σ[i]?=some (.lst (l.map zI)))(hb:BitsOk l)
  (q:Q (.p .none) (σ.set i (.lst ((ZM l).map zI)))):wpAny (model C.prog C.w) A (call (.builtin "list.sort") [.ref a]) (PV C T F s φ μ ρ Q) NoE s:=by
 refine Eeea (R.at_ i a _ ha hi) λ vs k ho hp=>?_
 have na:¬ φ a:=λ f=>by have:=R.apart i a ha f;rw [hi] at this;cases this
 refine bQ iC ⟨_,ho,rfl⟩ k8 (Js (φ:=φ) ho hp (λ b fb=>⟨λ e=>na (e▸fb),R.frz b fb⟩) hb (wF hA) λ out B6=>⟨_,rfl,?_⟩) (lw _)
 refine Ee (lO (vs:=vs) (out:=out.toArray) ho) λ e he=>?_
 refine Ea (R.updG (mo':=.lst ((ZM l).map zI)) ha hi (λ h=>nomatch h) (λ b o hb e=>(lx hb (a7 e)).trans e) ⟨_,he⟩ λ kk=>⟨out,e,he,(B6 _ _ hp).mono kk⟩) λ R' X=>?_
 exact pvI (Go.of_ext (tk:=s.toks) I R' X) (.p .none) q
theorem zD2 {Q:D->zA->Prop}{l:List Int}(hA:Room n A)(R:Rel C T s.heap φ μ σ)(I:FrI F s.heap φ μ ρ)(V:VP s.heap φ v (.list xs))(e:ints? xs=some l)(h4:l.length<=4)
  (q:Q (.obj σ.length) (σ++[.iset (dd l)])):wpAny (model C.prog C.w) A (call (.type "set") [v]) (PV C T F s φ μ ρ Q) NoE s:=by
 refine Eeeaaa V.ilst λ a vs e1 f hl r=>?_
 erw [e1]
 refine zA6 hA.hd hl (Z4 r e) h4 λ D h' tk hk hD hx=>?_
 obtain ⟨o,ep⟩:∃ o,h'.get? D=some o:=Ee hx.h λ o h=>⟨o,by (refine Eeeeea (h) λ _ _ _ _ ho _=>?_;try clear h);exact ho⟩
 have x:=R.newM hk hD o ep (.iset (dd l)) λ kk=>hx
 exact pvI (Go.of_ext I x.1 x.2.1) (.obj x.2.2) q
end
section
variable {C:Cx}{T:Tabs}{F:Fm}{s s' sQ sM:ao}{φ j' sS sV:ah->Prop}{μ sJ sT sR:List ah}{ρ sL tV s0:Rho}{σ σ' s4:zA}{A:aM}{h h':aR}{own:List ah}{n:Nat}
theorem zBu {Q:D->zA->Prop}{a:ah}{t:Nat}(R:Rel C T s.heap φ μ σ)(I:FrI F s.heap φ μ ρ)(ha:μ[i]?=some a)(hi:σ[i]?=some (.lst xs))(ht:t<4)
  (q:Q (.p (.bool (bc t 1))) σ):wpAny (model C.prog C.w) A (call (.builtin "isinstance") [.ref a,.type (tyS t)]) (PV C T F s φ μ ρ Q) NoE s:=by
 refine Eeea (R.at_ i a _ ha hi) λ vs n ho hp=>?_
 have hT:s.TypeIs (.ref a) "list":=⟨_,ho,rfl⟩
 revert q
 refine jI t ht (λ q=>?_) (λ q=>?_) (λ q=>?_) (λ q=>?_)
 ·exact bf (de (by decide +kernel) gc pL) ⟨hT,zh R I (.p (.bool _)) q _⟩
 ·exact nC hT gP p9 (zt R I (.p (.bool _)) q)
 ·exact bf (de (by decide +kernel) iD sub_list_int) ⟨hT,zh R I (.p (.bool _)) q _⟩
 ·exact bf (de (by decide +kernel) gQ rc) ⟨hT,zh R I (.p (.bool _)) q _⟩
theorem W6 {b:Bi}(h:uk d=some b):d=.bi b:=by cases d with | bi j=>(erw [so h];rfl) | _=>exact nn h
theorem zAU {l:List Int}{K:Int->List Int->Prop}(h:hdL l K):∃ a r,l=a::r/\K a r:=by
 cases l with
 | nil=>exact h.elim
 | cons a r=>exact ⟨a,r,rfl,h⟩
theorem zFG {Q:D->zA->Prop}{b:Bi}(Y:C.Good)(hA:Room n A)(R:Rel C T s.heap φ μ σ)(I:FrI F s.heap φ μ ρ)(tj:VDs s.heap φ μ vs ds)(h:Zj m b ds σ Q) :
  wpAny (model C.prog C.w) A (call (qw b) vs) (PV C T F s φ μ ρ Q) NoE s:=by
 cases b with
 | len=>refine qT tj h λ v d V h=>?_;refine Eeaa (h.h) λ xs e hf q=>?_;exact zDu R I V e hf q
 | isinst =>
  refine zAv tj h λ v w d e V W h1=>?_
  refine Eea (h1.h) λ t e1 h2=>?_
  refine Eea (ob e1) λ b e2 e3=>?_
  refine Ea (zEC e3) λ e4 ht=>?_
  obtain rfl:=W6 e2
  cases W.ibi
  clear e1 h h1
  show wpAny _ _ (call (.builtin "isinstance") [v,qw b]) _ _ _
  erw [e4]
  cases d with
  | p x=>refine Eea (Is.h h2) λ r e q=>?_;exact zE3 R I V.ip ht e q
  | obj i=>refine Eea (Is.h h2) λ xs e q=>?_;refine V.mobj λ a ha=>?_;exact zBu R I ha (QI e) ht q
  | _=>exact h2.elim
 | abs=>refine qT tj h λ v d V h=>?_;refine Z8 V h λ a t q=>?_;exact zDE R I q
 | max =>
  rcases UR tj h with ⟨v,d,rfl,V,h⟩ | ⟨v,w,d,e,rfl,V,W,h⟩
  ·refine Eea (h.h) λ xs e h=>?_;refine Eea (h.h) λ l hl h=>?_;(refine Eeea (zAU h) λ a r Bm=>?_;obtain rfl:=Bm;intro q);exact zDn hA.hd R I V e hl q
  ·refine Z8 V h λ a t h=>?_;refine Z8 W h λ b u q=>?_;exact zC7 hA.hd R I q
 | min =>
  rcases UR tj h with ⟨v,d,rfl,V,h⟩ | ⟨v,w,d,e,rfl,V,W,h⟩
  ·refine Eea (h.h) λ xs e h=>?_;refine Eea (h.h) λ l hl h=>?_;(refine Eeea (zAU h) λ a r DK=>?_;obtain rfl:=DK;intro q);exact zD1 hA.hd R I V e hl q
  ·refine Z8 V h λ a t h=>?_;refine Z8 W h λ b u q=>?_;exact zCH hA.hd R I q
 | sum=>refine qT tj h λ v d V h=>?_;refine Eea (h.h) λ xs e h=>?_;refine Eea (h.h) λ l hl q=>?_;exact zDj hA.hd R I V e hl q
 | tuple=>refine qT tj h λ v d V h=>?_;refine Eeaa (h.h) λ xs e hf q=>?_;exact zA5 R I V e hf q
 | list=>refine qT tj h λ v d V h=>?_;refine Eeaa (h.h) λ xs e hf q=>?_;exact zBz R I V e hf q
 | sorted =>
  refine qT tj h λ v d V h=>?_
  refine h.elim (λ h=>Eeaa (h.h) λ l e hf q=>wq hA R I V e hf q) λ h=>Eeaa h λ l e hb q=>wA hA R I V e hb q
 | set=>refine qT tj h λ v d V h=>?_;(refine Eeaa (zB0 V h) λ xs E6=>?_;obtain rfl:=E6;intro V h);refine Eeaa (h.h) λ l e h4 q=>?_;exact zD2 hA R I V e h4 q
 | dict=>refine qT tj h λ v d V h=>?_;(refine Eeaa (jc V h) λ xs Cd=>?_;obtain rfl:=Cd;intro V h);refine Eeaaa (h.h) λ es e nd hf q=>?_;exact zCm hA.hd (m4 (Y.lim.keeps R.keep)) R I V e nd hf q
 | int =>
  refine qT tj h λ v d V h=>?_
  refine Eeaa (yg V h) λ x _ V h=>?_
  refine Eea (h.h) λ a e q=>?_
  cases x with
  | int i=>obtain rfl:=so e;refine V.mint λ t=>?_;exact call_int_int (zt R I (.p (.int _ _)) q)
  | bool b=>cases V.ibool;refine call_int_bool (zh R I (.p (.int _ _)) ?_ _);cases b <;> (obtain rfl:=so e;exact q)
  | _=>exact nn e
 | range =>
  rcases UR tj h with ⟨v,d,rfl,V,h⟩ | ⟨v,w,d,e,rfl,V,W,h⟩
  ·refine Z8 V h λ b t q=>?_;exact WA R I q
  ·refine Z8 V h λ a t h=>?_;refine Z8 W h λ b u q=>?_;exact vy R I q
 | _=>exact h.elim
noncomputable def j5 (k:Nat):Option (String×aN×String):=match bc k 0 with
 | true=>some ("list","append","list.append")
 | false=>gd (bc k 3) (some ("list","sort","list.sort"))
noncomputable def jW (k:Nat):Option (String×aN×String):=match bc k 1 with
 | true=>some ("dict","get","dict.get")
 | false=>gd (bc k 2) (some ("dict","setdefault","dict.setdefault"))
noncomputable def JX:MO->Nat->Option (String×aN×String)
 | .lst _,k=>j5 k
 | .idict _,k=>jW k
 | _,_=>none
theorem Yk (h:j5 k=some r):(k=0/\r=(("list",("append":aN),"list.append"):String×aN×String))∨(k=3/\r=(("list",("sort":aN),"list.sort"):String×aN×String)):=by
 cases e:bc k 0 with
 | true=>cases z8 e;exact .inl ⟨rfl,(so h).symm⟩
 | false =>
  have h:gd (bc k 3) (some (("list",("sort":aN),"list.sort"):String×aN×String))=some r:=by unfold j5 at h;rw [e] at h;exact h
  refine Ea (og h) λ h1 h2=>?_;exact .inr ⟨z8 h1,(so h2).symm⟩
theorem Yj (h:jW k=some r):(k=1/\r=(("dict",("get":aN),"dict.get"):String×aN×String))∨(k=2/\r=(("dict",("setdefault":aN),"dict.setdefault"):String×aN×String)):=by
 cases e:bc k 1 with
 | true=>cases z8 e;exact .inl ⟨rfl,(so h).symm⟩
 | false =>
  have h:gd (bc k 2) (some (("dict",("setdefault":aN),"dict.setdefault"):String×aN×String))=some r:=by unfold jW at h;rw [e] at h;exact h
  refine Ea (og h) λ h1 h2=>?_;exact .inr ⟨z8 h1,(so h2).symm⟩
theorem zF5 {Q:D->zA->Prop}{a:ah}(hA:Room n A)(R:Rel C T s.heap φ μ σ)(I:FrI F s.heap φ μ ρ)(ha:μ[i]?=some a)(hi:σ[i]?=some mo)(tj:VDs s.heap φ μ vs ds)(Bb:JX mo k=some (ty,nm,id))(h:yD i mo k ds σ Q) :
  wpAny (model C.prog C.w) A (call (.builtin id) (.ref a::vs)) (PV C T F s φ μ ρ Q) NoE s:=by
 cases mo with
 | lst xs =>
  rcases Yk Bb with ⟨rfl,e⟩ | ⟨rfl,e⟩
  ·cases e
   refine qT tj h λ v d V h=>?_
   refine Eeaaa (yg V h) λ x _ V hf q=>?_
   exact vV R I ha hi V hf q
  ·cases e
   refine Ea (show ds=[]/\_ from h) λ e1 h=>Eeaa h λ l e2 hb q=>?_
   rw [e1] at tj;erw [tj.inil];rw [e2] at hi
   exact Vf hA R I ha hi hb q
 | idict es =>
  (refine Eeeeeaaaa (zAS tj (uR h).2) λ v w d e DW=>?_;obtain rfl:=DW;intro _ V W h)
  refine Z8 V h λ q t h=>?_
  rcases Yj Bb with ⟨rfl,e⟩ | ⟨rfl,e⟩
  ·cases e;exact zBD R I ha hi W h
  ·cases e;exact wP R I ha hi W h.1 h.2
 | _=>exact h.elim
theorem V7 {Q:af×List af->ao->Prop}{E:af->ao->Prop}{a:ah}{pl:kI Bool}(R:Rel C T s.heap φ μ σ)(ha:μ[i]?=some a)(hi:σ[i]?=some mo)(Bb:JX mo k=some (ty,nm,id))(q:Q (.builtin id,[.ref a]) s) :
  wpAny (model C.prog C.w) A (o0 (.ref a) nm pl) Q E s:=by
 cases mo with
 | lst xs =>
  refine Eeea (R.at_ i a _ ha hi) λ vs n ho hp=>?_
  rcases Yk Bb with ⟨rfl,e⟩ | ⟨rfl,e⟩
  ·cases e;exact getMethod_list_append ho rfl rfl q
  ·cases e;exact getMethod_list_of iC PySem.F.type_list_sort (items:=vs.toArray) ⟨_,ho,rfl,_,rfl⟩ ⟨_,ho,rfl⟩ q
 | idict es =>
  (refine Ea (R.at_ i a _ ha hi) λ _ tM=>?_;refine Eea tM λ kvs hm _=>?_)
  rcases Yj Bb with ⟨rfl,e⟩ | ⟨rfl,e⟩
  ·cases e;exact oC hm.typeIs l7 mM PySem.F.type_dict_get hm.mapOf.noDict q
  ·cases e;exact oC hm.typeIs l7 fR PySem.F.type_dict_setdefault hm.mapOf.noDict q
 | _=>exact nn Bb
theorem YE {M:Model}{f:af}{l:List (Bool×kI af)}{Q:Args->ao->Prop}(hl:l.any (·.1)=false)(h:wpAny M A (spliced l) (λ vs s'=>Q ⟨vs,[]⟩ s') E s):wpAny M A (evalArgs f true l []) Q E s:=by
 cases l with
 | nil =>
  unfold evalArgs
  show wpAny M A (spliced [] >>= _) Q E s
  refine aa (ay h (λ vs s' h'=>aa (am ?_)) λ _ _ x=>x)
  refine aQ ?_
  exact aa (am (aa (am (am h'))))
 | cons x l =>
  obtain ⟨b,x⟩:=x
  simp only [eO,m7] at hl
  (refine Ea (hl) λ DR=>?_;try clear hl;obtain rfl:=DR;intro _)
  exact evalArgs_plain h
end
mutual
noncomputable def Zx:Pt->List Nat
 | .nm i=>[i]
 | .tup ps=>idxPs ps
noncomputable def idxPs:List Pt->List Nat
 | []=>[]
 | p::ps=>Zx p++idxPs ps
end
mutual
theorem Jl:∀ (p:Pt) (x:ab) (ρ sL:Rho),Zd p x ρ=some sL->sL.length=ρ.length/\∀ j,j∉Zx p->sL[j]?=ρ[j]?
 | .nm i,x,ρ,sL,h=>by
  obtain rfl:=so h
  exact ⟨eW,λ j hj=>dq λ (e:i=j)=>hj (aG.mpr e.symm)⟩
 | .tup ps,x,ρ,sL,h=>by
  refine Eea (ob h) λ xs _ h=>?_
  exact bindPs_off ps xs ρ sL h
theorem bindPs_off:∀ (ps:List Pt) (xs:List ab) (ρ sL:Rho),bindPs ps xs ρ=some sL->sL.length=ρ.length/\∀ j,j∉idxPs ps->sL[j]?=ρ[j]?
 | [],xs,ρ,sL,h=>by
  cases xs with
  | nil=>obtain rfl:=so h;exact ⟨rfl,λ _ _=>rfl⟩
  | cons _ _=>exact nn h
 | p::ps,xs,ρ,sL,h=>by
  cases xs with
  | nil=>exact nn h
  | cons x xs =>
   refine Eea (ob h) λ s0 h1 h=>?_
   refine Ea (Jl p x ρ s0 h1) λ a1 a2=>?_
   refine Ea (bindPs_off ps xs s0 sL h) λ b1 b2=>?_
   exact ⟨b1.trans a1,λ j hj=>(b2 j λ m=>hj (bg _ m)).trans (a2 j λ m=>hj (bK _ m))⟩
end
noncomputable def Zy:List Gn->List Nat
 | []=>[]
 | .mk t _ _::gs=>Zx t++Zy gs
def AccAt (h:aR)(φ:ah->Prop)(B:ah)(acc:List ab):Prop:=∃ (vs:List af) (n:Nat),h.get? B=some (listOf vs.toArray n)/\VPs h φ vs acc
section
variable {C:Cx}{T:Tabs}{F:Fm}{s s' sQ sM sP:ao}{φ j' sS sV tx:ah->Prop}{μ sJ sT sR tD:List ah}{ρ sL tV s0 An:Rho}{σ σ' s4 sY:zA}{A:aM}{h h':aR}{own:List ah}{n:Nat}{B:ah}
structure GC (C:Cx)(T:Tabs)(F Fo:Fm)(tQ:Rho)(wr:List ah)(B:ah)(s:ao)(φ:ah->Prop)(μ:List ah)(s':ao)(j':ah->Prop)(sJ:List ah)(sL:Rho)(σ':zA)(acc:List ab):Prop where
 st:∃ h tk,s'={s with heap:=h,toks:=tk}
 rel:Rel C T s'.heap j' sJ σ'
 fr:FrI F s'.heap j' sJ sL
 ext:Ext s.heap φ μ s'.heap j' sJ wr (frL Fo.fs)
 acc:AccAt s'.heap j' B acc
 nm:B∉sJ
 nf:¬ j' B
 wL:F.env.locals∈wr
 wB:B∈wr
 wx:∀ b,b∈wr->∃ o,s'.heap.get? b=some o
 fo:FrI Fo s'.heap j' sJ tQ
 foL:∀ a,a=F.env.locals∨a=B->Fo.env.locals≠a/\(∀ y c,Fo.env.cells.lookup y=some c->c≠a)/\∀ v L,v∈Fo.fs->v.frame=some L->L≠a
 fs:F.fs=Fo.fs
theorem AccAt.ext {acc:List ab}(x:AccAt h φ B acc)(X:Ext h φ μ h' j' sJ wr fr)(nm:B∉μ)(nw:B∉wr)(nf:B∉fr):AccAt h' j' B acc:=by
 (refine Eeea (x) λ vs n e p=>?_;try clear x)
 exact ⟨vs,n,(X.oth B _ e nm nw).exact nf,X.vps p⟩
theorem UW {D4:List ah}(w:∀ b,b∈wr->∃ o,h.get? b=some o)(X:Ext h φ μ h' j' sJ D4 fr):∀ b,b∈wr->∃ o,h'.get? b=some o:=λ b m=>let ⟨o,e⟩:=w b m;X.ex b o e
theorem GC.nfr {acc:List ab}(G:GC C T F Fo tQ wr B s φ μ sM sV sR s0 s4 acc):B∉frL F.fs:=λ m=>by
 refine Eea (cx.mp m) λ v hv hL=>?_
 exact (G.foL _ (.inr rfl)).2.2 v B (G.fs▸hv) hL rfl
theorem GC.go {acc:List ab}(tG:F.own=[])(AE:B≠F.env.locals)(G:GC C T F Fo tQ wr B s φ μ sM sV sR s0 s4 acc)(G':Go C T F sM sV sR sP tx tD An sY):GC C T F Fo tQ wr B s φ μ sP tx tD An sY acc:=by
 (refine Eee (G'.st) λ h2 t2 AZ=>?_;obtain rfl:=AZ)
 refine Eeea (id G.acc) λ vs nn e p=>?_
 have nw:B∉F.env.locals::F.own:=by erw [tG];simpa using AE
 refine ⟨(Eee G.st λ _ t9 e9=>⟨h2,t2,by rw [e9]⟩),G'.rel,G'.fr,G.ext.trans ((G.fs▸G'.ext).wider λ b o m _=>?_),G.acc.ext G'.ext G.nm nw G.nfr,G'.ext.notin e G.nm,G'.ext.notfrz e G.nm G.nf,G.wL,G.wB,UW G.wx G'.ext,G.fo.ext G'.ext (by erw [tG];simpa using (G.foL _ (.inl rfl)).1) (λ y c e=>by erw [tG];simpa using (G.foL _ (.inl rfl)).2.1 y c e) (λ v L hv hl _=>by erw [tG];simpa using (G.foL _ (.inl rfl)).2.2 v L hv hl),G.foL,G.fs⟩
 rw [tG,aG] at m
 erw [m];exact G.wL
theorem GC.weaken {acc:List ab}(G:GC C T F Fo tQ wr B s φ μ sM sV sR s0 s4 acc)(hl:sL.length=s0.length)(hw:∀ j,j<s0.length->sL[j]?=some none∨sL[j]?=s0[j]?):GC C T F Fo tQ wr B s φ μ sM sV sR sL s4 acc :=
 ⟨G.st,G.rel,G.fr.weaken hl hw,G.ext,G.acc,G.nm,G.nf,G.wL,G.wB,G.wx,G.fo,G.foL,G.fs⟩
theorem GC.trans {acc tm:List ab}(G:GC C T F Fo tQ wr B s φ μ sM sV sR s0 s4 acc)(G':GC C T F Fo tQ wr B sM sV sR sP tx tD An sY tm):GC C T F Fo tQ wr B s φ μ sP tx tD An sY tm:=by
 (refine Eee (G'.st) λ h2 t2 AY=>?_;obtain rfl:=AY)
 exact ⟨(Eee G.st λ _ t9 e9=>⟨h2,t2,by rw [e9]⟩),G'.rel,G'.fr,G.ext.trans G'.ext,G'.acc,G'.nm,G'.nf,G'.wL,G'.wB,G'.wx,G'.fo,G'.foL,G'.fs⟩
theorem GC.butL {acc:List ab}{tk:Nat}(hL:F.env.locals∉own)(hc:∀ y c,F.env.cells.lookup y=some c->c∉own)(hB:B∉own)(BB:Fo.env.locals∉own)(Es:∀ y c,Fo.env.cells.lookup y=some c->c∉own)(FJ:∀ v L,v∈Fo.fs->v.frame=some L->L∉own)(G:GC C T F Fo tQ wr B sQ sS sT s φ μ ρ σ acc)(hf:∀ b,b∈own->sQ.heap.get? b=none)(R':Rel C T h' j' μ σ)(X:Ext s.heap φ μ h' j' μ own) :
  GC C T F Fo tQ wr B sQ sS sT {s with heap:=h',toks:=tk} j' μ ρ σ acc:=by
 refine Eeea (id G.acc) λ vs nn e p=>?_
 exact ⟨(Eee G.st λ _ t9 e9=>⟨h',tk,by rw [e9]⟩),R',G.fr.ext X hL hc (λ v L hv hl _=>FJ v L (G.fs▸hv) hl),G.ext.step X λ b m=>.inl (hf b m),G.acc.ext X G.nm hB (λ h=>nomatch h),G.nm,X.notfrz e G.nm G.nf,G.wL,G.wB,UW G.wx X,G.fo.ext X BB Es (λ v L hv hl _=>FJ v L hv hl),G.foL,G.fs⟩
theorem GC.append {acc:List ab}{x:ab}{Q:af->ao->Prop}(AE:B≠F.env.locals)(hc:∀ y c,F.env.cells.lookup y=some c->c≠B)(G:GC C T F Fo tQ wr B sQ sS sT s φ μ ρ σ acc)(V:VP s.heap φ v x)(hf:Few acc.length)
  (q:∀ s',GC C T F Fo tQ wr B sQ sS sT s' φ μ ρ σ (acc++[x])->Q .none s'):wpAny (model C.prog C.w) A (call (.builtin "list.append") [.ref B,v]) Q NoE s:=by
 refine Eeea (G.acc) λ vs k ho hp=>?_
 have hl:=hp.length
 refine lW ⟨k,ho⟩ (λ h' Dt hs=>?_) (by (erw [aK];erw [hl]);exact zv hf)
 (refine Ee (Dt) λ k' x6=>?_;try clear Dt)
 refine Ea (G.rel.but G.nm G.nf hs x6) λ R' X=>?_
 exact q _ ⟨(Eee G.st λ _ t9 e9=>⟨h',t9,by rw [e9]⟩),R',G.fr.ext X (by simpa using iO AE) (λ y c h=>by simpa using hc y c h) (λ v L hv hl _=>by simpa using (G.foL _ (.inr rfl)).2.2 v L (G.fs▸hv) hl),G.ext.trans (X.wider λ b o m _=>by rw [aG] at m;erw [m];exact G.wB).slack,
  ⟨vs++[v],k',by erw [x6];simp [mZ],(X.vps hp).append (.cons (X.vp V) .nil)⟩,G.nm,G.nf,G.wL,G.wB,UW G.wx X,G.fo.ext X (by simpa using (G.foL _ (.inr rfl)).1) (λ y c h=>by simpa using (G.foL _ (.inr rfl)).2.1 y c h) (λ v L hv hl _=>by simpa using (G.foL _ (.inr rfl)).2.2 v L hv hl),G.foL,G.fs⟩
end
section
variable {C:Cx}{T:Tabs}{n:Nat}{A:aM}
noncomputable def zM (C:Cx)(T:Tabs)(n:Nat)(W:Rho->zA->(D->zA->Prop)->Prop)(t:Pt)(ifs:List Ex)(gens:List Gn)(ρ:Rho)(src:Option (Nat×List ab)):ab->List ab×zA->(List ab×zA->Prop)->Prop :=
 λ x a K=>Is (Zd t x ρ) λ sL=>wpIfs C T n ifs sL a.2 λ b sY=>Br b (wpG C T n W gens sL sY a.1 λ tm sO=>zS src sO (K (tm,sO))) (zS src sY (K (a.1,sY)))
end
noncomputable def Z6 (sW:List aL)(env:kH):kI Bool:=forIn sW true λ c r=>if r=true then do let ok<-isTrue c env (eval c env);pure (dR ok) else pure (dR r)
noncomputable def ZJ (e s6:aL)(og:Option bh)(d:Nat)(B:ah)(env:kH):kI Unit:=@eh _ (λ _=>kI Unit) og (eval s6 env >>= λ x=>call (.builtin "list.append") [.ref B,x] >>= λ _=>pure ()) (λ g'=>eval g'.iter env >>= λ x=>fN g'.iter.pos >>= λ _=>foldedSetIterable g'.iter env x >>= λ x=>cR [x] (gD x) >>= λ it=>runOwn (.compStart e (d + 1) it (.ref B) env) env >>= λ _=>pure ())
theorem xC {s6:aL}{scope:b8}{pos:dD}{d:Nat}{it:af}{B:ah}{env:kH}(hg:gensA[d]?=some ⟨target,iter,sW,0⟩)(hg':∀ g',gensA[d + 1]?=some g'->g'.is_async=0) :
  m8 (.ListComp s6 gensA scope pos) d it (.ref B) env=(fN iter.pos >>= λ _=>eZ it >>= λ r=>match r with
   | none=>pure (.done .next)
   | some v=>fS target it v >>= λ _=>ge target env v >>= λ _=>Z6 sW env >>= λ ok =>
    if ok=true then (ZJ (.ListComp s6 gensA scope pos) s6 (gensA[d + 1]?) d B env >>= λ _=>again (.compLoop (.ListComp s6 gensA scope pos) d it (.ref B) env)) else again (.compLoop (.ListComp s6 gensA scope pos) d it (.ref B) env)):=by
 cases hh:gensA[d + 1]? with
 | none =>
  unfold m8
  simp only [hg,hh,ZJ,bind_assoc,pure_bind]
  rfl
 | some g' =>
  obtain ⟨t',i',f',a'⟩:=g'
  have ha:=hg' _ hh
  dsimp only at ha;subst ha
  unfold m8
  simp only [hg,hh,ZJ,bind_assoc,pure_bind]
  rfl
section
variable {C:Cx}{T:Tabs}{F:Fm}{A:aM}{n:Nat}{s s' sQ sM:ao}{φ j' sS sV:ah->Prop}{μ sJ sT sR:List ah}{ρ sL tV s0:Rho}{σ σ' s4:zA}{h h':aR}{own:List ah}{B:ah}{wr:List ah}{Fo:Fm}{tQ:Rho}
noncomputable def Y1 (C:Cx)(T:Tabs)(n:Nat)(A:aM)(F Fo:Fm)(tQ:Rho)(wr:List ah)(B:ah)(W:Rho->zA->(D->zA->Prop)->Prop)(gs:List Gn)(tree:kI Unit):Prop :=
 ∀ (s:ao) (φ:ah->Prop) (μ:List ah) (ρ:Rho) (σ:zA) (acc:List ab) (Q:List ab->zA->Prop),(∀ j,j∈Zy gs->ρ[j]?=some none) ->
  GC C T F Fo tQ wr B s φ μ s φ μ ρ σ acc->wpG C T n W gs ρ σ acc Q ->
  wpAny (model C.prog C.w) A tree (λ _ s'=>∃ j' sJ σ' tm,GC C T F Fo tQ wr B s φ μ s' j' sJ ρ σ' tm/\Q tm σ') NoE s
theorem GC.self {acc:List ab}(R:Rel C T s.heap φ μ σ)(I:FrI F s.heap φ μ ρ)(a:AccAt s.heap φ B acc)(nm:B∉μ)(nf:¬ φ B)(wL:F.env.locals∈wr)(wB:B∈wr)(wx:∀ b,b∈wr->∃ o,s.heap.get? b=some o)(fo:FrI Fo s.heap φ μ tQ)(foL:∀ a,a=F.env.locals∨a=B->Fo.env.locals≠a/\(∀ y c,Fo.env.cells.lookup y=some c->c≠a)/\∀ v L,v∈Fo.fs->v.frame=some L->L≠a)(fs:F.fs=Fo.fs):GC C T F Fo tQ wr B s φ μ s φ μ ρ σ acc :=
 ⟨⟨s.heap,s.toks,rfl⟩,R,I,.refl,a,nm,nf,wL,wB,wx,fo,foL,fs⟩
theorem GC.here {acc:List ab}(G:GC C T F Fo tQ wr B sQ sS sT s φ μ ρ σ acc):GC C T F Fo tQ wr B s φ μ s φ μ ρ σ acc:=GC.self G.rel G.fr G.acc G.nm G.nf G.wL G.wB G.wx G.fo G.foL G.fs
theorem FrI.gone (I:FrI F h φ μ ρ)(k:∀ c o,c∉own->h.get? c=some o->h'.get? c=some o)(kf:∀ b,φ b->φ b/\h'.get? b=h.get? b)(hL:F.env.locals∉own)(hC:∀ y c,F.env.cells.lookup y=some c->c∉own)(ho:∀ c,c∈F.own->c∉own)(FJ:∀ v L,v∈F.fs->v.frame=some L->L∉own):FrI F h' φ μ ρ:=by
 refine Eea (I.loc) λ m hn hm=>?_
 refine ⟨I.kind,I.glob,I.blt,I.len,⟨m,?_,λ i y hi=>⟨(hm i y hi).1,(hm i y hi).2.mono kf λ _ _ e=>e⟩⟩,λ i y kk hi hk=>?_,I.uniq,I.Lμ,I.Lφ,λ y c hc=>?_,I.cinj,λ c hc=>?_,I.outsK λ v L o hv hl h1 h2 h3 _ _=>⟨⟨o,k _ _ (FJ v L hv hl) h1,rfl⟩,h2,h3⟩⟩
 ·(refine Eeeea (hn) λ o es ep ho r=>?_;try clear hn);exact ⟨o,es,ep,k _ _ hL ho,r⟩
 ·(refine Ea (I.cell i y kk hi hk) λ h1 Aw=>?_;refine Eeeaaa Aw λ c v Ah Ap BU BO=>?_)
  refine ⟨h1,c,v,Ah,?_,BU.mono kf λ _ _ e=>e,BO⟩
  (refine Eea (Ap) λ o ho hd=>?_;try clear Ap)
  exact ⟨o,k _ _ (hC _ _ Ah) ho,hd⟩
 ·(refine Z0 (I.cμ y c hc) λ Bh=>?_;(refine Ee (Bh) λ o h0=>?_;try clear Bh);intro h1 h2 h3)
  exact ⟨⟨o,k _ _ (hC _ _ hc) h0⟩,h1,h2,h3⟩
 ·refine Ee (I.own c hc) λ o e=>?_
  exact ⟨o,k _ _ (ho c hc) e⟩
theorem GC.endL {tk:Nat}{acc:List ab}(tY:FrI Fo sQ.heap sS sT tQ)(tG:F.own=[])(hL:F.env.locals∉own)(hC:∀ y c,F.env.cells.lookup y=some c->c∉own)(tq:∀ b,b∈own->b∉wr)(G:GC C T F Fo tQ wr B sQ sS sT s φ μ ρ σ acc)(hf:∀ b,b∈own->sQ.heap.get? b=none)(N:Lone s.heap φ μ own)(k:∀ c o,c∉own->s.heap.get? c=some o->h'.get? c=some o) :
  GC C T F Fo tQ wr B sQ sS sT {s with heap:=h',toks:=tk} φ μ ρ σ acc:=by
 have R:=G.rel
 refine Ea (R.endL N.nm N.nf k) λ kf R'=>?_
 have old:∀ b o,sQ.heap.get? b=some o->b∉own:=λ b o e m=>by rw [hf b m] at e;cases e
 have AC:∀ b o,sQ.heap.get? b=some o->∀ o',s.heap.get? b=some o'->h'.get? b=some o':=λ b o e o' e'=>k b o' (old b o e) e'
 refine ⟨(Eee G.st λ _ _ e9=>⟨h',tk,by rw [e9]⟩),R',G.fr.gone k kf hL hC (λ c m=>by rw [tG] at m;cases m) (λ v L hv hl m=>tY.ne_out (hf _ m) (G.fs▸hv) hl rfl),⟨λ a f=>⟨(G.ext.frz a f).1,(kf a (G.ext.frz a f).1).2.trans (G.ext.frz a f).2⟩,G.ext.new,G.ext.pre,G.ext.fresh,λ b o e=>?_,λ b o e nm nw=>?_⟩,?_,G.nm,G.nf,G.wL,G.wB,λ b m=>?_,
  G.fo.gone k kf (λ m=>tY.ne_locals (hf _ m) rfl) (λ y c hc m=>tY.ne_cells (hf _ m) hc rfl) (λ c hc m=>tY.ne_own (hf _ m) (bU _ hc)) (λ v L hv hl m=>tY.ne_out (hf _ m) hv hl rfl),G.foL,G.fs⟩
 ·refine Ee (G.ext.ex b o e) λ o' e'=>?_
  exact ⟨o',AC b o e o' e'⟩
 ·rcases G.ext.oth b o e nm nw with q | ⟨hc,sl,q⟩
  ·exact .inl (AC b o e _ q)
  ·exact .inr ⟨hc,sl,AC b o e _ q⟩
 ·refine Eeea (G.acc) λ vs nn e p=>?_
  exact ⟨vs,nn,k _ _ (λ m=>tq _ m G.wB) e,p.mono kf⟩
 ·refine Ee (G.wx b m) λ o ho=>?_
  exact ⟨o,k _ _ (λ q=>tq _ q m) ho⟩
theorem J0 {it:af}{s6 target iter:aL}{sW:List aL}{gensA:List bh}{scope:b8}{pos:dD}{d:Nat}{t:Pt}{ifs:List Ex}{gs:List Gn}{src:Option (Nat×List ab)}{xs B2:List ab}{It:Nat->aR->Prop}{Sr:aR->(ah->Prop)->List ah->Prop}
  {tv:Rho->zA->(D->zA->Prop)->Prop} {Q:List ab->zA->Prop}
  (hg:gensA[d]?=some ⟨target,iter,sW,0⟩) (hg':∀ g',gensA[d + 1]?=some g'->g'.is_async=0)
  (W:Walk C T A it target own src xs It Sr) (hA:A.handled=none) (ht:trP F.ks target=some t)
  (hifs:∀ ρ σ K,wpIfs C T n ifs ρ σ K->DB C T F A (Z6 sW F.env) ρ σ K)
  (hin:Y1 C T n A F Fo tQ wr B tv gs (ZJ (.ListComp s6 gensA scope pos) s6 (gensA[d + 1]?) d B F.env))
  (tG:F.own=[]) (AE:B≠F.env.locals) (DG:∀ y c,F.env.cells.lookup y=some c->c≠B)
  (BC:∀ j,j∈Zx t->ρ[j]?=some none) (Dv:∀ j,j∈Zy gs->ρ[j]?=some none) (hdis:∀ j,j∈Zx t->j∉Zy gs)
  (tY:FrI Fo sQ.heap sS sT tQ) (tq:∀ b,b∈own->b∉wr) (hC:∀ y c,F.env.cells.lookup y=some c->c∉own) (hf:∀ b,b∈own->sQ.heap.get? b=none) (G:GC C T F Fo tQ wr B sQ sS sT s φ μ ρ σ B2) (tB:It 0 s.heap) (N:Lone s.heap φ μ own) (AH:Sr s.heap φ μ) (tu:zS src σ True)
  (hw:zH (zM C T n tv t ifs gs ρ src) xs (B2,σ) λ a=>Q a.1 a.2) :
  dZ (model C.prog C.w) A (.compLoop (.ListComp s6 gensA scope pos) d it (.ref B) F.env) (λ r s'=>match r with | .ok f=>f=.next/\∃ j' sJ σ' tm,GC C T F Fo tQ wr B sQ sS sT s' j' sJ ρ σ' tm/\Q tm σ' | .error e=>False) s:=by
 have hL:F.env.locals∉own:=λ m=>tq _ m G.wL
 have hB:B∉own:=λ m=>tq _ m G.wB
 have KX:=G.wL
 have Ec:∀ b,b∈own->b∉frL Fo.fs:=λ b m=>tY.ne_fr (hf b m)
 have Hu:=G.fs
 obtain ⟨J,mk,un⟩:∃ J:Nat->ao->Prop,(∀ k s φ μ σ acc,k<=xs.length->GC C T F Fo tQ wr B sQ sS sT s φ μ ρ σ acc->It k s.heap->Lone s.heap φ μ own->Sr s.heap φ μ->zS src σ True->(zH (zM C T n tv t ifs gs ρ src) (xs.drop k) (acc,σ) λ a=>Q a.1 a.2)->J (xs.length - k) s)/\∀ m s,J m s->∃ k φ μ σ acc,m=xs.length - k/\k<=xs.length/\GC C T F Fo tQ wr B sQ sS sT s φ μ ρ σ acc/\It k s.heap/\Lone s.heap φ μ own/\Sr s.heap φ μ/\zS src σ True/\zH (zM C T n tv t ifs gs ρ src) (xs.drop k) (acc,σ) λ a=>Q a.1 a.2 :=
  ⟨_,λ k s φ μ σ acc h1 h2 h3 h4 h5 h6 h7=>⟨k,φ,μ,σ,acc,rfl,h1,h2,h3,h4,h5,h6,h7⟩,λ _ _ h=>h⟩
 refine codeAny_loop rfl J (λ m s hI=>?_) xs.length (mk 0 _ _ _ _ _ (bO _) G tB N AH tu hw)
 clear G tB N AH tu hw
 obtain ⟨k,φ,μ,σ,acc,rfl,hk,G,tB,N,AH,tu,hw⟩:=un _ _ hI
 clear hI un
 show wpAny _ A ((m8 (.ListComp s6 gensA scope pos) d it (.ref B) F.env).onRaise (λ x=>do noteFrame x F.env;theTreesLotGoes x)) _ _ s
 refine wpAny_noted ?_
 erw [xC hg hg']
 refine aa (bx (aa ?_))
 by_cases s3:k<xs.length
 ·have hx:xs[k]?=some xs[k]:=aw s3
  rw [eK s3] at hw
  refine Eea (Is.h hw) λ sL FQ hw=>?_
  have DV:=Jl t _ _ _ FQ
  have back:∀ {s':ao} {φ μ σ acc} ,GC C T F Fo tQ wr B sQ sS sT s' φ μ sL σ acc->GC C T F Fo tQ wr B sQ sS sT s' φ μ ρ σ acc:=λ G=>G.weaken DV.1.symm λ j _=>by
   by_cases q:j∈Zx t
   ·exact .inl (BC j q)
   ·exact .inr (DV.2 j q).symm
  refine ay (W.turn k xs[k] s φ μ σ (λ v B4=>wpAny (model C.prog C.w) A (ge target F.env v) (λ _ sP=>wpAny (model C.prog C.w) A (Z6 sW F.env) (λ ok tI =>
    wpAny (model C.prog C.w) A (if ok=true then ZJ (.ListComp s6 gensA scope pos) s6 (gensA[d + 1]?) d B F.env else pure ()) (λ _ Ay=>∃ m,m<xs.length - k/\J m Ay) NoE tI) NoE sP) NoE B4) hx tB G.rel AH tu N λ v h' j' tk R' X V x9 N'=>?_) (λ r sM hr=>?_) λ _ _ e=>e.elim
  ·have G1:GC C T F Fo tQ wr B sQ sS sT {s with heap:=h',toks:=tk} j' μ ρ σ acc:=GC.butL hL hC hB (λ m=>tY.ne_locals (hf _ m) rfl) (λ y c hc m=>tY.ne_cells (hf _ m) hc rfl) (λ v L hv hl m=>tY.ne_out (hf _ m) hv hl rfl) G hf R' X
   refine ay (Um hA t target xs[k] ρ sL _ j' μ v ht FQ G1.rel G1.fr V) (λ _ sP Gx=>?_) λ _ _ e=>e
   have G2:=G1.go tG AE Gx
   have xt:∀ {s φ μ s' j' sJ sL σ'},Go C T F s φ μ s' j' sJ sL σ'->Ext s.heap φ μ s'.heap j' sJ wr (frL Fo.fs):=λ g=>(Hu▸g.ext).wider λ b o m _=>by rw [tG,aG] at m;erw [m];exact KX
   refine Ea (N'.ext (xt Gx) tq Ec) λ N2 e2=>?_
   have C0:=W.frame _ _ _ x9 e2
   have CH:=W.sr _ _ _ _ _ _ _ _ (W.sr _ _ _ _ _ _ _ _ AH X) Gx.ext
   refine ay (hifs sL σ _ hw sP j' μ G2.rel G2.fr) (λ ok tI hp=>?_) λ _ _ e=>e
   (refine Eeeea (hp) λ Aa Ab sO Gy hq=>?_;try clear hp)
   have G3:=G2.go tG AE Gy
   refine Ea (N2.ext (xt Gy) tq Ec) λ N3 e3=>?_
   have EU:=W.frame _ _ _ C0 e3
   have EM:=W.sr _ _ _ _ _ _ _ _ CH Gy.ext
   cases ok with
   | false =>
    refine Ea (qn (hq.f rfl)) λ q1 q2=>?_
    exact am ⟨_,fU s3 (aZ k),mk (k + 1) _ Aa Ab sO acc s3 (back G3) EU N3 EM q1 q2⟩
   | true =>
    refine ay (hin tI Aa Ab sL sO acc _ (λ j m=>?_) G3.here (hq.t rfl)) (λ _ Ay h4=>?_) λ _ _ e=>e
    ·erw [DV.2 j λ q=>hdis j q m];exact Dv j m
    ·(refine Eeeeea (h4) λ Cq Ct B9 tm Gz K'=>?_;try clear h4)
     refine Ea (N3.ext Gz.ext tq Ec) λ N4 e4=>?_
     refine Ea (qn K') λ q1 q2=>?_
     exact ⟨_,fU s3 (aZ k),mk (k + 1) _ Cq Ct B9 tm s3 (back (G3.trans Gz)) (W.frame _ _ _ EU e4) N4 (W.sr _ _ _ _ _ _ _ _ EM Gz.ext) q1 q2⟩
  ·cases r with
   | none=>exact hr.elim
   | some v =>
    refine aa (ay hr (λ _ sP h2=>aa (ay h2 (λ _ tI h3=>aa (ay h3 (λ ok Ay h4=>?_) λ _ _ e=>e.elim)) λ _ _ e=>e.elim)) λ _ _ e=>e.elim)
    cases ok with
    | true=>exact aa (ay h4 (λ _ E3 h5=>am ⟨rfl,h5⟩) λ _ _ e=>e.elim)
    | false =>
     show wpAny _ _ ((pure ():kI Unit) >>= λ _=>again (.compLoop (.ListComp s6 gensA scope pos) d it (.ref B) F.env)) _ _ _
     exact aa (ay h4 (λ _ E3 h5=>am ⟨rfl,h5⟩) λ _ _ e=>e.elim)
 ·have Dn:k=xs.length:=by exact bl (hk) ((bk s3))
  subst Dn
  rw [o8] at hw
  refine ay (W.done s φ μ σ (λ r sM=>r=none/\GC C T F Fo tQ wr B sQ sS sT sM φ μ ρ σ acc) tB G.rel AH tu N λ h' tk kk=>⟨rfl,GC.endL tY tG hL hC tq G hf N kk⟩) (λ r sM ⟨hr,G1⟩=>?_) λ _ _ e=>e.elim
  subst hr
  exact am ⟨rfl,φ,μ,σ,acc,G1,hw⟩
end
theorem qC {prog:bN}{w:cr}{A:aM}{R:ls->ao->Prop}{s:ao}{s6:aL}{ifs:List aL}{scope:b8}{pos:dD}{d:Nat}{it acc:af}{env:kH}(hg:gensA[d]?=some ⟨target,iter,ifs,0⟩)
  (h0:dZ (model prog w) A (.compLoop (.ListComp s6 gensA scope pos) d it acc env) R s)
  (h:wpAny (model prog w) A (gD it) (λ Gd s'=>dZ (model prog w) A (.compLoop (.ListComp s6 gensA scope pos) d Gd acc env) R s') NoE s) :
  dZ (model prog w) A (.compStart (.ListComp s6 gensA scope pos) d it acc env) R s:=by
 refine kY ?_
 show wpAny _ _ ((compStart (.ListComp s6 gensA scope pos) d it acc env).onRaise (λ x=>do noteFrame x env;fN theWindowsPlace)) _ _ s
 refine wpAny_notedAt ?_
 unfold compStart
 have hc:clausesOf (Expr.ListComp s6 gensA scope pos)=gensA:=rfl
 simp only [hc,hg]
 show wpAny _ _ (ask >>= _) _ _ s
 refine aa (dI (wpAny_ite ?_))
 split
 ·first
   | exact aa (am (am (l8 rfl h0)))
   | exact am (l8 rfl h0)
 ·first
   | exact aa (fF (aa (bx (aa (ay h (λ Gd s' h'=>am (l8 rfl h')) λ _ _ x=>x.elim)))))
   | (refine aa (fF ?_);show wpAny _ _ (fN iter.pos >>= _) _ _ s;exact aa (bx (aa (ay h (λ Gd s' h'=>am (l8 rfl h')) λ _ _ x=>x.elim))))
section
variable {C:Cx}{T:Tabs}{F:Fm}{A:aM}{n:Nat}{s s' sQ sM:ao}{φ j' sS sV:ah->Prop}{μ sJ sT sR:List ah}{ρ sL tV s0:Rho}{σ σ' s4:zA}{h h':aR}{own:List ah}{B:ah}{wr:List ah}{Fo:Fm}{tQ:Rho}{tv:Rho->zA->(D->zA->Prop)->Prop}
theorem wv {e s6:aL}{d:Nat}(tG:F.own=[])(AE:B≠F.env.locals)(DG:∀ y c,F.env.cells.lookup y=some c->c≠B)
  (hW:∀ ρ σ K,tv ρ σ K->DX C T F A (eval s6 F.env) ρ σ K):Y1 C T n A F Fo tQ wr B tv [] (ZJ e s6 none d B F.env):=by
 intro s φ μ ρ σ acc Q _ G hw
 unfold ZJ
 refine aa ((hW ρ σ _ hw).seq G.rel G.fr λ s' j' sJ v dd σ' Gx V q=>?_)
 refine Eeaaa (yg V q) λ x _ p q1 q2=>?_
 exact aa (GC.append AE DG (G.go tG AE Gx) p q1 λ sP G2=>am ⟨j',sJ,σ',_,G2,q2⟩)
theorem wJ {s6:aL}{gensA:List bh}{scope:b8}{pos:dD}{d:Nat}{target iter:aL}{sW:List aL}{t:Pt}{it:Ex}{ifs:List Ex}{gs:List Gn}
  (tG:F.own=[]) (AE:B≠F.env.locals) (DG:∀ y c,F.env.cells.lookup y=some c->c≠B)
  (hg:gensA[d + 1]?=some ⟨target,iter,sW,0⟩) (hg':∀ g',gensA[d + 2]?=some g'->g'.is_async=0) (EF:∀ x,foldedSetIterable iter F.env x=pure x)
  (hA:A.handled=none) (Fa:A.mark none=A) (ht:trP F.ks target=some t) (hdis:∀ j,j∈Zx t->j∉Zy gs)
  (hdi:∀ ρ σ K,(wpE C T n it ρ σ λ d σ'=>zk σ' d λ xs i=>K xs i σ')->DI C T F A iter target ρ σ K)
  (hifs:∀ ρ σ K,wpIfs C T n ifs ρ σ K->DB C T F A (Z6 sW F.env) ρ σ K)
  (hin:Y1 C T n A F Fo tQ wr B tv gs (ZJ (.ListComp s6 gensA scope pos) s6 (gensA[d + 2]?) (d + 1) B F.env)) :
  Y1 C T n A F Fo tQ wr B tv (.mk t it ifs::gs) (ZJ (.ListComp s6 gensA scope pos) s6 (some ⟨target,iter,sW,0⟩) d B F.env):=by
 intro s φ μ ρ σ acc Q BC G hw
 have B3:wpE C T n it ρ σ λ d σ'=>zk σ' d λ xs i=>Few xs.length/\zH (zM C T n tv t ifs gs ρ i) xs (acc,σ') λ a=>Q a.1 a.2:=hw
 refine aa ?_
 refine ay (hdi ρ σ _ B3 s φ μ (λ v s'=>wpAny (model C.prog C.w) A (runOwn (.compStart (.ListComp s6 gensA scope pos) (d + 1) v (.ref B) F.env) F.env) (λ _ s'=>∃ j' sJ σ' tm,GC C T F Fo tQ wr B s φ μ s' j' sJ ρ σ' tm/\Q tm σ') NoE s') G.rel G.fr ?_) (λ x sM hx=>?_) λ _ _ e=>e.elim
 ·intro FA s' j' sJ σ' own src xs It Sr G' W tB N hf AH tu hq
  have G1:=G.go tG AE G'
  have loop:dZ (model C.prog C.w) A (.compLoop (.ListComp s6 gensA scope pos) (d + 1) FA (.ref B) F.env) (λ r s'=>match r with | .ok f=>f=.next/\∃ j' sJ σ' tm,GC C T F Fo tQ wr B s φ μ s' j' sJ ρ σ' tm/\Q tm σ' | .error e=>False) s' :=
   J0 hg hg' W hA ht hifs hin tG AE DG (λ j m=>BC j (bK _ m)) (λ j m=>BC j (bg _ m)) hdis G.fo (λ b m q=>by refine Ee (G.wx b q) λ o e=>?_;rw [hf b m] at e;cases e) (λ y c hc m=>G.fr.ne_cells (hf _ m) hc rfl) hf G1 tB N AH tu hq.2
  refine wpAny_runOwn ?_
  erw [Fa]
  refine fm (qC hg loop (W.self 0 _ _ tB loop)) λ r tz hr=>?_
  cases r with
  | ok f=>exact hr.2
  | error e=>exact hr.elim
 ·refine aa (bx (aa (gx (EF x) (aa (aQ (ay hx (λ FA sP h2=>aa (ay h2 (λ _ tI h3=>am h3) λ _ _ e=>e.elim)) λ _ _ e=>e.elim))))))
end
noncomputable def YN (scope:b8):aN×aW->aN×aW:=λ xk=>(xk.1,if scope.names.lookup xk.1=some .free/\(xk.2=.cell∨xk.2=.free) then .free else .globalExplicit)
noncomputable def zV (scope:b8):List (aN×aW):=scope.names.filter λ xk=>xk.2==.local
noncomputable def zl (ks:List (aN×aW))(scope:b8):List (aN×aW):=ks.map (YN scope)++zV scope
noncomputable def zy (scope:b8)(cells:List (aN×ah)):List (aN×ah):=((scope.names.filter λ xk=>xk.2==.free).map λ xk=>(xk.1,(cells.lookup xk.1).getD 0)).reverse
noncomputable def UK (ks:List (aN×aW))(scope:b8):Bool:=scope.kind==.function&&scope.names.all (λ xk=>xk.2 != .cell&&scope.names.lookup xk.1==some xk.2&&(xk.2 != .free || ks.any λ yk=>yk.1==xk.1&&(yk.2==.cell || yk.2==.free)))&&decide ((zV scope).map (·.1)).Nodup
theorem ud :∀ (l:List (aN×aW)) (cs:List (aN×ah)),(∀ xk∈l,xk.2=.free->∃ c,env.cells.lookup xk.1=some c) ->
  (forIn l cs λ x r=>(match x with | (name,kind)=>if (kind==gH)=true then do let c<-cellOf env name;pure (dR ((name,c)::r)) else pure (dR r):kI (ForInStep (List (aN×ah))))) =
   pure (((l.filter λ xk=>xk.2==.free).map λ xk=>(xk.1,(env.cells.lookup xk.1).getD 0)).reverse++cs):=by
 intro l
 induction l with
 | nil =>
  intro cs _
  exact rfl
 | cons Fj l ih =>
  intro cs h
  obtain ⟨x,k⟩:=Fj
  have ih:=λ K4=>ih K4 λ xk m=>h xk (bU _ m)
  erw [eX]
  by_cases hk:k=.free
  ·subst hk
   refine Ee (h (x,.free) (by simp) rfl) λ c hc=>?_
   have Aq:env.cells.lookup x=some c:=hc
   simp only [beq_self_eq_true,if_true,cellOf,Aq,pure_bind,cq,aY,cK,List.reverse_cons,au,List.singleton_append]
   exact ih ((x,c)::cs)
  ·have Ac:(k==gH)=false:=by simpa using hk
   simp only [Ac,cq,pure_bind,ih,ch,if_false]
theorem UV (h:∀ xk∈scope.names,xk.2=.free->∃ c,env.cells.lookup xk.1=some c):closureFor scope env=pure (zy scope env.cells):=by
 have:=ud (env:=env) scope.names [] h
 rw [aP] at this
 unfold closureFor
 exact (congrArg (λ m=>m >>= λ cs=>pure cs) this).trans (pure_bind _ _)
theorem yN {α:Type}:∀ {l:List (aN×α)} {x:aN} {a:α},l.lookup x=some a->(x,a)∈l
 | [],_,_,h=>by simp at h
 | (y,b)::l,x,a,h=>by
  rw [cC] at h
  cases hb:x==y with
  | true=>rw [hb] at h;simp only [sC] at h;have:x=y:=(by simpa using hb);subst this;subst h;simp
  | false=>rw [hb] at h;simp only at h;exact bU _ (yN h)
theorem uF {α:Type}(f:aN->α){l:List (aN×α)}:(∀ ya∈l,ya.2=f ya.1)->(∃ a,(x,a)∈l)->l.lookup x=some (f x):=by
 induction l with
 | nil=>exact λ _ h=>Ee h λ a h=>nomatch h
 | cons p l ih =>
  intro hf h
  show m9 x ((p.1,p.2)::l)=_
  rw [cC]
  cases hb:x==p.1 with
  | true=>rw [eq_of_beq hb];exact congrArg some (hf p (.head _))
  | false =>
   refine ih (λ ya m=>hf ya (.tail _ m)) (Ee h λ a h=>?_)
   rcases aJ.mp h with h | h
   ·exact absurd (congrArg nc h) (beq_eq_false_iff_ne.mp hb)
   ·exact ⟨a,h⟩
theorem wY (h:(x,gH)∈scope.names):(zy scope cells).lookup x=some ((cells.lookup x).getD 0):=by
 refine uF (λ y=>(cells.lookup y).getD 0) (λ ya m=>?_) ⟨(cells.lookup x).getD 0,?_⟩
 ·simp only [zy,fJ,aU] at m
  (refine Eea (m) λ xk _ AN=>?_;try clear m;obtain rfl:=AN);rfl
 ·simp only [zy,fJ,aU]
  exact ⟨(x,.free),cS.mpr ⟨h,rfl⟩,rfl⟩
theorem Qr {c:ah}(h:(zy scope cells).lookup x=some c):(x,gH)∈scope.names/\c=(cells.lookup x).getD 0:=by
 have:=yN h
 simp only [zy,fJ,aU,rh] at this
 (refine Eeaa (this) λ xk h1 h2 h3=>?_;try clear this)
 refine Ea (cS.mp h1) λ h4 h5=>?_
 have Il:xk.2=.free:=by simpa using h5
 obtain ⟨y,k⟩:=xk
 dsimp only at h2 h3 Il
 subst h2;subst Il
 exact ⟨h4,h3.symm⟩
structure CompOk (ks:List (aN×aW))(scope:b8):Prop where
 kind:scope.kind=.function
 nocell:∀ x∈scope.names,x.2≠.cell
 look:∀ x∈scope.names,scope.names.lookup x.1=some x.2
 free:∀ x∈scope.names,x.2=.free->∃ (i:Nat) (k:aW),ks[i]?=some (x.1,k)/\(k=.cell∨k=.free)
 nodup:((zV scope).map (·.1)).Nodup
theorem CompOk.of (h:UK ks scope=true):CompOk ks scope:=by
 simp only [UK,bt,decide_eq_true_eq,bR,beq_iff_eq,bne_iff_ne,ne_eq,kW,gR] at h
 (refine Ea (h) λ Bt=>?_;try clear h;(refine Ea (Bt) λ h1 h2=>?_;try clear Bt);intro h3)
 refine ⟨h1,λ x m=>(h2 x m).1.1,λ x m=>(h2 x m).1.2,λ x m hx=>?_,h3⟩
 rcases (h2 x m).2 with q | ⟨yk,q1,q2,q3⟩
 ·exact absurd hx q
 ·refine Ee (aS.mp q1) λ i hi=>?_
  obtain ⟨y,k⟩:=yk
  dsimp only at q2 q3
  subst q2
  exact ⟨i,k,hi,q3⟩
theorem wS {β:Type}{k:β}(f:aN×β->aN×β)(hf:∀ p,(f p).1=p.1):∀ {l:List (aN×β)},l.lookup x=some k->(l.map f).lookup x=some (f (x,k)).2:=by
 intro l
 induction l with
 | nil=>exact λ h=>nomatch h
 | cons p r ih =>
  intro h
  show m9 x (((f p).1,(f p).2)::r.map f)=_
  rw [hf p]
  have h:m9 x ((p.1,p.2)::r)=some k:=h
  cases hx:x==p.1 with
  | true =>
   rw [cC,hx] at h ⊢
   rw [eq_of_beq hx,<- so h]
  | false =>
   rw [cC,hx] at h ⊢
   exact ih h
theorem Qq {env:kH}:∀ {names:List (aN×aW)} {x:aN} {k:aW},names.lookup x=some k ->
  (names.map λ (n,k)=>if (k==gH&&env.scope.kind==.function&&env.kindOf n==some .cell) then (n,lQ) else (n,k)).lookup x=some (if k=.free/\env.scope.kind=.function/\env.kindOf x=some .cell then .cell else k):=λ {names x k} h=>by
 refine (wS _ (λ p=>?_) h).trans (congrArg some ?_)
 ·dsimp only;split <;> rfl
 ·dsimp only
  by_cases hc:k=.free/\env.scope.kind=.function/\env.kindOf x=some .cell
  ·rw [if_pos hc,if_pos (by simp [hc.1,hc.2.1,hc.2.2])]
  ·rw [if_neg hc,if_neg (by simp only [bt,beq_iff_eq];exact λ q=>hc ⟨q.1.1,q.1.2,q.2⟩)]
section
variable {C:Cx}{T:Tabs}{F:Fm}{A:aM}{n:Nat}{s s' sQ sM:ao}{φ j' sS sV:ah->Prop}{μ sJ sT sR:List ah}{ρ sL tV s0:Rho}{σ σ' s4:zA}{h h':aR}{own:List ah}{B L:ah}
noncomputable def zX (F:Fm)(scope:b8)(L:ah):Fm:=⟨pP scope (zy scope F.env.cells) L F.env,zl F.ks scope,[],F.fs⟩
theorem FrI.clo (I:FrI F h φ μ ρ)(K:CompOk F.ks scope):∀ xk∈scope.names,xk.2=.free->∃ c,F.env.cells.lookup xk.1=some c:=λ xk m hx=>by
 refine Eeea (K.free xk m hx) λ i k hi hk=>?_
 (refine Ea (I.cell i _ k hi hk) λ _ B0=>?_;refine Eeea B0 λ c v hc _=>?_)
 exact ⟨c,hc⟩
theorem XU (K:CompOk F.ks scope)(I:FrI F h φ μ ρ)(hL:h.Ns L λ _=>none)(Lμ:L∉μ)(Lφ:¬ φ L)(J':∀ y c,F.env.cells.lookup y=some c->c≠L)(BB:∀ v L',v∈F.fs->v.frame=some L'->L'≠L) :
  FrI (zX F scope L) h φ μ (ρ++bD (zV scope).length none):=by
 have hlen:=I.len
 have e1:∀ i,i<F.ks.length->(zl F.ks scope)[i]?=F.ks[i]?.map (YN scope):=λ i hi=>by
  unfold zl
  (erw [aB (by simpa using hi)];erw [a6];rfl)
 have e2:∀ i,F.ks.length<=i->(zl F.ks scope)[i]?=(zV scope)[i - F.ks.length]?:=λ i hi=>by
  unfold zl
  (erw [cj (by simpa using hi)];erw [aj];rfl)
 have r1:∀ i,i<F.ks.length->(ρ++bD (zV scope).length (none:Option D))[i]?=ρ[i]?:=λ i hi=>aB (nU hi hlen.symm)
 have r2:∀ i x,F.ks.length<=i->(zl F.ks scope)[i]?=some x->(ρ++bD (zV scope).length (none:Option D))[i]?=some none:=λ i x hi hx=>by
  rw [e2 i hi] at hx
  have:=(av.mp hx).1
  (erw [cj (by exact lin [_,_,_] [] (.v 0) (.v 1) [(1,.e (.v 0) (.v 2)),(1,.l (.v 2) (.v 1))] tT9 hlen hi)];erw [kR (by erw [hlen];exact this)];rfl)
 have out:∀ i x k,i<F.ks.length->(zl F.ks scope)[i]?=some (x,k)->acc k->k=.free/\scope.names.lookup x=some .free/\∃ k',F.ks[i]?=some (x,k')/\(k'=.cell∨k'=.free):=λ i x k hi hx hk=>by
  rw [e1 i hi,bL] at hx
  (refine Eea (hx) λ BN=>?_;try clear hx;obtain ⟨y,k'⟩:=BN;intro h1 h2)
  simp only [YN,rh] at h2
  (refine Ea (h2) λ Ds=>?_;try clear h2;obtain rfl:=Ds;intro h3)
  split at h3
  ·rename_i hc
   exact ⟨h3.symm,hc.1,k',h1,hc.2⟩
  ·subst h3;rcases hk with q | q | q <;> cases q
 have FK:∀ i x k,F.ks.length<=i->(zl F.ks scope)[i]?=some (x,k)->k=.local/\scope.names.lookup x=some .local:=λ i x k hi hx=>by
  rw [e2 i hi] at hx
  have hm:=aS.mpr ⟨_,hx⟩
  refine Ea (cS.mp hm) λ CU F8=>?_
  have hk:k=.local:=by simpa using F8
  subst hk
  exact ⟨rfl,K.look _ CU⟩
 have Iq:∀ x k,scope.names.lookup x=some k->(zX F scope L).env.kindOf x=some (if k=.free/\F.env.scope.kind=.function/\F.env.kindOf x=some .cell then .cell else k):=λ x k hx=>Qq hx
 refine ⟨K.kind,I.glob,I.blt,?_,⟨_,hL,λ i x hi=>?_⟩,λ i x k hi hk=>?_,λ i j x k k' hi hj hk Ac=>?_,Lμ,Lφ,λ y c hc=>?_,λ x y c hx hy=>?_,(λ c m=>by simp [zX] at m),λ v hv=>?_⟩
 ·show _=(zl F.ks scope).length
  simp [zl,hlen]
 ·by_cases s3:i<F.ks.length
  ·refine Ea (out i x _ s3 hi (.inl rfl)) λ q _=>?_;cases q
  ·have DT:F.ks.length<=i:=by exact (bk s3)
   refine Ea (FK i x _ DT hi) λ _ hx=>?_
   refine ⟨by erw [Iq x _ hx];simp,?_⟩
   erw [r2 i _ DT hi];exact .no _
 ·by_cases s3:i<F.ks.length
  ·obtain ⟨rfl,hx,k',h1,h2⟩:=out i x k s3 hi (by rcases hk with q | q <;> simp [acc,q])
   (refine Ea (I.cell i x k' h1 h2) λ g1 KW=>?_;refine Eeeaaa KW λ c v g2 g3 g4 _=>?_)
   refine ⟨?_,c,v,?_,g3,?_,λ q=>nomatch q⟩
   ·erw [Iq x _ hx]
    by_cases q:F.env.kindOf x=some .cell
    ·left;simp [q,I.kind]
    ·right;simp [q]
   ·show (zy scope F.env.cells).lookup x=some c
    (erw [wY (yN hx)];erw [g2]);rfl
   ·erw [r1 i s3];exact g4
  ·have DT:F.ks.length<=i:=by exact (bk s3)
   refine Ea (FK i x k DT hi) λ q _=>?_
   subst q;rcases hk with q | q <;> cases q
 ·by_cases Ew:i<F.ks.length
  ·obtain ⟨rfl,hx,k1,h1,h2⟩:=out i x k Ew hi hk
   by_cases D8:j<F.ks.length
   ·obtain ⟨rfl,B7,k2,h3,h4⟩:=out j x k' D8 hj Ac
    exact I.uniq i j x k1 k2 h1 h3 (.inr h2) (.inr h4)
   ·refine Ea (FK j x k' (by exact (bk D8)) hj) λ q B7=>?_
    rw [hx] at B7;cases B7
  ·refine Ea (FK i x k (by exact (bk Ew)) hi) λ q hx=>?_
   by_cases D8:j<F.ks.length
   ·obtain ⟨rfl,B7,k2,h3,h4⟩:=out j x k' D8 hj Ac
    rw [hx] at B7;cases B7
   ·have BY:(zl F.ks scope)[i]?=some (x,k):=hi
    have Eb:(zl F.ks scope)[j]?=some (x,k'):=hj
    rw [e2 i (by exact (bk Ew))] at BY
    rw [e2 j (by exact (bk D8))] at Eb
    have n1:((zV scope).map (·.1))[i - F.ks.length]?=some x:=by (erw [a6];erw [BY]);rfl
    have n2:((zV scope).map (·.1))[j - F.ks.length]?=some x:=by (erw [a6];erw [Eb]);rfl
    have:=K.nodup
    have l1:=(av.mp n1).1
    have:=(gB l1 this).mp (n1.trans n2.symm)
    exact (nX (bk Ew)).symm.trans ((congrArg (· + F.ks.length) this).trans (nX (bk D8)))
 ·refine Ea (Qr (show (zy scope F.env.cells).lookup y=some c from hc)) λ h1 h2=>?_
  refine Ee (I.clo K _ h1 rfl) λ c' Aq=>?_
  rw [Aq] at h2
  simp only [cK] at h2
  subst h2
  refine Z0 (I.cμ y c Aq) λ g1 g2 g3 g4=>?_
  exact ⟨g1,g2,g3,J' y c Aq⟩
 ·refine Ea (Qr (show (zy scope F.env.cells).lookup x=some c from hx)) λ h1 h2=>?_
  refine Ea (Qr (show (zy scope F.env.cells).lookup y=some c from hy)) λ h3 h4=>?_
  refine Ee (I.clo K _ h1 rfl) λ c1 Ah=>?_
  refine Ee (I.clo K _ h3 rfl) λ c2 Ap=>?_
  rw [Ah] at h2;rw [Ap] at h4
  simp only [cK] at h2 h4
  exact I.cinj x y c (h2▸Ah) (h4▸Ap)
 ·(refine Ea (I.outs v hv) λ k1 HA=>?_;refine Eea HA λ L' k2 k3=>?_)
  refine ⟨k1,L',k2,.inr ?_⟩
  have tq:=BB v L' hv k2
  rcases k3 with k3 | ⟨o,k3,k4,k5,k6,_⟩
  ·(refine Eea (I.loc) λ m' CL=>?_;(refine Eeeeaa (CL) λ o es ep ho hd _=>?_;try clear CL);intro _)
   exact ⟨o,k3▸ho,⟨es,ep,hd⟩,k3▸I.Lμ,k3▸I.Lφ,λ m=>by simp [zX] at m,tq⟩
  ·exact ⟨o,k3,k4,k5,k6,λ m=>by simp [zX] at m,tq⟩
end
section
variable {C:Cx}{T:Tabs}{F:Fm}{A:aM}{n:Nat}{s s' sQ sM:ao}{φ j' sS sV:ah->Prop}{μ sJ sT sR:List ah}{ρ sL tV s0:Rho}{σ σ' s4:zA}{h h':aR}{own:List ah}{B L:ah}{tv:Rho->zA->(D->zA->Prop)->Prop}
noncomputable def ZQ (F:Fm)(L B:ah):List ah:=L::B::F.env.locals::F.own
theorem WG {it:af}{s6 target iter:aL}{sW:List aL}{sX:List bh}{scope:b8}{pos:dD}{t:Pt}{ifs:List Ex}{gs:List Gn}{src:Option (Nat×List ab)}{xs:List ab}{It:Nat->aR->Prop}{Sr:aR->(ah->Prop)->List ah->Prop}
  {Q:List ab->zA->Prop} {RR:af->ah->ls->ao->Prop}
  (K:CompOk F.ks scope) (hg':∀ g',sX[0]?=some g'->g'.is_async=0) (W:Walk C T A it target own src xs It Sr) (hA:A.handled=none) (ht:trP (zl F.ks scope) target=some t)
  (hix:∀ j,j∈Zx t∨j∈Zy gs->F.ks.length<=j/\j<F.ks.length + (zV scope).length) (hdis:∀ j,j∈Zx t->j∉Zy gs)
  (hifs:∀ L ρ σ K,wpIfs C T n ifs ρ σ K->DB C T (zX F scope L) A (Z6 sW (zX F scope L).env) ρ σ K)
  (hin:∀ L B,B≠L->(∀ y c,(zX F scope L).env.cells.lookup y=some c->c≠B)->Y1 C T n A (zX F scope L) F ρ (ZQ F L B) B tv gs (ZJ (.ListComp s6 (⟨target,iter,sW,0⟩::sX) scope pos) s6 (sX[0]?) 0 B (zX F scope L).env))
  (I:FrI F s.heap φ μ ρ) (G:Go C T F s φ μ sM sV sR ρ s4) (tB:It 0 sM.heap) (N:Lone sM.heap sV sR own) (hf:∀ b,b∈own->s.heap.get? b=none) (AH:Sr sM.heap sV sR) (tu:zS src s4 True)
  (hw:zH (zM C T n tv t ifs gs (ρ++bD (zV scope).length none) src) xs ([],s4) λ a=>Q a.1 a.2)
  (IM:∀ B L s' j' sJ σ' acc sL,s.heap.get? B=none->s.heap.get? L=none->B≠L->GC C T (zX F scope L) F ρ (ZQ F L B) B s φ μ s' j' sJ sL σ' acc->Q acc σ'->RR (.ref B) L (.ok .next) s') :
  wpAny (model C.prog C.w) A (newList []) (λ ac tI=>wpAny (model C.prog C.w) A (newFunctionEnv scope F.env.globals (zy scope F.env.cells) [] F.env.qual none .none (some F.env)) (λ E0 Ay =>
   dZ (model C.prog C.w) A (.compStart (.ListComp s6 (⟨target,iter,sW,0⟩::sX) scope pos) 0 it ac {E0 with scope:=relabel scope F.env}) (RR ac E0.locals) Ay) NoE tI) NoE sM:=by
 refine cD (wpAny_newFunctionEnv K.nocell (by intro y hy;simp at hy) (λ s5 Av Az=>?_) K.kind)
 dsimp only at Av Az ⊢
 (refine Eee (id G.st) λ hh A9 t7=>?_;obtain rfl:=t7)
 dsimp only at *
 generalize GA:hh.push {cls:=.type "list",dict:=none,data:=.seq ([]:List af).toArray}=H2 at Av Az ⊢
 have hC:H2.objs.size=hh.objs.size + 1:=by (refine rwS GA ?_;erw [dJ];rfl)
 have EO:hh.objs.size≠H2.objs.size:=by erw [hC];exact aF (aZ _)
 have G9:∀ b o,hh.get? b=some o->H2.get? b=some o:=λ b o e=>GA▸aq _ e
 have HQ:H2.get? hh.objs.size=some (PySem.W.listOf ([]:List af).toArray 0):=GA▸aI _ rfl
 have fB:=zj hh
 have fL:hh.get? H2.objs.size=none:=dp (by erw [hC];exact dj _)
 refine Ea (G.rel.grow (h':=H2.push {cls:=.type "dict",data:=.dict #[]}) λ b o e=>aq _ (G9 b o e)) λ R3 X3=>?_
 have Lμ:H2.objs.size∉sR:=G.rel.notin_none fL
 have Lφ:¬ sV H2.objs.size:=G.rel.notfrz_none fL
 obtain ⟨IZ,C3⟩:∃ o,s5.get? H2.objs.size=some o:=by (refine Eeeea (Av) λ o es ep ho _=>?_;try clear Av);exact ⟨o,ho⟩
 refine Ea (R3.but Lμ Lφ Az C3) λ R4 X4=>?_
 have X:Ext hh sV sR s5 sV sR [H2.objs.size]:=(X3.wider (λ b o m _=>by simp at m)).trans X4
 have C2:H2.objs.size∉own:=λ m=>by refine Ee (N.at_ _ m) λ o ho=>?_;rw [fL] at ho;cases ho
 have Fb:hh.objs.size∉own:=λ m=>by refine Ee (N.at_ _ m) λ o ho=>?_;rw [fB] at ho;cases ho
 have E2:∀ y c,F.env.cells.lookup y=some c->c≠H2.objs.size/\c≠hh.objs.size:=λ y c hc=>by
  (refine Ea (G.fr.cμ y c hc) λ AZ=>?_;(refine Ee (AZ) λ o h0=>?_;try clear AZ);intro _)
  exact ⟨λ q=>(by rw [q,fL] at h0;cases h0),λ q=>(by rw [q,fB] at h0;cases h0)⟩
 have GO:F.env.locals≠H2.objs.size/\F.env.locals≠hh.objs.size:=by
  refine Eea (G.fr.loc) λ m' hn _=>?_
  (refine Eeeea (hn) λ o es ep ho r=>?_;try clear hn)
  exact ⟨λ q=>(by rw [q,fL] at ho;cases ho),λ q=>(by rw [q,fB] at ho;cases ho)⟩
 have fo:FrI F s5 sV sR ρ:=G.fr.ext X (by simpa using GO.1) (λ y c hc=>by simpa using (E2 y c hc).1) (λ v L hv hl _=>by simpa using G.fr.ne_out fL hv hl)
 have I':FrI (zX F scope H2.objs.size) s5 sV sR (ρ++bD (zV scope).length none):=XU K fo (by simpa using Av) Lμ Lφ (λ y c hc=>(E2 y c hc).1) (λ v L hv hl=>G.fr.ne_out fL hv hl)
 refine Ea (N.ext X (λ b m=>by simp only [aG];rintro rfl;exact C2 m) λ _ _ h=>nomatch h) λ N' e'=>?_
 have x9:=W.frame _ _ _ tB e'
 have Hj:=W.sr _ _ _ _ _ _ _ _ AH X
 have G':GC C T (zX F scope H2.objs.size) F ρ (ZQ F H2.objs.size hh.objs.size) hh.objs.size s φ μ {s with heap:=s5,toks:=A9 + ([]:List (aN×af)).length} sV sR (ρ++bD (zV scope).length none) s4 []:=by
  refine ⟨⟨_,_,rfl⟩,R4,I',(G.ext.wider λ b o m _=>?_).trans (X.wider λ b o m _=>?_).slack,⟨[],0,?_,.nil⟩,G.rel.notin_none fB,G.rel.notfrz_none fB,by simp [ZQ,zX,pP],by simp [ZQ],λ b m=>?_,fo,λ a ha=>?_,rfl⟩
  ·simp only [ZQ,aJ] at m ⊢;exact .inr (.inr m)
  ·rw [aG] at m;simp [ZQ,m]
  ·show s5.get? hh.objs.size=_
   exact Az.extBut _ _ EO (aq _ HQ)
  ·simp only [ZQ,aJ] at m
   rcases m with rfl | rfl | rfl | m
   ·exact ⟨_,C3⟩
   ·exact ⟨_,Az.extBut _ _ EO (aq _ HQ)⟩
   ·refine Eea (fo.loc) λ m' hn _=>?_;(refine Eeeea (hn) λ o es ep ho r=>?_;try clear hn);exact ⟨o,ho⟩
   ·exact fo.own _ m
  ·rcases ha with rfl | rfl
   ·exact ⟨GO.1,λ y c hc=>(E2 y c hc).1,λ v L hv hl=>G.fr.ne_out fL hv hl⟩
   ·exact ⟨GO.2,λ y c hc=>(E2 y c hc).2,λ v L hv hl=>G.fr.ne_out fB hv hl⟩
 have H0:∀ y c,(zX F scope H2.objs.size).env.cells.lookup y=some c->c≠hh.objs.size:=λ y c hc=>by
  (refine Ea (I'.cμ y c hc) λ BN=>?_;(refine Ee (BN) λ o h0=>?_;try clear BN);intro _)
  refine Ea (Qr (show (zy scope F.env.cells).lookup y=some c from hc)) λ h1 h2=>?_
  refine Ee (fo.clo K _ h1 rfl) λ c' Aq=>?_
  rw [Aq] at h2;simp only [cK] at h2;subst h2
  exact (E2 y c Aq).2
 have IB:∀ y c,(zX F scope H2.objs.size).env.cells.lookup y=some c->c∉own:=λ y c hc m=>by
  refine Ea (Qr (show (zy scope F.env.cells).lookup y=some c from hc)) λ h1 h2=>?_
  refine Ee (fo.clo K _ h1 rfl) λ c' Aq=>?_
  rw [Aq] at h2;simp only [cK] at h2;subst h2
  exact I.ne_cells (hf _ m) Aq rfl
 have hlen:=I.len
 have free:∀ j,j∈Zx t∨j∈Zy gs->(ρ++bD (zV scope).length (none:Option D))[j]?=some none:=λ j m=>by
  refine Ea (hix j m) λ h1 h2=>?_
  (erw [cj (by exact lin [_,_,_] [] (.v 0) (.v 1) [(1,.e (.v 0) (.v 2)),(1,.l (.v 2) (.v 1))] tT9 hlen h1)];erw [kR (by erw [hlen];exact gj h1 h2)];rfl)
 have loop:dZ (model C.prog C.w) A (.compLoop (.ListComp s6 (⟨target,iter,sW,0⟩::sX) scope pos) 0 it (.ref hh.objs.size) (zX F scope H2.objs.size).env)
   (λ r s'=>match r with | .ok f=>f=.next/\∃ j' sJ σ' tm,GC C T (zX F scope H2.objs.size) F ρ (ZQ F H2.objs.size hh.objs.size) hh.objs.size s φ μ s' j' sJ (ρ++bD (zV scope).length none) σ' tm/\Q tm σ' | .error e=>False) _ :=
  J0 (d:=0) rfl (λ g' e=>hg' g' (by simpa using e)) W hA ht (hifs _) (by simpa using hin H2.objs.size hh.objs.size EO H0) rfl EO H0 (λ j m=>free j (.inl m)) (λ j m=>free j (.inr m)) hdis I
   (λ b m q=>by
    simp only [ZQ,aJ] at q
    rcases q with rfl | rfl | rfl | q
    ·exact C2 m
    ·exact Fb m
    ·exact I.ne_locals (hf _ m) rfl
    ·exact I.ne_own (hf _ m) (bU _ q)) IB hf G' x9 N' Hj tu hw
 refine fm (qC (d:=0) rfl loop (W.self 0 _ _ x9 loop)) λ r tz hr=>?_
 cases r with
 | ok f =>
  obtain ⟨rfl,j',sJ,σ',tm,g,q⟩:=hr
  exact IM hh.objs.size H2.objs.size tz j' sJ σ' tm _ (G.ext.back fB) (G.ext.back fL) EO g q
 | error e=>exact hr.elim
end
structure CompSpec (C:Cx)(T:Tabs)(n:Nat)(A:aM)(F:Fm)(s6 target iter:aL)(sW:List aL)(sX:List bh)(scope:b8)(pos:dD)(t:Pt)(it:Ex)(ifs:List Ex)(gs:List Gn)(tv:Rho->zA->(D->zA->Prop)->Prop):Prop where
 K:CompOk F.ks scope
 hg':∀ g',sX[0]?=some g'->g'.is_async=0
 ht:trP (zl F.ks scope) target=some t
 hix:∀ j,j∈Zx t∨j∈Zy gs->F.ks.length<=j/\j<F.ks.length + (zV scope).length
 hdis:∀ j,j∈Zx t->j∉Zy gs
 fold:∀ x,foldedSetIterable iter F.env x=pure x
 hdi:∀ ρ σ K,(wpE C T n it ρ σ λ d σ'=>zk σ' d λ xs i=>K xs i σ')->DI C T F A iter target ρ σ K
 hifs:∀ L ρ σ K,wpIfs C T n ifs ρ σ K->DB C T (zX F scope L) A (Z6 sW (zX F scope L).env) ρ σ K
 hin:∀ L B ρ,B≠L->(∀ y c,(zX F scope L).env.cells.lookup y=some c->c≠B)->Y1 C T n A (zX F scope L) F ρ (ZQ F L B) B tv gs (ZJ (.ListComp s6 (⟨target,iter,sW,0⟩::sX) scope pos) s6 (sX[0]?) 0 B (zX F scope L).env)
section
variable {C:Cx}{T:Tabs}{F:Fm}{A:aM}{n:Nat}{s s' sQ sM:ao}{φ j' sS sV:ah->Prop}{μ sJ sT sR:List ah}{ρ sL tV s0:Rho}{σ σ' s4:zA}{h h':aR}{own:List ah}{B L:ah}{tv:Rho->zA->(D->zA->Prop)->Prop}
 {s6 target iter:aL} {sW:List aL} {sX:List bh} {scope:b8} {pos:dD} {t:Pt} {it:Ex} {ifs:List Ex} {gs:List Gn}
theorem vY {acc:List ab}(I:FrI F s.heap φ μ ρ)(g:GC C T (zX F scope L) F ρ (ZQ F L B) B s φ μ s' j' sJ sL σ' acc)(fB:s.heap.get? B=none)(fL:s.heap.get? L=none):Go C T F s φ μ s' j' sJ ρ σ' :=
 ⟨g.st,g.rel,g.fo,g.ext.wider λ b o m e=>by
  simp only [ZQ,aJ] at m ⊢
  rcases m with rfl | rfl | m
  ·rw [fL] at e;cases e
  ·rw [fB] at e;cases e
  ·exact m⟩
theorem jf {m:Bool}{acc:List ab}{Q:D->zA->Prop}(I:FrI F s.heap φ μ ρ)(G:Go C T F s φ μ s' j' sJ ρ σ')(a:AccAt s'.heap j' B acc)(nm:B∉sJ)(nf:¬ j' B)(fB:s.heap.get? B=none)
  (q:Zk m acc σ' Q):∃ tx tD d sY,Go C T F s φ μ s' tx tD ρ sY/\VD s'.heap tx tD (.ref B) d/\Q d sY/\∀ b,b≠B->b∉sJ->¬ j' b->b∉tD/\¬ tx b:=by
 (refine Eeea (a) λ vs nn e p=>?_;try clear a)
 cases m with
 | true =>
  refine Ea (Go.adopt (mo:=.lst acc) G fB nm nf e (I.ne_locals fB) (λ y c hc=>I.ne_cells fB hc) (λ v L hv hl=>I.ne_out fB hv hl) ⟨vs,nn,e,p⟩) λ G3 g=>?_
  exact ⟨_,_,_,_,G3,.obj g,q,λ b h1 h2 h3=>⟨by simp [h1,h2],h3⟩⟩
 | false =>
  have G3:=Go.more G fB nm e (I.ne_locals fB) (λ y c hc=>I.ne_cells fB hc) (λ v L hv hl=>I.ne_out fB hv hl)
  exact ⟨_,_,_,_,G3,.p (.lst (.inr rfl) ⟨_,e,rfl,_,rfl⟩ (p.mono λ a f=>⟨.inl f,rfl⟩)),q,λ b h1 h2 h3=>⟨h2,λ f=>f.elim h3 h1⟩⟩
def zW (m:Bool)(Q:D->zA->Prop):List ab×zA->Prop:=λ a=>Zk m a.1 a.2 Q
theorem uY {m:Bool}{use:Option (af->kI Unit)}{Q:D->zA->Prop}{X:af->ao->Prop}(S:CompSpec C T n A F s6 target iter sW sX scope pos t it ifs gs tv)(hA:A.handled=none)
  (hw:wpE C T n it ρ σ λ d σ'=>zk σ' d λ xs i=>Few xs.length/\zH (zM C T n tv t ifs gs (ρ++bD (zV scope).length none) i) xs ([],σ') (zW m Q))
  (R:Rel C T s.heap φ μ σ) (I:FrI F s.heap φ μ ρ)
  (k:∀ B L s' j' sJ σ' acc,s.heap.get? B=none->s.heap.get? L=none->B≠L->L∉sJ->¬ j' L->(∃ mm,s'.heap.Ns L mm)->Go C T F s φ μ s' j' sJ ρ σ'->AccAt s'.heap j' B acc->B∉sJ->¬ j' B->zW m Q (acc,σ')->compPost (model C.prog C.w) A NoE use X (.ref B) L (.ok .next) s') (AO:dD) :
  wpAny (model C.prog C.w) A (ri (.ListComp s6 (⟨target,iter,sW,0⟩::sX) scope pos) scope F.env AO (newList []) false (eval iter F.env) use) X NoE s:=by
 refine wpAny_comprehension_free (cl:=zy scope F.env.cells) (use:=use) rfl S.fold (UV (I.clo S.K)) S.K.kind (λ x hx hl=>hl▸S.K.look x hx) ?_
 refine S.hdi ρ σ _ hw s φ μ _ R I λ FA s' j' sJ σ' own src xs It Sr G W tB N hf AH tu hq=>?_
 refine WG S.K S.hg' W hA S.ht S.hix S.hdis S.hifs (λ L B h1 h2=>S.hin L B ρ h1 h2) I G tB N hf AH tu hq.2 (Q:=λ acc σ'=>zW m Q (acc,σ')) λ B L tz th s7 sK acc t6 fB fL AE g q=>?_
 have G':=vY I g fB fL
 refine Eea (g.fr.loc) λ mm hn _=>?_
 exact k B L tz th s7 sK acc fB fL AE g.fr.Lμ g.fr.Lφ ⟨mm,hn⟩ G' g.acc g.nm g.nf q
theorem zBp {m:Bool}{Q:D->zA->Prop}(S:CompSpec C T n A F s6 target iter sW sX scope pos t it ifs gs tv)(hA:A.handled=none)
  (hw:wpE C T n it ρ σ λ d σ'=>zk σ' d λ xs i=>Few xs.length/\zH (zM C T n tv t ifs gs (ρ++bD (zV scope).length none) i) xs ([],σ') (zW m Q)) :
  DX C T F A (eval (.ListComp s6 (⟨target,iter,sW,0⟩::sX) scope pos) F.env) ρ σ Q:=by
 intro s φ μ R I
 erw [eval_ListComp]
 refine uY (use:=none) S hA hw R I (λ B L s' j' sJ σ' acc fB fL AE Lμ Lφ hn G a nm nf q=>?_) _
 refine Ee (hn) λ mm hn=>?_
 refine ⟨mm,hn,λ h' hs=>?_⟩
 have kk:∀ c o,c∉[L]->s'.heap.get? c=some o->h'.get? c=some o:=λ c o m e=>hs.extBut c o (by simpa using m) e
 have G1:=Go.endL (own:=[L]) (tk:=s'.toks) I G (λ b m=>by rw [aG] at m;erw [m];exact fL) (λ b m=>by rw [aG] at m;erw [m];exact Lμ) (λ b m=>by rw [aG] at m;erw [m];exact Lφ) kk
 (refine Eeea (a) λ vs nn e p=>?_;try clear a)
 obtain ⟨tx,tD,d,sY,G2,V,q2,_⟩:=jf (m:=m) I G1 ⟨vs,nn,kk _ _ (by simpa using AE) e,p.mono λ a f=>⟨f,by
  refine Ee (G.rel.frz a f) λ o eo=>?_
  erw [eo];exact kk a o (λ q=>by rw [aG] at q;exact Lφ (q▸f)) eo⟩⟩ nm nf fB q
 exact pvI G2 V q2
theorem vS {m:Bool}{Q:Fl->Rho->zA->Prop}{x:aN}{iy:Nat}{px Cc:dD}(S:CompSpec C T n A F s6 target iter sW sX scope pos t it ifs gs tv)(hA:A.handled=none)
  (GF:l9 (.ListComp s6 (⟨target,iter,sW,0⟩::sX) scope pos) (some (.Name x px)) Cc.line F.env=pure true) (hi:F.ks[iy]?=some (x,.local))
  (hw:wpE C T n it ρ σ λ d σ'=>zk σ' d λ xs i=>Few xs.length/\zH (zM C T n tv t ifs gs (ρ++bD (zV scope).length none) i) xs ([],σ') (zW m λ d sK=>Q .next (ρ.set iy (some d)) sK)) :
  DS C T F A (exec (.Assign [.Name x px] (.ListComp s6 (⟨target,iter,sW,0⟩::sX) scope pos) Cc) F.env) ρ σ Q:=by
 intro s φ μ R I
 erw [exec_Assign_Name_used _ _ _ _ GF]
 refine aa (bx (aa ?_))
 show wpAny _ A (do let _<-ri (.ListComp s6 (⟨target,iter,sW,0⟩::sX) scope pos) scope F.env _ (newList []) false (eval iter F.env) (some (ge (.Name x px) F.env))) _ _ s
 refine aa (ay (uY (use:=some (ge (.Name x px) F.env)) (X:=λ _ s'=>PS C T F s φ μ Q .next s') S hA hw R I (λ B L s' j' sJ σ' acc fB fL AE Lμ Lφ hn G a nm nf q=>?_) _) (λ _ s' hq=>am (am hq)) λ _ _ e=>e)
 refine Ee (hn) λ mm hn=>?_
 refine Eeeeeaaa (jf (m:=m) (Q:=λ d sK=>Q .next (ρ.set iy (some d)) sK) I G a nm nf fB q) λ tx tD d sY G2 V q2 hb=>?_
 refine Ea (hb L (iO AE) Lμ Lφ) λ l1 l2=>?_
 show wpAny _ A (ge (.Name x px) F.env (.ref B)) _ _ _
 erw [lc]
 refine aa (bx (qO G2.rel G2.fr V hi (.inl rfl) λ tI G3=>?_))
 obtain ⟨oL,BB⟩:∃ o,s'.heap.get? L=some o:=by (refine Eeeea (hn) λ o es ep ho _=>?_;try clear hn);exact ⟨o,ho⟩
 have nL:L∉F.env.locals::F.own:=I.ne_own fL
 have KS:tI.heap.Ns L mm:=JZ hn λ o ho=>G3.ext.oth _ o ho l1 nL
 have m1:=G3.ext.notin BB l1
 have m2:=G3.ext.notfrz BB l1 l2
 refine ⟨mm,KS,λ h' hs=>?_⟩
 have kk:∀ c o,c∉[L]->tI.heap.get? c=some o->h'.get? c=some o:=λ c o m e=>hs.extBut c o (by simpa using m) e
 have G4:=Go.endL (own:=[L]) (tk:=tI.toks) I (G2.trans G3) (λ b m=>by rw [aG] at m;erw [m];exact fL) (λ b m=>by rw [aG] at m;erw [m];exact m1) (λ b m=>by rw [aG] at m;erw [m];exact m2) kk
 exact psI G4 .next q2
end
def SE (C:Cx)(T:Tabs)(n:Nat)(A:aM)(F:Fm)(e:aL)(x:Ex):Prop:=∀ ρ σ Q,wpE C T n x ρ σ Q->DX C T F A (eval e F.env) ρ σ Q
def SB (C:Cx)(T:Tabs)(n:Nat)(A:aM)(F:Fm)(e:aL)(x:Ex):Prop:=∀ ρ σ K,(wpE C T n x ρ σ λ d σ'=>isB d λ b=>K b σ')->DB C T F A (isTrue e F.env (eval e F.env)) ρ σ K
def SL (C:Cx)(T:Tabs)(n:Nat)(A:aM)(F:Fm)(es:List aL)(xs:List Ex):Prop:=∀ pos ρ σ Q,wpEs C T n xs ρ σ Q->DXs C T F A (spliced (backTo pos (starEach es F.env))) ρ σ λ ds σ'=>ds.length=es.length/\Q ds σ'
section
variable {C:Cx}{T:Tabs}{F:Fm}{A:aM}{n:Nat}{s s' sQ sM:ao}{φ j':ah->Prop}{μ sJ:List ah}{ρ sL:Rho}{σ σ':zA}{pos AO:dD}{e e' a b c o:aL}{x y z xa xb xc:Ex}{es:List aL}{xs:List Ex}
theorem SE.sb (h:SE C T n A F e x)(hp:∀ env whole,isTrue e env whole=(do let v<-whole;fN e.pos;cR [v] (mA v)):=by intros;rfl):SB C T n A F e x:=λ ρ σ K hw s φ μ R I=>by
 refine isTrue_plain ((h ρ σ _ hw).seq R I λ s' j' sJ v d σ' G V q=>?_) (hp _ _)
 exact ay (y7 G.rel G.fr V q) (λ b sP hb=>PB.up G hb) λ _ _ e=>e
theorem vQ:SL C T n A F [] []:=λ pos ρ σ Q h s φ μ R I=>am ⟨φ,μ,[],σ,Go.refl R I,.nil,rfl,h⟩
theorem JR (he:starEach (e::es) F.env=(false,eval e F.env)::starEach es F.env)(h1:SE C T n A F e x)(h2:SL C T n A F es xs):SL C T n A F (e::es) (x::xs):=λ pos ρ σ Q h s φ μ R I=>by
 refine wpAny_items_cons ((h1 ρ σ _ h).seq R I λ s' j' sJ v d σ' G V q=>?_) he
 refine (h2 pos ρ σ' _ q).seq G.rel G.fr λ tz th s7 vs ds sK G' V' q'=>?_
 exact ⟨th,s7,d::ds,sK,G.trans G',.cons (G'.ext.vd V) V',congrArg (· + 1) q'.1,q'.2⟩
theorem zC1 {x:aN}(hi:aix F.ks x=some i)(hx:(x==("__debug__":aN))=false)(hc:(x==("__classdict__":aN))=false):SE C T n A F (.Name x pos) (.nm i):=λ ρ σ Q h s φ μ R I=>by
 refine Eea (zDP hi) λ k h1 h2=>?_
 refine Eea (Is.h h) λ d e h=>?_
 refine Eea (ob e) λ o e1 e2=>?_
 cases (show o=some d from e2)
 exact zBq R I h1 h2 e1 hx hc h
theorem zBy {x:aN}(Y:C.Good)(TT:TOk C T)(hg:T.glob[g]?=some (x,d))(hk:F.env.kindOf x=some .globalImplicit)(hx:(x==("__debug__":aN))=false):SE C T n A F (.Name x pos) (.gl g):=λ ρ σ Q h s φ μ R I=>by
 refine Eea (Is.h h) λ p e h=>?_
 cases hg.symm.trans e
 exact xP Y R I hk (TT.glob g x d hg) hx h
theorem Vk {k:Const}{p:ab}(h:wf k=some p):SE C T n A F (.Constant k i pos) (.c p):=λ ρ σ Q hw s φ μ R I=>Vo R I h hw
theorem zDD (h:SL C T n A F es xs)(hl:es.length<=100000):SE C T n A F (.Tuple es k pos) (.tup xs):=λ ρ σ Q hw s φ μ R I=>by
 erw [arm_eval_Tuple]
 refine aa (bx (aa ((h pos ρ σ _ hw).seq R I λ s' j' sJ vs ds σ' G V q=>?_)))
 exact ay (Wr G.rel G.fr V (zv (show Few vs.length from (Zo V).trans q.1▸hl)) q.2) (λ v sP hv=>PV.up G hv) λ _ _ e=>e
theorem zDi (h:SL C T n A F es xs)(hl:es.length<=100000):SE C T n A F (.List es pos) (.lst m xs):=λ ρ σ Q hw s φ μ R I=>by
 erw [arm_eval_List]
 refine aa (bx (aa ((h pos ρ σ _ hw).seq R I λ s' j' sJ vs ds σ' G V q=>?_)))
 refine Ea (q) λ q0 q=>?_
 refine Eea (q.h) λ ps CS q=>?_
 have hv:=zv (show Few vs.length from (Zo V).trans q0▸hl)
 cases m with
 | true=>exact ay (vX G.rel G.fr (qp V CS) hv q) (λ v sP hv=>PV.up G hv) λ _ _ e=>e
 | false=>exact ay (WF G.rel G.fr (qp V CS) hv q) (λ v sP hv=>PV.up G hv) λ _ _ e=>e
theorem zEw {op:lq}(ha:SE C T n A F a x)(hb:SE C T n A F b y):SE C T n A F (.BinOp a op b pos) (.bin op x y):=λ ρ σ Q hw s φ μ R I=>by
 refine wpAny_BinOp ((ha ρ σ _ hw).seq R I λ s' j' sJ v d σ' G V q=>?_)
 refine (hb ρ σ' _ q).seq G.rel G.fr λ tz th s7 w d' sK G' W q'=>?_
 exact ay (zDz G'.rel G'.fr (G'.ext.vd V) W q') (λ v sP hv=>PV.up (G.trans G') hv) λ _ _ e=>e
theorem zDW (ha:SE C T n A F a x):SE C T n A F (.UnaryOp .USub a pos) (.neg x):=λ ρ σ Q hw s φ μ R I=>by
 refine UnaryOp_ ((ha ρ σ _ hw).seq R I λ s' j' sJ v d σ' G V q=>?_)
 exact ay (zD4 (Q:=Q) G.rel G.fr V q) (λ v sP hv=>PV.up G hv) λ _ _ e=>e
theorem zEL (ha:SE C T n A F a x):SE C T n A F (.UnaryOp .Not a pos) (.not x):=λ ρ σ Q hw s φ μ R I=>by
 refine UnaryOp_ ((ha ρ σ _ hw).seq R I λ s' j' sJ v d σ' G V q=>?_)
 exact ay (zDs G.rel G.fr V q) (λ v sP hv=>PV.up G hv) λ _ _ e=>e
theorem zDh (ha:SB C T n A F a x):SB C T n A F (.UnaryOp .Not a pos) (.not x):=λ ρ σ K hw s φ μ R I=>by
 refine isTrue_not (ay (ha ρ σ (λ b σ'=>K (!b) σ') hw s φ μ R I) (λ b sP hh=>Eeeea hh λ j' sJ σ' G q=>pbI G q) λ _ _ e=>e)
theorem zE4 (hc:SB C T n A F c z)(ha:SE C T n A F a x)(hb:SE C T n A F b y):SE C T n A F (.IfExp c a b pos) (.ite z x y):=λ ρ σ Q hw s φ μ R I=>by
 refine IfExp_ ((hc ρ σ _ hw).seq R I λ s' j' sJ r σ' G q=>?_)
 cases r with
 | true=>exact ay (ha ρ σ' Q (q.t rfl) s' j' sJ G.rel G.fr) (λ v sP hv=>PV.up G hv) λ _ _ e=>e
 | false=>exact ay (hb ρ σ' Q (q.f rfl) s' j' sJ G.rel G.fr) (λ v sP hv=>PV.up G hv) λ _ _ e=>e
theorem zEJ (hc:SB C T n A F c z)(ha:SB C T n A F a x)(hb:SB C T n A F b y):SB C T n A F (.IfExp c a b pos) (.ite z x y):=λ ρ σ K hw s φ μ R I=>by
 refine isTrue_IfExp ((hc ρ σ _ hw).seq R I λ s' j' sJ r σ' G q=>?_)
 cases r with
 | true=>exact ay (ha ρ σ' K (q.t rfl) s' j' sJ G.rel G.fr) (λ v sP hv=>PB.up G hv) λ _ _ e=>e
 | false=>exact ay (hb ρ σ' K (q.f rfl) s' j' sJ G.rel G.fr) (λ v sP hv=>PB.up G hv) λ _ _ e=>e
inductive Each (P:aL->Ex->Prop):List aL->List Ex->Prop
 | nil:Each P [] []
 | cons {e:aL} {x:Ex} {es:List aL} {xs:List Ex}:P e x->Each P es xs->Each P (e::es) (x::xs)
theorem zEh {es:List aL}{xs:List Ex}(h:Each (SE C T n A F) es xs):SE C T n A F (.BoolOp .And es pos) (.and xs):=by
 induction h with
 | nil=>exact λ ρ σ Q hw=>hw.elim
 | cons h r ih=>cases r with
  | nil=>exact λ ρ σ Q hw s φ μ R I=>BoolOp_one (h ρ σ Q hw s φ μ R I)
  | cons h' t =>
   exact λ ρ σ Q hw s φ μ R I=>BoolOp_and ((h ρ σ _ hw).seq R I λ s' j' sJ v d σ' G V q=>by
    (refine Eeaa (j6 V q) λ r CW=>?_;obtain rfl:=CW;intro AZ;obtain rfl:=AZ;intro q)
    refine ec ?_
    cases r with
    | true=>exact ay (ih ρ σ' Q q s' j' sJ G.rel G.fr) (λ v sP hv=>PV.up G hv) λ _ _ e=>e
    | false=>exact PV.up G (zt G.rel G.fr V q))
theorem zFA {es:List aL}{xs:List Ex}(h:Each (SE C T n A F) es xs):SE C T n A F (.BoolOp .Or es pos) (.or xs):=by
 induction h with
 | nil=>exact λ ρ σ Q hw=>hw.elim
 | cons h r ih=>cases r with
  | nil=>exact λ ρ σ Q hw s φ μ R I=>BoolOp_one (h ρ σ Q hw s φ μ R I)
  | cons h' t =>
   exact λ ρ σ Q hw s φ μ R I=>BoolOp_or ((h ρ σ _ hw).seq R I λ s' j' sJ v d σ' G V q=>by
    (refine Eeaa (j6 V q) λ r Cp=>?_;obtain rfl:=Cp;intro AF;obtain rfl:=AF;intro q)
    refine ec ?_
    cases r with
    | true=>exact PV.up G (zt G.rel G.fr V q)
    | false=>exact ay (ih ρ σ' Q q s' j' sJ G.rel G.fr) (λ v sP hv=>PV.up G hv) λ _ _ e=>e)
theorem zEU {es:List aL}{xs:List Ex}(h:Each (SB C T n A F) es xs):SB C T n A F (.BoolOp .And es pos) (.and xs):=by
 induction h with
 | nil=>exact λ ρ σ Q hw=>hw.elim
 | cons h r ih=>cases r with
  | nil =>
   exact λ ρ σ K hw s φ μ R I=>isTrue_and ((h ρ σ K hw).seq R I λ s' j' sJ r σ' G q=>by
    cases r with
    | true=>exact isTrue_and_nil (pbI G q)
    | false=>exact pbI G q)
  | cons h' t =>
   exact λ ρ σ K hw s φ μ R I=>isTrue_and ((h ρ σ _ hw).seq R I λ s' j' sJ r σ' G q=>by
    cases r with
    | true=>exact ay (ih ρ σ' K q s' j' sJ G.rel G.fr) (λ v sP hv=>PB.up G hv) λ _ _ e=>e
    | false=>exact pbI G q)
theorem zF0 {es:List aL}{xs:List Ex}(h:Each (SB C T n A F) es xs):SB C T n A F (.BoolOp .Or es pos) (.or xs):=by
 induction h with
 | nil=>exact λ ρ σ Q hw=>hw.elim
 | cons h r ih=>cases r with
  | nil =>
   exact λ ρ σ K hw s φ μ R I=>isTrue_or ((h ρ σ K hw).seq R I λ s' j' sJ r σ' G q=>by
    cases r with
    | true=>exact pbI G q
    | false=>exact isTrue_or_nil (pbI G q))
  | cons h' t =>
   exact λ ρ σ K hw s φ μ R I=>isTrue_or ((h ρ σ _ hw).seq R I λ s' j' sJ r σ' G q=>by
    cases r with
    | true=>exact pbI G q
    | false=>exact ay (ih ρ σ' K q s' j' sJ G.rel G.fr) (λ v sP hv=>PB.up G hv) λ _ _ e=>e)
theorem zDT (hA:Room n A)(ha:SE C T n A F a x)(hb:SE C T n A F b y)(hm:i5 op b=false):SE C T n A F (.Compare a [op] [b] pos) (.cmp x op y):=λ ρ σ Q hw s φ μ R I=>by
 refine wpAny_Compare1 ((ha ρ σ _ hw).seq R I λ s' j' sJ v d σ' G V q=>?_) hm
 refine (hb ρ σ' _ q).seq G.rel G.fr λ tz th s7 w d' sK G' W q'=>?_
 exact ay (Zl hA G'.rel G'.fr (G'.ext.vd V) W (Qo hA G'.rel) q') (λ v sP hv=>PV.up (G.trans G') hv) λ _ _ e=>e
theorem zDI (hA:Room n A)(ha:SE C T n A F a x)(hb:SE C T n A F b y)(hm:i5 op b=false):SB C T n A F (.Compare a [op] [b] pos) (.cmp x op y):=λ ρ σ K hw s φ μ R I=>by
 refine wpAny_isTrue_Compare1 ((ha ρ σ _ hw).seq R I λ s' j' sJ v d σ' G V q=>?_) hm
 refine (hb ρ σ' _ q).seq G.rel G.fr λ tz th s7 w d' sK G' W q'=>?_
 refine ay (Zl (Q:=λ d σ'=>isB d λ b=>K b σ') hA G'.rel G'.fr (G'.ext.vd V) W (Qo hA G'.rel) q') (λ v sP hv=>?_) λ _ _ e=>e
 (refine Eeeeeaa (hv) λ Aa Ab EA sO x5 Bc Ai=>?_;try clear hv)
 exact ay (y7 x5.rel x5.fr Bc Ai) (λ b sP hb=>PB.up ((G.trans G').trans x5) hb) λ _ _ e=>e
theorem zBY (hA:Room n A)(ha:SE C T n A F a x)(hb:SE C T n A F b y)(hc:SE C T n A F c z)(hm:i5 Af c=false):SE C T n A F (.Compare a [op,Af] [b,c] pos) (.cmp2 x op y Af z):=λ ρ σ Q hw s φ μ R I=>by
 erw [arm_eval_Compare]
 have e0:markedEach [op,Af] [b,c] (evalEach [b,c] F.env)=[eval b F.env,pQ Af c (eval c F.env)]:=rfl
 (erw [e0];erw [mc hm])
 refine aa ((ha ρ σ _ hw).seq R I λ s' j' sJ v d σ' G V q=>?_)
 show wpAny _ _ (do
  let rv<-cR [v] (eval b F.env)
  fN pos
  let c'<-cR [v,rv] (compareOp op v rv)
  release [v,rv] [c']
  if<-cR [c',rv] (mA c') then compareChain pos rv [Af] [eval c F.env] else pure c') _ _ _
 refine aa (aQ ((hb ρ σ' _ q).seq G.rel G.fr λ tz th s7 w d' sK G' W q'=>aa (bx (aa (aQ ?_)))))
 refine ay (Zl (Q:=λ d sO=>isB d λ r=>Br r (wpE C T n z ρ sO λ z sO=>wpC Af sO d' z λ r'=>Q (.p (.bool r')) sO) (Q (.p (.bool false)) sO)) hA G'.rel G'.fr (G'.ext.vd V) W (λ i es k q a b P hi ha v hd hq p=>Qo hA G'.rel i es k q a b P hi ha v hd hq p) q') (λ Ge tI hv=>?_) λ _ _ e=>e
 (refine Eeeeeaa (hv) λ Aa Ab EA sO x5 Bc Ai=>?_;try clear hv)
 (refine Eeaa (j6 Bc Ai) λ r BQ=>?_;obtain rfl:=BQ;intro Ao;obtain rfl:=Ao;intro Ai)
 refine aa (eQ (aa (aQ (ec ?_))))
 have CI:=(G.trans G').trans x5
 cases r with
 | false=>exact am (PV.up CI (zt x5.rel x5.fr Bc (Ai.f rfl)))
 | true =>
  show wpAny _ _ (do
   let rv<-cR [w] (eval c F.env)
   fN pos
   operate [w,rv] (compareOp Af w rv)) _ _ _
  refine aa (aQ ((hc ρ sO _ (Ai.t rfl)).seq x5.rel x5.fr λ Ay Cq Ct u FW B9 At U DY=>aa (bx (pR ?_))))
  exact ay (Zl hA At.rel At.fr (At.ext.vd (x5.ext.vd W)) U (λ i es k q a b P hi ha v hd hq p=>Qo hA At.rel i es k q a b P hi ha v hd hq p) DY) (λ v sP hv=>PV.up (CI.trans At) hv) λ _ _ e=>e
theorem zCV (hA:Room n A)(ha:SE C T n A F a x)(hb:SE C T n A F b y)(hc:SE C T n A F c z)(hm:i5 Af c=false):SB C T n A F (.Compare a [op,Af] [b,c] pos) (.cmp2 x op y Af z):=λ ρ σ K hw s φ μ R I=>by
 have B3:wpE C T n x ρ σ λ x σ'=>wpE C T n y ρ σ' λ y sK=>wpC op sK x y λ r=>isB (.p (.bool r)) λ r =>
   Br r (wpE C T n z ρ sK λ z sO=>wpC Af sO y z λ r'=>K r' sO) (K false sK):=hw
 have e1:isTrue (.Compare a [op,Af] [b,c] pos) F.env (eval (.Compare a [op,Af] [b,c] pos) F.env)=(do testChain pos (<- eval a F.env) [op,Af] [eval b F.env,pQ Af c (eval c F.env)]):=rfl
 (erw [e1];erw [mc hm])
 refine aa ((ha ρ σ _ B3).seq R I λ s' j' sJ v d σ' G V q=>?_)
 show wpAny _ _ (do
  let rv<-cR [v] (eval b F.env)
  fN pos
  let c'<-cR [v,rv] (compareOp op v rv)
  release [v,rv] [c']
  if<-cR [c',rv] (mA c') then testChain pos rv [Af] [eval c F.env] else pure false) _ _ _
 refine aa (aQ ((hb ρ σ' _ q).seq G.rel G.fr λ tz th s7 w d' sK G' W q'=>aa (bx (aa (aQ ?_)))))
 refine ay (Zl (Q:=λ d sO=>isB d λ r=>Br r (wpE C T n z ρ sO λ z sO=>wpC Af sO d' z λ r'=>K r' sO) (K false sO)) hA G'.rel G'.fr (G'.ext.vd V) W (λ i es k q a b P hi ha v hd hq p=>Qo hA G'.rel i es k q a b P hi ha v hd hq p) q') (λ Ge tI hv=>?_) λ _ _ e=>e
 (refine Eeeeeaa (hv) λ Aa Ab EA sO x5 Bc Ai=>?_;try clear hv)
 (refine Eeaa (j6 Bc Ai) λ r Bh=>?_;obtain rfl:=Bh;intro CW;obtain rfl:=CW;intro Ai)
 refine aa (eQ (aa (aQ (ec ?_))))
 have CI:=(G.trans G').trans x5
 cases r with
 | false=>exact am (pbI CI (Ai.f rfl))
 | true =>
  show wpAny _ _ (do
   let rv<-cR [w] (eval c F.env)
   fN pos
   let c<-operate [w,rv] (compareOp Af w rv)
   cR [c] (mA c)) _ _ _
  refine aa (aQ ((hc ρ sO _ (Ai.t rfl)).seq x5.rel x5.fr λ Ay Cq Ct u FW B9 At U DY=>aa (bx (aa (pR ?_)))))
  refine ay (Zl (Q:=λ d σ'=>isB d λ b=>K b σ') hA At.rel At.fr (At.ext.vd (x5.ext.vd W)) U (λ i es k q a b P hi ha v hd hq p=>Qo hA At.rel i es k q a b P hi ha v hd hq p) DY) (λ Kc E3 Dm=>?_) λ _ _ e=>e
  (refine Eeeeeaa (Dm) λ HO H5 IU Ip DO FV FZ=>?_;try clear Dm)
  exact aQ (ay (y7 DO.rel DO.fr FV FZ) (λ b sP hb=>PB.up ((CI.trans At).trans DO) hb) λ _ _ e=>e)
end
noncomputable def zg (e:aL):Bool:=!Nat.beq e.ctorIdx 22
theorem ZW {e:aL}{es:List aL}(h:zg e=true):starEach (e::es) env=(false,eval e env)::starEach es env:=by
 cases e <;> first | rfl | exact absurd h a5
theorem all_cons {α:Type}{p:α->Bool}{a:α}{l:List α}(h:(a::l).all p=true):p a=true/\l.all p=true:=(bt ..).mp h
theorem qA :∀ {es:List aL},es.all zg=true->(backTo pos (starEach es env)).any (·.1)=false
 | [],_=>rfl
 | e::es,h=>by
  have h:=all_cons h
  erw [ZW h.1]
  show ((false || (backTo pos (starEach es env)).any (·.1)))=false
  erw [qA h.2];rfl
theorem Yu :∀ {es:List aL},es.all zg=true->(backTo pos (starEach es env)).all (!·.1)=true
 | [],_=>rfl
 | e::es,h=>by
  have h:=all_cons h
  erw [ZW h.1]
  show ((true&&(backTo pos (starEach es env)).all (!·.1)))=true
  erw [Yu h.2];rfl
theorem jT {es:List aL}(hp:es.all zg=true)(hlen:es.length<30):methodCallForm (es.length + ([]:List ln).length) (backTo pos (starEach es env)) (backToKw pos (keywordEach [] env))=true:=by
 show ((backTo pos (starEach es env)).all (!·.1)&&true&&decide (es.length<30))=true
 (erw [Yu hp];erw [decide_eq_true hlen]);rfl
noncomputable def Qy (e:aL):Bool:=by cases e with
 | Call f es kw p=>cases es with
  | nil=>exact false
  | cons _ _=>exact true
 | _=>exact true
theorem yo {o:aL}{name:aN}{w:kI af}(h:Qy o=true):rj o name env w=w:=by
 cases o with
 | Call f es kw p=>cases es with
  | nil=>exact absurd h a5
  | cons _ _=>cases f <;> rfl
 | _=>rfl
section
variable {C:Cx}{T:Tabs}{F:Fm}{A:aM}{n:Nat}{s s' sQ sM:ao}{φ j':ah->Prop}{μ sJ:List ah}{ρ sL:Rho}{σ σ':zA}{pos AO apos:dD}{e e' a b c o:aL}{x y z xa xb xc xo:Ex}{es:List aL}{xs:List Ex}
theorem QZ {E:af->ao->Prop}{f:af}{first:List af}{Q:af->ao->Prop}(hp:es.all zg=true)
  (h:wpAny (model C.prog C.w) A (spliced (backTo pos (starEach es F.env))) (λ vs sM=>(C.K.In sM.heap/\∀ a,f=.ref a->keepIn C.K (.ref a)=true)/\wpAny (model C.prog C.w) A (call f (first++vs)) Q E sM) E s) :
  wpAny (model C.prog C.w) A (lC pos f first (backTo pos (starEach es F.env)) []) Q E s:=by
 refine callWith_of (P:=λ h=>C.K.In h/\∀ a,f=.ref a->keepIn C.K (.ref a)=true) (by show ((backTo pos (starEach es F.env)).any (·.1) || false)=false;erw [qA hp];rfl) (λ hh q=>Ea q λ X k=>?_) (YE (qA hp) h)
 by_cases hf:∃ a,f=.ref a
 ·(refine Ee (hf) λ a t7=>?_;try clear hf;obtain rfl:=t7)
  exact keeps_K (k a rfl) hh X
 ·refine ⟨.machine,.inr (.inl rfl),?_⟩
  have:keeperOf f=pure .machine:=by
   cases f <;> first | rfl | exact absurd ⟨_,rfl⟩ hf
  erw [this];exact rO
def zEA (C:Cx)(T:Tabs)(n:Nat)(m:Bool)(g:D)(ds:List D)(σ:zA)(Q:D->zA->Prop):Prop:=match g with
 | .fn a=>XT m (SatCall C T n a ds σ Q)
 | .bi b=>Zj m b ds σ Q
 | _=>False
theorem vi {m:Bool}{g:D}{Q:D->zA->Prop}(Y:C.Good)(hA:Room n A)(hF:A.frames=some F.fs)(R:Rel C T s.heap φ μ σ)(I:FrI F s.heap φ μ ρ)(V:VD s.heap φ μ v g)(W:VDs s.heap φ μ vs ds)
  (h:zEA C T n m g ds σ Q) :
  (∀ a,v=.ref a->keepIn C.K (.ref a)=true)/\wpAny (model C.prog C.w) A (call v vs) (PV C T F s φ μ ρ Q) NoE s:=by
 cases g with
 | fn a =>
  cases V.ifn
  cases m with
  | true=>exact h.elim
  | false =>
   have sc:SatCall C T n a ds σ Q:=h
   refine ⟨λ a' e=>by (injection e with y1y0;subst y1y0);exact sc.keep,ay (sc.run A s φ μ vs hA (I.out hF) R W) (λ r s' hh=>Eee hh λ h' tk hh=>Eeeeeaaaa hh λ j' sJ d σ' e R' X V' q=>?_) λ _ _ e=>e⟩
   subst e
   exact pvI (Go.of_extF I R' (jb hF▸X)) V' q
 | bi b=>cases V.ibi;exact ⟨λ a e=>(by cases b <;> cases e),zFG Y hA R I W h⟩
 | _=>exact h.elim
theorem zBH {id:aN}{p:dD}{xf:Ex}(Y:C.Good)(hA:Room n A)(hF:A.frames=some F.fs)(hf:SE C T n A F (.Name id p) xf)(ha:SL C T n A F es xs)(hp:es.all zg=true):SE C T n A F (.Call (.Name id p) es [] pos) (.call m xf xs):=λ ρ σ Q h s φ μ R I=>by
 erw [nE]
 refine aa ((hf ρ σ _ h).seq R I λ s' j' sJ v g σ' G V q=>?_)
 show wpAny _ _ (lC pos v [] (backTo pos (starEach es F.env)) []) _ _ _
 refine QZ hp ((ha pos ρ σ' _ q).seq G.rel G.fr λ tz th s7 vs ds sK G' V' q'=>?_)
 refine Ea (vi Y hA hF G'.rel G'.fr (G'.ext.vd V) V' q'.2) λ h1 h2=>?_
 exact ⟨⟨Y.X.keeps G'.rel.keep,h1⟩,ay h2 (λ v sP hv=>PV.up (G.trans G') hv) λ _ _ e=>e⟩
theorem zFm (h:yQ mo k=true):∃ r,JX mo k=some r:=by
 cases mo with
 | lst _ =>
  show ∃ r,j5 k=some r
  unfold j5
  cases e:bc k 0 with
  | true=>exact ⟨_,rfl⟩
  | false =>
   have h:(bc k 0 || bc k 3)=true:=h
   rw [e] at h
   exact ⟨_,by refine rwE (show bc k 3=true from h) ?_;rfl⟩
 | idict _ =>
  show ∃ r,jW k=some r
  unfold jW
  cases e:bc k 1 with
  | true=>exact ⟨_,rfl⟩
  | false =>
   have h:(bc k 1 || bc k 2)=true:=h
   rw [e] at h
   exact ⟨_,by refine rwE (show bc k 2=true from h) ?_;rfl⟩
 | _=>exact bd h
theorem zC5 {mo':MO}{σ:zA}{Q:D->zA->Prop}(h:JX mo k=some r)(h':yD i mo' k ds σ Q):JX mo' k=some r:=by
 cases mo with
 | lst _ =>
  cases mo' with
  | lst _=>exact h
  | idict _=>rcases Yk h with ⟨rfl,rfl⟩ | ⟨rfl,rfl⟩ <;> exact h'.elim
  | _=>exact h'.elim
 | idict _=>cases mo' with
  | idict _=>exact h
  | lst _=>rcases Yj h with ⟨rfl,rfl⟩ | ⟨rfl,rfl⟩ <;> exact h'.elim
  | _=>exact h'.elim
 | _=>exact nn h
theorem zCG (TT:TOk C T)(h:JX mo k=some r):T.names[k]?=some r.2.1:=by
 cases mo with
 | lst _=>rcases Yk h with ⟨rfl,rfl⟩ | ⟨rfl,rfl⟩;exact TT.n0;exact TT.n3
 | idict _=>rcases Yj h with ⟨rfl,rfl⟩ | ⟨rfl,rfl⟩;exact TT.n1;exact TT.n2
 | _=>exact nn h
noncomputable def jN (F:Fm)(o:aL)(nm:aN)(es:List aL)(apos pos:dD)(v:af):kI af:=do
 let (f,first)<-cR [v] (calleeOf true o F.env v nm)
 let callPos<-eR true o F.env apos pos
 lC callPos f first (backTo pos (starEach es F.env)) []
theorem Ws {X:af->ao->Prop}(hp:es.all zg=true)(hb:Qy o=true)(hlen:es.length<30)(h:wpAny (model C.prog C.w) A (eval o F.env) (λ v s'=>wpAny (model C.prog C.w) A (jN F o nm es apos pos v) X E s') E s) :
  wpAny (model C.prog C.w) A (eval (.Call (.Attribute o nm apos) es [] pos) F.env) X E s:=by
 (erw [rk];erw [yo hb])
 have Cw:=jT (pos:=pos) (env:=F.env) hp hlen
 refine aa (ay h (λ v s' hv=>aa (bx ?_)) λ _ _ e=>e)
 unfold methodCall
 erw [Cw]
 exact hv
theorem vJ {X:af->ao->Prop}{E:af->ao->Prop}{a:ah}{W:ah->List D->zA->Prop}(Y:C.Good)(TT:TOk C T)(hk:T.names[k]?=some nm)(ha:SL C T n A F es xs)(hp:es.all zg=true)(hl:(apos.endLine==pos.line)=true)(R:Rel C T s.heap φ μ σ)(I:FrI F s.heap φ μ ρ)(Bp:μ[i]?=some a)(hi:σ[i]?=some mo)
  (h:∃ K j,mo=.inst K j/\Is (σ[j]?.bind jB) λ fs=>noO (look k fs) (Is (zY K k T.meth) λ f=>wpEs C T n xs ρ σ λ ds sK=>W f (.obj i::ds) sK))
  (kk:∀ f ds sK tz th s7 vs,W f ds sK->Go C T F s φ μ tz th s7 ρ sK->VDs tz.heap th s7 vs ds->keepIn C.K (.ref f)=true/\wpAny (model C.prog C.w) A (call (.ref f) vs) X E tz):wpAny (model C.prog C.w) A (jN F o nm es apos pos (.ref a)) X E s:=by
 (refine Eeea h λ K j q1 q=>?_;subst q1)
 have Au:eR true o F.env apos pos=pure pos:=by unfold eR;simp [hl]
 refine Eea (Is.h q) λ fs e1 q=>?_
 refine Eea (ob e1) λ mo' hj e2=>?_
 obtain rfl:=vB e2
 refine Ea (Xq q) λ x7 q=>?_
 refine Eea (Is.h q) λ f AL q=>?_
 refine aa (aQ (vR Y TT hk R Bp hi hj x7 AL ?_))
 refine aa (gx Au ?_)
 refine QZ hp ((ha pos ρ σ _ q).seq R I λ tz th s7 vs ds sK G' V' q'=>?_)
 refine Ea (kk f _ sK tz th s7 (.ref a::vs) q'.2 G' (.cons (G'.ext.vd (.obj Bp)) V')) λ k1 k2=>?_
 exact ⟨⟨Y.X.keeps G'.rel.keep,λ a' e=>by (injection e with y3y0;subst y3y0);exact k1⟩,k2⟩
theorem zCy (Y:C.Good)(TT:TOk C T)(hA:Room n A)(hF:A.frames=some F.fs)(hk:T.names[k]?=some nm)(ho:SE C T n A F o xo)(ha:SL C T n A F es xs)(hp:es.all zg=true)(hb:Qy o=true)(hl:(apos.endLine==pos.line)=true)(hlen:es.length<30) :
  SE C T n A F (.Call (.Attribute o nm apos) es [] pos) (.meth xo k xs):=λ ρ σ Q h s φ μ R I=>by
 refine Ws hp hb hlen ((ho ρ σ _ h).seq R I λ s' j' sJ v g σ' G V q=>?_)
 refine Xb V q λ i a Bp q=>?_
 refine Eea (q.h) λ mo hi q=>?_
 have bi:ifT (yQ mo k) (wpEs C T n xs ρ σ' λ ds sK=>Get sK i λ mo'=>yD i mo' k ds sK Q)->wpAny (model C.prog C.w) A (jN F o nm es apos pos (.ref a)) (PV C T F s φ μ ρ Q) NoE s':=λ q=>by
  refine Ea (uR q) λ hh q=>?_
  (refine Ee (zFm hh) λ AU=>?_;obtain ⟨ty,Lx,id⟩:=AU;intro Bb)
  obtain rfl:=hO (hk.symm.trans (zCG TT Bb))
  refine aa (aQ (V7 G.rel Bp hi Bb ?_))
  have Au:eR true o F.env apos pos=pure pos:=by unfold eR;simp [hl]
  refine aa (gx Au ?_)
  refine QZ hp ((ha pos ρ σ' _ q).seq G.rel G.fr λ tz th s7 vs ds sK G' V' q'=>?_)
  refine Eea (q'.2.h) λ mo' BY hw=>?_
  exact ⟨⟨Y.X.keeps G'.rel.keep,λ a' e=>by cases e⟩,ay (zF5 hA G'.rel G'.fr (G'.ext.pre _ _ Bp) BY V' (zC5 Bb hw) hw) (λ v sP hv=>PV.up (G.trans G') hv) λ _ _ e=>e⟩
 cases mo with
 | inst K j =>
  refine vJ (W:=λ f ds sK=>SatCall C T n f ds sK Q) Y TT hk ha hp hl G.rel G.fr Bp hi ⟨K,j,rfl,q⟩ λ f ds sK tz th s7 vs sc G' V'=>⟨sc.keep,?_⟩
  refine ay (sc.run A tz th s7 vs hA (G'.fr.out hF) G'.rel V') (λ r tI hh=>?_) λ _ _ e=>e
  obtain ⟨h',tk,Aa,Ab,d,sO,e,R',X,Bc,Ai⟩:=hh
  subst e
  exact pvI ((G.trans G').trans (Go.of_extF G'.fr R' (jb hF▸X))) Bc Ai
 | lst _=>exact bi q
 | idict _=>exact bi q
 | _=>exact q.elim
theorem zB6 (Y:C.Good)(TT:TOk C T)(hk:T.names[k]?=some nm)(ho:SE C T n A F o xo)(hb:Qy o=true):SE C T n A F (.Attribute o nm pos) (.attr xo k):=λ ρ σ Q h s φ μ R I=>by
 (erw [arm_eval_Attribute];erw [yo hb])
 refine aa ((ho ρ σ _ h).seq R I λ s' j' sJ v g σ' G V q=>aa (bx (aa (aQ ?_))))
 exact ay (zCr Y TT hk G.rel G.fr V q) (λ v sP hv=>aa (wpAny_letTemporaryGo (am (PV.up G hv)))) λ _ _ e=>e
noncomputable def uz (e:aL):Bool:=!Nat.beq e.ctorIdx 26
theorem Jp {e:aL}(h:uz e=true):WU e:=λ o i=>by
 cases e <;> first | rfl | exact absurd h a5
theorem zEb (hA:Room n A)(ho:SE C T n A F o xo)(ha:SE C T n A F a x)(hs:uz a=true):SE C T n A F (.Subscript o a pos) (.sub xo x):=λ ρ σ Q h s φ μ R I=>by
 refine nY ((ho ρ σ _ h).seq R I λ s' j' sJ v d σ' G V q=>?_)
 refine (ha ρ σ' _ q).seq G.rel G.fr λ tz th s7 w d' sK G' W q'=>?_
 exact ay (zEi hA (Jp hs) G'.rel G'.fr (G'.ext.vd V) W q') (λ v sP hv=>PV.up (G.trans G') hv) λ _ _ e=>e
theorem zCI {p:dD}(TT:TOk C T)(hk:T.names[k]?=some nm)(ho:SE C T n A F o xo):SE C T n A F (.Subscript o (.Constant (.str nm) i p) pos) (.subk xo k):=λ ρ σ Q h s φ μ R I=>by
 refine nY ((ho ρ σ _ h).seq R I λ s' j' sJ v d σ' G V q=>fc ?_)
 refine Xb V q λ j a Bp q=>?_
 refine Eea (q.h) λ fs e1 q=>?_
 refine Eea (ob e1) λ mo hi e2=>?_
 obtain rfl:=WZ e2
 refine Eea (q.h) λ d hl q=>?_
 have G':Go C T F s φ μ {s' with toks:=s'.toks + 1} j' sJ ρ σ':=G.tok _
 (refine Ea (G.rel.at_ _ _ _ Bp hi) λ _ Aw=>?_;refine Eea Aw λ kvs hm _=>?_)
 exact ay (gS hm.typeIs ky.lookup (zBN TT.nd G'.rel G'.fr Bp hi hk hl q) (Jp rfl _ _)) (λ v sP hv=>PV.up G' hv) λ _ _ e=>e
theorem vI {l u:Option aL}{p:dD}:∀ o i,subscripted (.Slice l u none p) false o i=operate [i,o] (getItem o i):=λ _ _=>rfl
theorem zBw {p:dD}(ho:SE C T n A F o xo)(ha:SE C T n A F a x):SE C T n A F (.Subscript o (.Slice none (some a) none p) pos) (.upto xo x):=λ ρ σ Q h s φ μ R I=>by
 refine nY ((ho ρ σ _ h).seq R I λ s' j' sJ v d σ' G V q=>?_)
 refine wpAny_Slice (am ((ha ρ σ' _ q).seq G.rel G.fr λ tz th s7 w d' sK G' W q'=>am ?_))
 exact ay (zB1 vI G'.rel G'.fr (G'.ext.vd V) W q') (λ v sP hv=>PV.up (G.trans G') hv) λ _ _ e=>e
theorem zCw (hp:bu pre=true/\pre.length<=1000)(ha:SE C T n A F a x):SE C T n A F (.JoinedStr [.Constant (.str pre) k p1,.FormattedValue a (-1) none p2] pos) (.fstr pre x):=λ ρ σ Q h =>
 zB2 hp (ha ρ σ _ h) λ d σ' q=>q
end
section
variable {C:Cx}{T:Tabs}{F:Fm}{A:aM}{n:Nat}{s s' sQ sM:ao}{φ j':ah->Prop}{μ sJ:List ah}{ρ sL:Rho}{σ σ':zA}{pos AO apos:dD}{e e' a b c o:aL}{x y z xa xb xc xo:Ex}{es:List aL}{xs:List Ex}
inductive KeyL:List (Option aL)->List aN->Prop
 | nil:KeyL [] []
 | cons {x:aN} {k:Nat} {p:dD} {ks:List (Option aL)} {xs:List aN}:KeyL ks xs->KeyL (some (.Constant (.str x) k p)::ks) (x::xs)
theorem KeyL.inil {ss:List aN}(h:KeyL [] ss):ss=[]:=by cases h;rfl
theorem zCE {es:List aL}{xs:List Ex}(hv:Each (SE C T n A F) es xs):∀ {ks:List (Option aL)} {ss:List aN} {ρ:Rho} {σ:zA} {Q:List D->zA->Prop},KeyL ks ss->ks.length=es.length->wpEs C T n xs ρ σ Q->DPs C T F A (evalPairs (pairTrees ks es F.env pos)) ss ρ σ Q:=by
 induction hv with
 | nil=>intro ks ss ρ σ Q hk hl h;cases ks with
  | nil=>cases hk.inil;exact zCx h
  | cons _ _=>cases hl
 | cons v r ih=>intro ks ss ρ σ Q hk hl h;cases hk with
  | nil=>cases hl
  | cons k=>exact VF (v _ _ _ h) λ d σ' q=>ih k (ru hl) q
theorem wy {ks:List (Option aL)}{ss:List aN}(h:KeyL ks ss):ks.all (·.isSome)=true:=by
 induction h with
 | nil=>rfl
 | cons k ih=>exact ih
theorem zEx {ks:List (Option aL)}{ss:List aN}{ns:List Nat}(Y:C.Good)(hk:KeyL ks ss)(hv:Each (SE C T n A F) es xs)(h0:ks≠[])(hl:ks.length=es.length)(hlen:ks.length<=15)(nd:ss.Nodup)(hn:ns.map (T.names[·]?)=ss.map some):SE C T n A F (.Dict ks es pos) (.dct 0 ns xs):=λ ρ σ Q h=>by
 refine zDr Y h0 (wy hk) hl hlen nd hn (zCE hv hk hl h) λ ds σ' q=>?_
 refine Eea (Is.h q) λ mo e q=>?_
 cases so (og e).2
 exact q
theorem xY (Y:C.Good)(hk:k=1∨k=2):SE C T n A F (.Dict [] [] pos) (.dct k [] []):=λ ρ σ Q h=>by
 rcases hk with rfl | rfl
 ·exact xj Y (.inl rfl) h
 ·exact xj Y (.inr rfl) h
variable {s6 target iter:aL}{sW:List aL}{sX:List bh}{scope:b8}{t:Pt}{it:Ex}{ifs:List Ex}{gs:List Gn}
theorem zBb {m:Bool}(hA:A.handled=none)(hk:k=(zV scope).length)(S:CompSpec C T n A F s6 target iter sW sX scope pos t it ifs gs λ ρ σ K=>wpE C T n xe ρ σ K) :
  SE C T n A F (.ListComp s6 (⟨target,iter,sW,0⟩::sX) scope pos) (.comp m k xe t it ifs gs):=λ ρ σ Q h=>by
 subst hk
 refine zBp (m:=m) S hA ?_
 cases m <;> exact h
def SI (C:Cx)(T:Tabs)(n:Nat)(A:aM)(F:Fm)(tC:aL)(e:aL)(x:Ex):Prop:=∀ ρ σ K,(wpE C T n x ρ σ λ d σ'=>zk σ' d λ xs i=>K xs i σ')->DI C T F A e tC ρ σ K
theorem SE.si (hA:A.handled=none)(h:SE C T n A F e x):SI C T n A F tC e x:=λ ρ σ K hw=>Vb hA (h ρ σ _ hw)
theorem Srt.lt {S:Srt}{xs:List ab}(R:Rel C T s.heap φ μ σ)(o:S.ok xs s.heap φ μ):(show Nat from S.a)<s.heap.objs.size:=by
 cases S with
 | fz l a=>refine Ee (R.frz a o.1) λ o' e=>?_;exact a7 e
 | ob i a=>refine Ee (R.lt i a o) λ o' e=>?_;exact a7 e
theorem zDd {zn:aN}{p:dD}{elts:List aL}{x1:Nat}{tp:dD}(Y:C.Good)(TT:TOk C T)(hA:A.handled=none)(hg:T.glob[g]?=some (zn,.bi .zip))(hk:F.env.kindOf zn=some .globalImplicit)(hx:(zn==("__debug__":aN))=false)
  (ha:SE C T n A F a xa) (hb:SE C T n A F b xb) (hp:[a,b].all zg=true):SI C T n A F (.Tuple elts x1 tp) (.Call (.Name zn p) [a,b] [] pos) (.zip xa xb):=λ ρ σ K hw s φ μ X R I hX=>by
 have B3:wpEs C T n [xa,xb] ρ σ λ ds sK=>on2 ds λ x y=>qY sK x λ xs=>qY sK y λ ys=>zk sK (.zp x y xs ys) λ zs i=>K zs i sK:=hw
 erw [nE]
 refine aa (ay (xP (Q:=λ d σ'=>d=.bi .zip/\σ'=σ) Y R I hk (TT.glob g zn _ hg) hx ⟨rfl,rfl⟩) (λ v s' hv=>?_) λ _ _ e=>e.elim)
 (refine Eeeeeaaa (hv) λ j' sJ d σ' G V AN=>?_;try clear hv;obtain rfl:=AN;intro Bu;obtain rfl:=Bu)
 have e0:v=.type "zip":=V.ibi
 subst e0
 have SS:SL C T n A F [a,b] [xa,xb]:=JR (ZW (all_cons hp).1) ha (JR (ZW (all_cons (all_cons hp).2).1) hb vQ)
 show wpAny _ _ (lC pos (.type "zip") [] (backTo pos (starEach [a,b] F.env)) []) _ _ _
 refine QZ hp ((SS pos ρ σ' _ B3).seq G.rel G.fr λ tz th s7 vs ds sK G' V' q'=>⟨⟨Y.X.keeps G'.rel.keep,λ a' e=>by cases e⟩,?_⟩)
 (refine Ea (q') λ hl q=>?_;try clear q')
 refine zAv V' q λ v1 v2 dx dy p1 p2 q=>?_
 refine Eea (q.h) λ EV e1 q=>?_
 refine Eea (q.h) λ FU e2 q=>?_
 refine Eea (Is.h q) λ os e3 q=>?_
 refine Eea (ob e3) λ x2 e4 e5=>?_
 obtain rfl:=wp e4
 have G2:=G.trans G'
 (refine Eeaaaa (W8 G'.rel p1 e1) λ S1 GL=>?_;obtain rfl:=GL;intro o1 t1 Kh IH)
 (refine Eeaaaa (W8 G'.rel p2 e2) λ S2 BN=>?_;obtain rfl:=BN;intro o2 t2 Lm KU)
 refine Eea (Srt.at_ G'.rel o1 t1) λ Gi h1 _=>?_
 refine Eea (Srt.at_ G'.rel o2 t2) λ H9 h2 _=>?_
 have go:∀ src,(∀ σ,zS src σ True->S1.stay EV σ/\S2.stay FU σ)->zS src sK True->K ((EV.zip FU).map λ p=>.tuple [p.1,p.2]) src sK ->
   wpAny (model C.prog C.w) A (call (.type "zip") [.ref S1.a,.ref S2.a]) (λ v s=>wpAny (model C.prog C.w) A (gD v) X NoE s) NoE tz:=λ src hs st q=>by
  refine zCh h1 h2 λ h' Z keep=>?_
  refine Ea (G'.rel.grow keep) λ R' X'=>?_
  have G3:Go C T F s φ μ {tz with heap:=h'} th s7 ρ sK:=G2.trans (Go.of_ext (tk:=tz.toks) G'.fr R' X')
  have W:=V9 (C:=C) (T:=T) (A:=A) (L:=tz.heap.objs.size) (elts:=elts) (x1:=x1) (pos:=tp) (xs:=EV) (ys:=FU) hA hs (Srt.lt G'.rel o1) (Srt.lt G'.rel o2)
  have fr:∀ c∈([tz.heap.objs.size,tz.heap.objs.size + 1,tz.heap.objs.size + 2,tz.heap.objs.size + 3,tz.heap.objs.size + 4]:List Nat),tz.heap.get? c=none:=λ c m=>dp (by
   simp only [aJ,eA,or_false] at m
   rcases m with rfl | rfl | rfl | rfl | rfl <;> lia)
  refine W.self 0 _ _ Z ?_
  refine hX _ _ th s7 sK _ src _ _ _ G3 W Z ⟨λ c m=>G'.rel.notin_none (fr c m),λ c m=>G'.rel.notfrz_none (fr c m),λ c m=>W.live 0 _ Z c m⟩ (λ c m=>G2.ext.back (fr c m)) ⟨Srt.ext o1 X',Srt.ext o2 X'⟩ st q
 refine Ee (KU λ i h=>nomatch h) λ l2 FD=>?_
 cases dx with
 | p x1 =>
  obtain rfl:=so e5
  refine Ee (IH λ i h=>nomatch h) λ l1 Fu=>?_
  exact go none (λ σ _=>⟨by erw [Fu];trivial,by erw [FD];trivial⟩) trivial q
 | obj i =>
  obtain rfl:=so e5
  have Fu:=Kh i rfl
  have IG:sK[i]?=some (.lst EV):=by rw [Fu] at t1;exact t1
  exact go (some (i,EV)) (λ σ st=>⟨by erw [Fu];exact st.1,by erw [FD];trivial⟩) ⟨IG,trivial⟩ q
 | _=>exact nn e5
end
def SX (C:Cx)(T:Tabs)(n:Nat)(A:aM)(F:Fm)(st:fw)(x:St):Prop:=∀ ρ σ Q,wpS C T n x ρ σ Q->DS C T F A (exec st F.env) ρ σ Q
def SS (C:Cx)(T:Tabs)(n:Nat)(A:aM)(F:Fm)(b:List fw)(xs:List St):Prop:=∀ ρ σ Q,wpSs C T n xs ρ σ Q->DS C T F A (execs b F.env) ρ σ Q
def SA (C:Cx)(T:Tabs)(n:Nat)(A:aM)(F:Fm)(e:aL)(t:Tg):Prop:=∀ d ρ σ Q,wpT C T n t d ρ σ Q->∀ (s:ao) (φ:ah->Prop) (μ:List ah) (v:af),Rel C T s.heap φ μ σ->FrI F s.heap φ μ ρ->VD s.heap φ μ v d ->
 wpAny (model C.prog C.w) A (ge e F.env v) (λ _ s'=>∃ j' sJ sL σ',Go C T F s φ μ s' j' sJ sL σ'/\Q sL σ') NoE s
section
variable {C:Cx}{T:Tabs}{F:Fm}{A:aM}{n:Nat}{s s' sQ sM:ao}{φ j':ah->Prop}{μ sJ:List ah}{ρ sL:Rho}{σ σ':zA}{pos AO apos:dD}{e e' a b c o:aL}{x y z xa xb xc xo:Ex}{es:List aL}{xs:List Ex}
theorem Go.rho (G:Go C T F s φ μ s' j' sJ sL σ'){sY:zA}(R:Rel C T h' j' sJ sY)(X:Ext s'.heap j' sJ h' j' sJ []):Go C T F s φ μ {s' with heap:=h',toks:=tk} j' sJ sL sY :=
 G.trans (Go.of_ext (tk:=tk) G.fr R X)
theorem zCP {x:aN}(hi:bix F.ks x=some i):SA C T n A F (.Name x pos) (.pt (.nm i)):=λ d ρ σ Q h s φ μ v R I V=>by
 refine Eea (Qs hi) λ k h1 h2=>?_
 erw [lc]
 exact aa (bx (qO R I V h1 h2 λ s' G=>ptI G h))
theorem zBG (Y:C.Good)(TT:TOk C T)(hk:T.names[k]?=some nm)(ho:SE C T n A F o xo):SA C T n A F (.Attribute o nm pos) (.attr xo k):=λ d ρ σ Q h s φ μ v R I V=>by
 erw [arm_assign_Attribute]
 refine aa (aQ ((ho ρ σ _ h).seq R I λ s' j' sJ w g σ' G W q=>aa (bx (aa (aQ ?_)))))
 refine wW W q λ i a Bp q=>?_
 refine Eeeeaa (UJ q) λ K j fs hi hj q=>?_
 refine Eaa (Xq q) λ hm q1 q2=>?_
 exact j2 Y TT hk G.rel Bp hi hj (G.ext.vd V) hm q1 λ h' tk R' X=>eQ (ptI (G.rho R' X) q2)
theorem zEP (hA:Room n A)(ho:SE C T n A F o xo)(ha:SE C T n A F a x):SA C T n A F (.Subscript o a pos) (.sub xo x):=λ d ρ σ Q h s φ μ v R I V=>by
 erw [ng]
 refine aa (aQ ((ho ρ σ _ h).seq R I λ s' j' sJ w g σ' G W q=>aa (aQ ?_)))
 refine (ha ρ σ' _ q).seq G.rel G.fr λ tz th s7 u g' sK G' U q'=>aa (bx (aa (aQ ?_)))
 have G2:=G.trans G'
 refine wW W q' λ i a Bp q'=>?_
 refine Eea (Is.h q') λ mo hi q'=>?_
 have DP:=G'.ext.pre _ _ Bp
 cases mo with
 | lst xs =>
  (refine Eeeaa (Zw U q') λ k t _ t7=>?_;obtain rfl:=t7;intro q')
  refine Eeaa (yg (G2.ext.vd V) q') λ x _ V' q'=>?_
  refine Eea (Is.h q'.2.2) λ j hj q3=>?_
  exact zBt G'.rel DP hi V' q'.1 q'.2.1 hj λ h' R' X=>eQ (ptI (G2.rho R' X) q3)
 | idict es =>
  obtain ⟨k,t,_,rfl,hf,q'⟩:=Zw U q'
  exact zBv G'.rel DP hi (G2.ext.vd V) hf λ h' R' X=>eQ (ptI (G2.rho R' X) q')
 | tdict es =>
  refine Eeaaa (jc U q') λ k _ U hd q'=>?_
  refine Eeaa (Is.h q') λ kq hq hf q'=>?_
  (refine Eeea (U.itup) λ b vs AU=>?_;obtain rfl:=AU;intro _)
  cases hn:zw kq es with
  | none=>rw [hn] at q';exact zBS hA G'.rel DP hi U hd hq (G2.ext.vd V) hf hn λ h' tk R' X=>eQ (ptI (G2.rho R' X) q')
  | some _=>rw [hn] at q';exact q'.elim
 | _=>exact q'.elim
theorem zBM {p:dD}(TT:TOk C T)(hk:T.names[k]?=some nm)(ho:SE C T n A F o xo):SA C T n A F (.Subscript o (.Constant (.str nm) i p) pos) (.subk xo k):=λ d ρ σ Q h s φ μ v R I V=>by
 erw [ng]
 refine aa (aQ ((ho ρ σ _ h).seq R I λ s' j' sJ w g σ' G W q=>aa (aQ (fc ?_))))
 refine aa (bx (aa (aQ ?_)))
 have G':Go C T F s φ μ {s' with toks:=s'.toks + 1} j' sJ ρ σ':=G.tok _
 refine wW W q λ j a Bp q=>?_
 refine Eeaa (Is.h q) λ fs e1 q1 q2=>?_
 refine Eea (ob e1) λ mo hi e2=>?_
 obtain rfl:=WZ e2
 exact zCB TT.nd G'.rel Bp hi hk (G.ext.vd V) q1 λ h' R' X=>eQ (ptI (G'.rho R' X) q2)
inductive EachT (P:aL->Tg->Prop):List aL->List Tg->Prop
 | nil:EachT P [] []
 | cons {e:aL} {x:Tg} {es:List aL} {xs:List Tg}:P e x->zg e=true->EachT P es xs->EachT P (e::es) (x::xs)
theorem qE {e:aL}{es:List aL}(h:zg e=true):assignEach (e::es) env=(false,ge e env)::assignEach es env:=by
 cases e <;> first | rfl | exact absurd h a5
theorem Vy {es:List aL}(h:EachT (SA C T n A F) es ts):(assignEach es F.env).length=ts.length/\(assignEach es F.env).findIdx? (·.1)=none:=by
 induction h with
 | nil=>exact ⟨rfl,rfl⟩
 | cons _ hs r ih =>
  (erw [qE hs];erw [nV];erw [ih.2])
  exact ⟨congrArg (· + 1) ih.1,rfl⟩
theorem sas {es:List aL}(h:EachT (SA C T n A F) es ts):∀ {ds:List D} {ρ:Rho} {σ:zA} {Q:Rho->zA->Prop},wpTs C T n ts ds ρ σ Q->∀ (s:ao) (φ:ah->Prop) (μ:List ah) (vs:List af),Rel C T s.heap φ μ σ->FrI F s.heap φ μ ρ->VDs s.heap φ μ vs ds ->
  wpAny (model C.prog C.w) A (eP ((assignEach es F.env).map (·.2)) vs) (λ _ s'=>∃ j' sJ sL σ',Go C T F s φ μ s' j' sJ sL σ'/\Q sL σ') NoE s:=by
 induction h with
 | nil =>
  intro ds ρ σ Q h s φ μ vs R I V
  cases ds with
  | nil=>cases V.inil;exact gG (ptI (Go.refl R I) h)
  | cons _ _=>exact h.elim
 | cons p hs r ih =>
  intro ds ρ σ Q h s φ μ vs R I V
  cases ds with
  | nil=>exact h.elim
  | cons d ds =>
   refine V.mcons λ v1 vr V1 W=>?_
   erw [qE hs]
   show wpAny _ _ (do cR _ (ge _ F.env _);eP _ _) _ _ _
   refine aa (aQ (ay (p d ρ σ _ h s φ μ _ R I V1) (λ _ s' hh=>Eeeeea hh λ j' sJ sL σ' G q=>?_) λ _ _ e=>e))
   exact ay (ih q s' j' sJ _ G.rel G.fr (G.ext.vds W)) (λ _ tz hh=>Eeeeea hh λ th s7 t6 sK G' q'=>ptI (G.trans G') q') λ _ _ e=>e
theorem zAA {h:aR}:∀ {vs:List af} {xs:List ab},VPs h φ vs xs->VDs h φ μ vs (xs.map .p)
 | _,[],V=>by cases V.inil;exact .nil
 | _,_::_,tj=>by refine tj.mcons λ v r V W=>?_;exact .cons (.p V) (zAA W)
theorem JK {h:aR}(V:VD h φ μ v d)(hw:wpT C T n (.tup ts) d ρ σ Q):∃ a vs ds,v=.ref a/\kc h a vs.toArray/\VDs h φ μ vs ds/\ts.length=vs.length/\wpTs C T n ts ds ρ σ Q:=by
 refine Eea (Is.h hw) λ ds e Eg=>?_
 refine Ea (uR Eg) λ x7 Dw=>?_
 have hl:=z8 x7
 clear hw Eg x7
 cases d with
 | tup sU=>obtain rfl:=so e;refine V.mtup λ a vs f t r=>?_;exact ⟨_,_,_,rfl,t.t,r,hl.trans (Zo r).symm,Dw⟩
 | p x =>
  refine Eea (ob e) λ xs e1 e2=>?_
  obtain rfl:=YY e1
  obtain rfl:=so e2
  refine V.ip.mtup λ a vs f t r=>?_
  exact ⟨_,_,_,rfl,t.t,zAA r,hl.trans ((aj _).trans r.length.symm),Dw⟩
 | _=>exact nn e
theorem zDq (hA:A.handled=none)(h:EachT (SA C T n A F) es ts):SA C T n A F (.Tuple es k pos) (.tup ts):=λ d ρ σ Q hw s φ μ v R I V=>by
 (refine Eeeeaaaa (JK V hw) λ a vs ds Hn=>?_;obtain rfl:=Hn;intro ht W hl hw)
 refine Ea (Vy h) λ h1 h2=>?_
 refine nW hA ht (by (erw [h1];erw [hl];erw [aK];rfl)) h2 λ h' hs=>?_
 have kk:∀ b o,s.heap.get? b=some o->h'.get? b=some o:=λ b o e=>hs b o (aF (a7 e)) e
 refine Ea (R.grow kk) λ R' X=>?_
 have G:=Go.of_ext (tk:=s.toks) I R' X
 exact ay (sas h hw {s with heap:=h'} φ μ vs R' G.fr (X.vds W)) (λ _ s' hh=>Eeeeea hh λ j' sJ sL σ' G' q=>ptI (G.trans G') q) λ _ _ e=>e
theorem zEH:SS C T n A F [] []:=λ ρ σ Q h s φ μ R I=>po (psI (Go.refl R I) .next h)
theorem PS.up {Q:Fl->Rho->zA->Prop}{fl:Flow}{tz:ao}(G:Go C T F s φ μ s' j' sJ sL σ')(h:PS C T F s' j' sJ Q fl tz):PS C T F s φ μ Q fl tz:=by
 (refine Eeeeeeaa (h) λ tx tD f An sY x8 V q=>?_;try clear h)
 exact psI (G.trans x8) V q
theorem zCn {Db:List fw}{x:St}{xs:List St}(h1:SX C T n A F st x)(h2:SS C T n A F Db xs):SS C T n A F (st::Db) (x::xs):=λ ρ σ Q h s φ μ R I=>by
 refine wpAny_execs_cons (ay (h1 ρ σ _ h s φ μ R I) (λ fl s' h=>Eeeeeeaa h λ j' sJ f sL σ' G hf q=>?_) λ _ _ e=>e)
 cases hf with
 | next=>exact ay (h2 sL σ' Q q s' j' sJ G.rel G.fr) (λ fl tz hq=>PS.up G hq) λ _ _ e=>e
 | cont=>exact psI G .cont q
 | ret V=>exact psI G (.ret V) q
theorem Wy (I:FrI F s.heap φ μ ρ):nh F.env=false:=by
 unfold nh;erw [I.kind];rfl
noncomputable def y6 (e:aL):Bool:=!(gm 8 e.ctorIdx&&gm e.ctorIdx 10)
theorem yt {e:aL}{t:Option aL}{l:Nat}(h:y6 e=true):l9 e t l env=pure false:=by
 cases e <;> first | rfl | exact absurd h a5
theorem zCQ (h:SE C T n A F e x)(hn:y6 e=true):SX C T n A F (.Expr e pos) (.expr x):=λ ρ σ Q hw s φ μ R I=>by
 refine wpAny_Expr_any ((h ρ σ _ hw).seq R I λ s' j' sJ v d σ' G V q=>?_) (Wy I) (yt hn)
 refine Eeaa (yg V q) λ x _ _ q=>?_
 exact psI G .next ((uR q).2)
theorem zF3 {sa sb:List fw}{ya yb:List St}(hc:SB C T n A F c z)(ha:SS C T n A F sa ya)(hb:SS C T n A F sb yb):SX C T n A F (.If c sa sb pos) (.ite z ya yb):=λ ρ σ Q hw s φ μ R I=>by
 refine wpAny_If ((hc ρ σ _ hw).seq R I λ s' j' sJ r σ' G q=>?_)
 cases r with
 | true=>exact ay (ha ρ σ' Q (q.t rfl) s' j' sJ G.rel G.fr) (λ v sP hv=>PS.up G hv) λ _ _ e=>e
 | false=>exact ay (hb ρ σ' Q (q.f rfl) s' j' sJ G.rel G.fr) (λ v sP hv=>PS.up G hv) λ _ _ e=>e
theorem zDy (h:SE C T n A F e x):SX C T n A F (.Return (some e) pos) (.ret x):=λ ρ σ Q hw s φ μ R I=>by
 refine oE ((h ρ σ _ hw).seq R I λ s' j' sJ v d σ' G V q=>?_)
 exact psI G (.ret V) q
theorem zBn:SX C T n A F (.Return none pos) .retN:=λ ρ σ Q hw s φ μ R I=>wpAny_Return_none (psI (Go.refl R I) (.ret (.p .none)) hw)
theorem zCe:SX C T n A F (.Continue pos) .cont:=λ ρ σ Q hw s φ μ R I=>by
 show wpAny _ _ (do fN pos;pure Flow.cont) _ _ _
 exact aa (bx (am (psI (Go.refl R I) .cont hw)))
theorem vw :SX C T n A F st .raise:=λ ρ σ Q hw=>(show False from hw).elim
theorem zDm {q:ab×Nat}(h:zEz ds=some q):ds=[.p q.1,.obj q.2]:=by
 cases ds with
 | nil=>exact nn h
 | cons d r=>cases r with
  | nil=>exact nn h
  | cons e r=>cases r with
   | cons _ _=>exact nn h
   | nil=>exact Eea (ob h) λ x h1 h2=>Eea (ob h2) λ i h3 h4=>so h4▸wp h1▸zBg h3▸rfl
theorem WY {r:ab×zA}(R:Rel C T s.heap φ μ σ)(V:VD s.heap φ μ v d)(e:Yc σ d=some r):∃ j',Rel C T s.heap j' μ r.2/\Ext s.heap φ μ s.heap j' μ []/\VP s.heap j' v r.1:=by
 cases d with
 | p x=>exact so e▸⟨φ,R,.refl,V.ip⟩
 | obj i=>exact Eea (ob e) λ xs e1 e2=>Eea V.iobj λ a ev ha=>Eaa (R.freeze ha (QI e1)) λ R' X V'=>so e2▸⟨_,R',X,ev▸V'⟩
 | tup ds =>
  refine Eea (ob e) λ q e1 e2=>?_
  refine Eea (ob e2) λ xs e3 e4=>?_
  rw [zDm e1] at V
  refine Eeeaaa V.itup λ a vs ev f t r=>?_
  refine Eeeaa r.icons λ v1 Gi h1 p1 r=>?_
  refine Eeeaa r.icons λ v2 H9 h2 p2 r=>?_
  refine Eea p2.iobj λ b hb ha=>?_
  refine Eaa (R.freeze ha (QI e3)) λ R' X V'=>?_
  (refine rwS (so e4) ?_;erw [ev])
  refine ⟨_,R',X,.tup (.inl f) t ?_⟩
  (erw [h1];erw [h2];erw [r.inil];erw [hb])
  exact .cons (X.vp p1.ip) (.cons V' .nil)
 | _=>exact nn e
theorem zCa (h:SE C T n A F e x):SX C T n A F (.Return (some e) pos) (.retF x):=λ ρ σ Q hw s φ μ R I=>by
 refine oE ((h ρ σ _ hw).seq R I λ s' j' sJ v d σ' G V q=>?_)
 refine Eea (Is.h q) λ r hr q=>?_
 refine Eeaa (WY G.rel V hr) λ tx R' X V'=>?_
 exact psI (G.trans (Go.of_ext (tk:=s'.toks) G.fr R' X)) (.ret (.p V')) q
theorem zD7 {t:Tg}{e:aL}(h:SE C T n A F e x)(ht:SA C T n A F tC t)(hn:zg tC=true)(hs:dT [tC] e pos.line F.env=pure false)(hw:cO [tC] e F.env=pure none):SX C T n A F (.Assign [tC] e pos) (.asg t x):=λ ρ σ Q B3 s φ μ R I=>by
 refine wpAny_Assign_stores ((h ρ σ _ B3).seq R I λ s' j' sJ v d σ' G V q=>?_) hs hw
 have e0:(assignEach [tC] F.env).map (·.2)=[ge tC F.env]:=by erw [qE hn];rfl
 erw [e0]
 show wpAny _ _ (ge tC F.env v) _ _ _
 exact ay (ht d ρ σ' _ q s' j' sJ v G.rel G.fr V) (λ _ tz hh=>Eeeeea hh λ tx tD An sY x8 Bq=>psI (G.trans x8) .next Bq) λ _ _ e=>e
theorem zAB (h1:bix F.ks x1=some i1)(h2:bix F.ks x2=some i2)(R:Rel C T s.heap φ μ σ)(I:FrI F s.heap φ μ ρ)(V1:VD s.heap φ μ v1 d1)(V2:VD s.heap φ μ v2 d2)(hq:Q ((ρ.set i2 (some d2)).set i1 (some d1)) σ) :
  wpAny (model C.prog C.w) A (eP [fy F.env x2,fy F.env x1] [v2,v1]) (λ _ s'=>∃ j' sJ sL σ',Go C T F s φ μ s' j' sJ sL σ'/\Q sL σ') NoE s:=by
 refine Eea (Qs h1) λ k1 a1 b1=>?_
 refine Eea (Qs h2) λ k2 a2 b2=>?_
 show wpAny _ _ (do cR [v1] (fy F.env x2 v2);cR [] (fy F.env x1 v1);eP _ _) _ _ _
 refine aa (aQ (qO R I V2 a2 b2 λ s' G=>aa (aQ (qO G.rel G.fr (G.ext.vd V1) a1 b1 λ tz G'=>?_))))
 exact gG (ptI (G.trans G') hq)
theorem zFC {v3:af}{d3:D}(h1:bix F.ks x1=some i1)(h2:bix F.ks x2=some i2)(h3:bix F.ks x3=some i3)(R:Rel C T s.heap φ μ σ)(I:FrI F s.heap φ μ ρ)(V1:VD s.heap φ μ v1 d1)(V2:VD s.heap φ μ v2 d2)(V3:VD s.heap φ μ v3 d3)(hq:Q (((ρ.set i3 (some d3)).set i2 (some d2)).set i1 (some d1)) σ) :
  wpAny (model C.prog C.w) A (eP [fy F.env x3,fy F.env x2,fy F.env x1] [v3,v2,v1]) (λ _ s'=>∃ j' sJ sL σ',Go C T F s φ μ s' j' sJ sL σ'/\Q sL σ') NoE s:=by
 refine Eea (Qs h3) λ k3 a3 b3=>?_
 show wpAny _ _ (do cR [v2,v1] (fy F.env x3 v3);eP [fy F.env x2,fy F.env x1] [v2,v1]) _ _ _
 refine aa (aQ (qO R I V3 a3 b3 λ s' G=>?_))
 exact ay (zAB h1 h2 G.rel G.fr (G.ext.vd V1) (G.ext.vd V2) hq) (λ _ s' hh=>Eeeeea hh λ j' sJ sL σ' G' q=>ptI (G.trans G') q) λ _ _ e=>e
theorem Xn {h:aR}(W:VDs h φ μ vs ds)(hl:k + 1=vs.length):∃ v Gb d sU,vs=v::Gb/\ds=d::sU/\VD h φ μ v d/\VDs h φ μ Gb sU/\k=Gb.length:=by
 cases W with
 | nil=>exact absurd hl (gK k)
 | cons V W=>exact ⟨_,_,_,_,rfl,rfl,V,W,ru hl⟩
theorem zFx {h:aR}(W:VDs h φ μ vs ds)(hl:0=vs.length):vs=[]/\ds=[]:=by
 cases W with
 | nil=>exact ⟨rfl,rfl⟩
 | cons _ _=>exact absurd hl.symm (gK _)
theorem zDa {h:aR}(W:VDs h φ μ vs ds)(hl:2=vs.length):∃ v1 v2 d1 d2,vs=[v1,v2]/\ds=[d1,d2]/\VD h φ μ v1 d1/\VD h φ μ v2 d2:=by
 refine Eeeeeaaaa (Xn W hl) λ v1 Gi d1 Bl a1 b1 V1 W1 l1=>?_
 refine Eeeeeaaaa (Xn W1 l1) λ v2 H9 d2 BS a2 b2 V2 W2 l2=>?_
 refine Ea (zFx W2 l2) λ a3 b3=>?_
 exact ⟨v1,v2,d1,d2,a1.trans (congrArg _ (a2.trans (congrArg _ a3))),b1.trans (congrArg _ (b2.trans (congrArg _ b3))),V1,V2⟩
theorem zGn {h:aR}(W:VDs h φ μ vs ds)(hl:3=vs.length):∃ v1 v2 v3 d1 d2 d3,vs=[v1,v2,v3]/\ds=[d1,d2,d3]/\VD h φ μ v1 d1/\VD h φ μ v2 d2/\VD h φ μ v3 d3:=by
 refine Eeeeeaaaa (Xn W hl) λ v1 Gi d1 Bl a1 b1 V1 W1 l1=>?_
 refine Eeeeeaaa (zDa W1 l1) λ v2 v3 d2 d3 a2 b2 V2 V3=>?_
 exact ⟨v1,v2,v3,d1,d2,d3,a1.trans (congrArg _ a2),b1.trans (congrArg _ b2),V1,V2,V3⟩
theorem zCO {e:aL}(hA:A.handled=none)(h:SE C T n A F e x)(h1:bix F.ks x1=some i1)(h2:bix F.ks x2=some i2)(tq:i1≠i2)(hs:dT [.Tuple [.Name x1 p1,.Name x2 p2] k tp] e pos.line F.env=pure false)
  (hw:cO [.Tuple [.Name x1 p1,.Name x2 p2] k tp] e F.env=pure (some [x1,x2])):SX C T n A F (.Assign [.Tuple [.Name x1 p1,.Name x2 p2] k tp] e pos) (.asg (.tup [.pt (.nm i1),.pt (.nm i2)]) x):=λ ρ σ Q B3 s φ μ R I=>by
 refine ni ((h ρ σ _ B3).seq R I λ s' j' sJ v d σ' G V q=>?_) hs hw
 refine Eeeeaaaa (JK V q) λ a vs ds ev ht W hl hw=>?_
 refine Eeeeeaaa (zDa W hl) λ v1 v2 d1 d2 a1 b1 V1 V2=>?_
 rw [a1] at ht
 rw [b1] at hw
 (erw [ev];refine rwE (show [x1,x2].length=[v1,v2].toArray.size from rfl) ?_)
 refine oF hA ht λ h' hs=>?_
 have kk:∀ b o,s'.heap.get? b=some o->h'.get? b=some o:=λ b o e=>hs b o (aF (a7 e)) e
 refine Ea (G.rel.grow kk) λ R' X=>?_
 have G1:=Go.of_ext (tk:=s'.toks) G.fr R' X
 have Dw:Q .next ((ρ.set i2 (some d2)).set i1 (some d1)) σ':=i6 _ _ tq▸(show Q .next ((ρ.set i1 (some d1)).set i2 (some d2)) σ' from hw)
 exact ay (zAB (Q:=λ ρ σ=>Q .next ρ σ) h1 h2 R' G1.fr (X.vd V1) (X.vd V2) Dw) (λ _ tz hh=>Eeeeea hh λ tx tD An sY x8 Bq=>psI ((G.trans G1).trans x8) .next Bq) λ _ _ e=>e
theorem zBR {e:aL}{p3:dD}(hA:A.handled=none)(h:SE C T n A F e x)(h1:bix F.ks x1=some i1)(h2:bix F.ks x2=some i2)(h3:bix F.ks x3=some i3)(tq:i1≠i2/\i1≠i3/\i2≠i3)(hs:dT [.Tuple [.Name x1 p1,.Name x2 p2,.Name x3 p3] k tp] e pos.line F.env=pure false)
  (hw:cO [.Tuple [.Name x1 p1,.Name x2 p2,.Name x3 p3] k tp] e F.env=pure (some [x1,x2,x3])):SX C T n A F (.Assign [.Tuple [.Name x1 p1,.Name x2 p2,.Name x3 p3] k tp] e pos) (.asg (.tup [.pt (.nm i1),.pt (.nm i2),.pt (.nm i3)]) x):=λ ρ σ Q B3 s φ μ R I=>by
 refine ni ((h ρ σ _ B3).seq R I λ s' j' sJ v d σ' G V q=>?_) hs hw
 refine Eeeeaaaa (JK V q) λ a vs ds ev ht W hl hw=>?_
 obtain ⟨v1,v2,v3,d1,d2,d3,a1,b1,V1,V2,V3⟩:=zGn W hl
 rw [a1] at ht
 rw [b1] at hw
 (erw [ev];refine rwE (show [x1,x2,x3].length=[v1,v2,v3].toArray.size from rfl) ?_)
 refine oF hA ht λ h' hs=>?_
 have kk:∀ b o,s'.heap.get? b=some o->h'.get? b=some o:=λ b o e=>hs b o (aF (a7 e)) e
 refine Ea (G.rel.grow kk) λ R' X=>?_
 have G1:=Go.of_ext (tk:=s'.toks) G.fr R' X
 have Dw:Q .next (((ρ.set i1 (some d1)).set i2 (some d2)).set i3 (some d3)) σ':=hw
 rw [i6 _ _ tq.1,i6 _ _ tq.2.1,i6 _ _ tq.2.2] at Dw
 exact ay (zFC (Q:=λ ρ σ=>Q .next ρ σ) h1 h2 h3 R' G1.fr (X.vd V1) (X.vd V2) (X.vd V3) Dw) (λ _ tz hh=>Eeeeea hh λ tx tD An sY x8 Bq=>psI ((G.trans G1).trans x8) .next Bq) λ _ _ e=>e
theorem zEy {t:Pt}{ys:List St}(hA:A.handled=none)(ht:trP F.ks tC=some t)(hi:SI C T n A F tC iter it)(hb:SS C T n A F body ys)(hf:∀ x,foldedSetIterable iter F.env x=pure x):SX C T n A F (.For tC iter body [] pos) (.for t it ys):=λ ρ σ Q hw s φ μ R I=>by
 refine wpAny_For ?_ hf
 refine hi ρ σ _ hw s φ μ _ R I λ FA s' j' sJ σ' own src xs It Sr G W tB N Dq AH tu hq=>?_
 exact VU (n:=n) W hA ht hb I Dq G tB N AH tu hq.2
end
section
variable {C:Cx}{T:Tabs}{F:Fm}{A:aM}{n:Nat}{s s' sQ sM:ao}{φ j':ah->Prop}{μ sJ:List ah}{ρ sL:Rho}{σ σ':zA}{pos AO apos:dD}{e e' a b c o:aL}{x y z xa xb xc xo:Ex}{es:List aL}{xs:List Ex}
theorem xA:∀ (sW:List aL) (env:kH),(forIn sW false λ c r=>if r=true then do let ok<-isTrue c env (eval c env);pure (dR ok) else pure (dR r):kI Bool)=pure false:=by
 intro sW
 induction sW with
 | nil =>
  intro _
  exact rfl
 | cons c cs ih =>
  intro env
  erw [eX]
  simp only [ch,if_false,pure_bind]
  exact ih env
theorem vZ (h:Each (SB C T n A F) sW ifs):∀ ρ σ K,wpIfs C T n ifs ρ σ K->DB C T F A (Z6 sW F.env) ρ σ K:=by
 induction h with
 | nil=>exact λ ρ σ K h s φ μ R I=>am (pbI (Go.refl R I) h)
 | cons hc r ih =>
  intro ρ σ K h s φ μ R I
  unfold Z6
  erw [eX]
  simp only [if_true,bind_assoc,pure_bind]
  refine aa ((hc ρ σ _ h).seq R I λ s' j' sJ b σ' G q=>?_)
  cases b with
  | true=>exact ay (ih ρ σ' K q s' j' sJ G.rel G.fr) (λ b sP hb=>PB.up G hb) λ _ _ e=>e
  | false =>
   erw [xA]
   exact am (pbI G q)
noncomputable def Qp (e:aL):Bool:=!Nat.beq e.ctorIdx 7
theorem JW {e:aL}(h:Qp e=true):∀ x,foldedSetIterable e env x=pure x:=λ x=>by
 cases e <;> first | rfl | exact absurd h a5
inductive EachG (C:Cx)(T:Tabs)(n:Nat)(A:aM)(F:Fm):List bh->List Gn->Prop
 | nil:EachG C T n A F [] []
 | cons {target iter:aL} {sW:List aL} {rest:List bh} {t:Pt} {it:Ex} {ifs:List Ex} {gs:List Gn}:trP F.ks target=some t->SI C T n A F target iter it->Each (SB C T n A F) sW ifs->Qp iter=true->EachG C T n A F rest gs->EachG C T n A F (⟨target,iter,sW,0⟩::rest) (.mk t it ifs::gs)
theorem EachG.async {rest:List bh}(h:EachG C T n A F rest gs)(g':bh)(e:rest[0]?=some g'):g'.is_async=0:=by
 cases h with
 | nil=>exact nn e
 | cons _ _ _ _ _=>obtain rfl:=so e;rfl
theorem zB8 {Fo:Fm}{tQ:Rho}{wr:List ah}{tv:Rho->zA->(D->zA->Prop)->Prop}{s6:aL}{gensA:List bh}{scope:b8}(tG:F.own=[])(AE:B≠F.env.locals)(DG:∀ y c,F.env.cells.lookup y=some c->c≠B)
  (hA:A.handled=none) (Fa:A.mark none=A) (hW:∀ ρ σ K,tv ρ σ K->DX C T F A (eval s6 F.env) ρ σ K) :
  ∀ {rest:List bh} {gs:List Gn},EachG C T n A F rest gs->∀ d,gensA.drop (d + 1)=rest->(Zy gs).Nodup->Y1 C T n A F Fo tQ wr B tv gs (ZJ (.ListComp s6 gensA scope pos) s6 (gensA[d + 1]?) d B F.env):=by
 intro rest gs h
 induction h with
 | nil =>
  intro d hd _
  have:gensA[d + 1]?=none:=by
   have:=congrArg (·[0]?) hd
   simpa using this
  erw [this]
  exact wv tG AE DG hW
 | @cons target iter sW rest t it ifs gs ht hi hf hs r ih =>
  intro d hd nd
  have e0:gensA[d + 1]?=some ⟨target,iter,sW,0⟩:=by
   have:=congrArg (·[0]?) hd
   simpa using this
  have e1:gensA.drop (d + 1 + 1)=rest:=by
   have:=congrArg (·.drop 1) hd
   simpa using this
  simp only [Zy] at nd
  have e2:∀ g',gensA[d + 2]?=some g'->g'.is_async=0:=λ g' h=>by
   refine r.async g' ?_
   refine rwS e1 ?_;simpa using h
  erw [e0]
  exact wJ tG AE DG e0 e2 (JW hs) hA Fa ht (λ j h1 h2=>(ee.mp nd).2.2 j h1 j h2 rfl) hi (vZ hf) (ih (d + 1) e1 (ee.mp nd).2.1)
theorem Wn {s6:aL}{sW:List aL}{sX:List bh}{t:Pt}{ifs:List Ex}{gs:List Gn}{xe:Ex}(hA:A.handled=none)(Fa:A.mark none=A)(K:CompOk F.ks scope)(ht:trP (zl F.ks scope) target=some t)(hs:Qp iter=true)(hi:SI C T n A F target iter it)
  (hifs:∀ L,Each (SB C T n A (zX F scope L)) sW ifs) (Ii:∀ L,EachG C T n A (zX F scope L) sX gs) (he:∀ L,SE C T n A (zX F scope L) s6 xe)
  (hix:∀ j,j∈Zx t∨j∈Zy gs->F.ks.length<=j/\j<F.ks.length + (zV scope).length) (nd:(Zx t++Zy gs).Nodup) :
  CompSpec C T n A F s6 target iter sW sX scope pos t it ifs gs λ ρ σ K=>wpE C T n xe ρ σ K :=
 ⟨K,(Ii 0).async,ht,hix,λ j h1 h2=>(ee.mp nd).2.2 j h1 j h2 rfl,JW hs,hi,λ L=>vZ (hifs L),λ L B ρ hB hc=>zB8 (gensA:=⟨target,iter,sW,0⟩::sX) rfl hB hc hA Fa (λ ρ σ K h=>he L ρ σ K h) (Ii L) 0 (by simp) (ee.mp nd).2.1⟩
theorem zC9 {s6:aL}{sX:List bh}{t:Pt}{m:Bool}{x:aN}{iy k:Nat}{px Cc:dD}(hA:A.handled=none)(S:CompSpec C T n A F s6 target iter sW sX scope pos t it ifs gs λ ρ σ K=>wpE C T n xe ρ σ K)
  (GF:l9 (.ListComp s6 (⟨target,iter,sW,0⟩::sX) scope pos) (some (.Name x px)) Cc.line F.env=pure true) (hi:F.ks[iy]?=some (x,.local)) (hk:k=(zV scope).length) :
  SX C T n A F (.Assign [.Name x px] (.ListComp s6 (⟨target,iter,sW,0⟩::sX) scope pos) Cc) (.asg (.pt (.nm iy)) (.comp m k xe t it ifs gs)):=λ ρ σ Q h=>by
 subst hk
 refine vS (m:=m) S hA GF hi ?_
 cases m <;> exact h
end
end Mine.Internal
namespace Mine.Internal
open PySem PySem.Calls PyProof PyProof.Rows PySem.W PySem.SeqAt
set_option tactic.hygienic false
variable {A:aM}{F:Fm}{C:Cx}{n:Nat}
structure TX where
 mu:List (Nat×Nat)
 td:List (Nat×Nat)
noncomputable def jg (l:List (Nat×Nat))(p:dD):Bool:=l.any λ q=>q.1==p.line&&q.2==p.col
noncomputable def gix:List (aN×D)->aN->Option Nat
 | [],_=>none
 | (y,_)::r,x=>if (y==x)=true then some 0 else (gix r x).map (· + 1)
noncomputable def nix:List aN->aN->Option Nat
 | [],_=>none
 | y::r,x=>if (y==x)=true then some 0 else (nix r x).map (· + 1)
theorem ur:∀ {l:List (aN×D)} {x:aN} {i:Nat},gix l x=some i->∃ d,l[i]?=some (x,d)
 | [],_,_,e=>nn e
 | (y,d)::r,x,i,e=>by
  have e:(if (y==x)=true then some 0 else (gix r x).map (· + 1))=some i:=e
  by_cases h:(y==x)=true
  ·rw [if_pos h] at e;obtain rfl:=so e;cases eq_of_beq h;exact ⟨d,rfl⟩
  ·rw [if_neg h] at e
   (refine Eea (bL.mp e) λ j hj t7=>?_;obtain rfl:=t7)
   exact ur (l:=r) hj
theorem QM:∀ {l:List aN} {x:aN} {i:Nat},nix l x=some i->l[i]?=some x
 | [],_,_,e=>nn e
 | y::r,x,i,e=>by
  have e:(if (y==x)=true then some 0 else (nix r x).map (· + 1))=some i:=e
  by_cases h:(y==x)=true
  ·rw [if_pos h] at e;obtain rfl:=so e;cases eq_of_beq h;rfl
  ·rw [if_neg h] at e
   (refine Eea (bL.mp e) λ j hj Ao=>?_;obtain rfl:=Ao)
   exact QM (l:=r) hj
noncomputable def JI (x:aN):Bool:=x==("__debug__":aN) || x==("__classdict__":aN)
noncomputable def gdE {α:Type}(b:Bool)(k:b=true->Option α):Option α:=match b,k with
 | true,k=>k rfl
 | false,_=>none
noncomputable def bnE {α β:Type}(o:Option α)(k:∀ a,o=some a->Option β):Option β:=match o,k with
 | some a,k=>k a rfl
 | none,_=>none
noncomputable def opE {α β:Type}(o:Option α)(k:∀ a,o=some a->Option β)(d:o=none->Option β):Option β:=match o,k,d with
 | some a,k,_=>k a rfl
 | none,_,d=>d rfl
noncomputable def orE {α:Type}(o d:Option α):Option α:=@eh _ (λ _=>Option α) o d (λ a=>some a)
section
variable {β:aL->Type}
noncomputable def wl (e:aL)(k:∀ es c p,Option (β (.Tuple es c p))):Option (β e):=by
 apply @eJ (λ e=>Option (β e)) e <;> intros <;> first | exact k _ _ _ | exact none
noncomputable def WS (e:aL)(k:∀ f es kw p,Option (β (.Call f es kw p))):Option (β e):=by
 apply @eJ (λ e=>Option (β e)) e <;> intros <;> first | exact k _ _ _ _ | exact none
noncomputable def jP (e:aL)(k:∀ x p,Option (β (.Name x p))):Option (β e):=by
 apply @eJ (λ e=>Option (β e)) e <;> intros <;> first | exact k _ _ | exact none
noncomputable def WQ (e:aL)(k:∀ o nm p,Option (β (.Attribute o nm p))):Option (β e):=by
 apply @eJ (λ e=>Option (β e)) e <;> intros <;> first | exact k _ _ _ | exact none
noncomputable def zFK (e:aL)(k:∀ l u st p,Option (β (.Slice l u st p))):Option (β e):=by
 apply @eJ (λ e=>Option (β e)) e <;> intros <;> first | exact k _ _ _ _ | exact none
noncomputable def zFo (e:aL)(k:∀ c i p,Option (β (.Constant c i p))):Option (β e):=by
 apply @eJ (λ e=>Option (β e)) e <;> intros <;> first | exact k _ _ _ | exact none
noncomputable def zFn (e:aL)(k:∀ a c sp p,Option (β (.FormattedValue a c sp p))):Option (β e):=by
 apply @eJ (λ e=>Option (β e)) e <;> intros <;> first | exact k _ _ _ _ | exact none
noncomputable def uN (e:aL)(k:∀ x i p,Option (β (.Constant (.str x) i p))):Option (β e):=zFo e λ c i p=>by
 apply @Const.casesOn (λ c=>Option (β (.Constant c i p))) c <;> intros <;> first | exact k _ _ _ | exact none
noncomputable def zGK (e:aL)(k:∀ a p,Option (β (.FormattedValue a (-1) none p))):Option (β e):=zFn e λ a c sp p =>
 @eh _ (λ sp=>Option (β (.FormattedValue a c sp p))) sp (if h:c=-1 then h▸k a p else none) λ _=>none
end
noncomputable def zE9 (ks:List (Option aL)):={ss:List aN // KeyL ks ss}
noncomputable def zAz:(ks:List (Option aL))->Option (zE9 ks)
 | []=>some ⟨[],.nil⟩
 | o::r=>match o with
  | none=>none
  | some e=>uN (β:=λ e=>zE9 (some e::r)) e λ x _ _=>(zAz r).bind λ s=>some ⟨x::s.1,.cons s.2⟩
noncomputable def zGw (T:Tabs)(ss:List aN):={ns:List Nat // ns.map (T.names[·]?)=ss.map some}
noncomputable def zD9 (T:Tabs):(ss:List aN)->Option (zGw T ss)
 | []=>some ⟨[],rfl⟩
 | x::r=>bnE (nix T.names x) λ k hk=>(zD9 T r).bind λ ns=>some ⟨k::ns.1,by (erw [aY];erw [aY];erw [ns.2];erw [QM hk];rfl)⟩
structure FOk (A:aM)(F:Fm)(sc:b8)(ks:List (aN×aW)):Prop where
 ks:F.ks=ks
 gl:∀ x,sc.names.lookup x=some .globalImplicit->F.env.kindOf x=some .globalImplicit
 fr:A.frames=some F.fs
theorem FOk.comp {sc:b8}{ks:List (aN×aW)}(h:FOk A F sc ks)(scope:b8)(L:ah):FOk A (zX F scope L) scope (zl ks scope) :=
 ⟨by show zl F.ks scope=_;(erw [h.ks];rfl),(λ x hx=>by
  show hJ (pP scope _ L F.env) x=_
  exact (Qq (env:=F.env) hx).trans (by simp)),h.fr⟩
structure EC (T:Tabs)(sc:b8)(ks:List (aN×aW)) where
 C:Cx
 n:Nat
 A:aM
 F:Fm
 Y:C.Good
 TT:TOk C T
 hA:Room n A
 K:FOk A F sc ks
noncomputable def EC.comp {T:Tabs}{sc:b8}{ks:List (aN×aW)}(c:EC T sc ks)(scope:b8)(L:ah):EC T scope (zl ks scope):=⟨c.C,c.n,c.A,zX c.F scope L,c.Y,c.TT,c.hA,c.K.comp scope L⟩
section
variable (T:Tabs)(X:TX)(sc:b8)(ks:List (aN×aW))
noncomputable def RE (e:aL):={x:Ex // ∀ c:EC T sc ks,SE c.C T c.n c.A c.F e x/\SB c.C T c.n c.A c.F e x}
noncomputable def RL (es:List aL):={xs:List Ex // ∀ c:EC T sc ks,Each (SE c.C T c.n c.A c.F) es xs/\Each (SB c.C T c.n c.A c.F) es xs}
noncomputable def RI (target iter:aL):={x:Ex // ∀ c:EC T sc ks,SI c.C T c.n c.A c.F target iter x}
noncomputable def RG (gs:List bh):={xs:List Gn // ∀ c:EC T sc ks,EachG c.C T c.n c.A c.F gs xs}
end
section
variable {T:Tabs}{X:TX}{sc:b8}{ks:List (aN×aW)}
theorem Yh {es:List aL}{xs:List Ex}(hs:es.all zg=true)(h:Each (SE C T n A F) es xs):SL C T n A F es xs:=by
 induction h with
 | nil=>exact vQ
 | cons p r ih=>exact JR (ZW (all_cons hs).1) p (ih (all_cons hs).2)
theorem qS {b:Bool}(h:(!b)=true):b=false:=by
 cases b with
 | true=>exact bd h
 | false=>rfl
theorem yR {x:aN}(h:(!JI x)=true):(x==("__debug__":aN))=false/\(x==("__classdict__":aN))=false:=(m7).mp (qS h)
theorem Zb {e:aL}{x:Ex}(h:SE C T n A F e x)(hp:∀ env whole,isTrue e env whole=(do let v<-whole;fN e.pos;cR [v] (mA v)):=by intros;rfl):SE C T n A F e x/\SB C T n A F e x:=⟨h,h.sb hp⟩
theorem WB (A:aM):A.mark none=A:=rfl
noncomputable def YI (tr:∀ e,Option (RE T sc ks e)):(es:List aL)->Option (RL T sc ks es)
 | []=>some ⟨[],λ _=>⟨.nil,.nil⟩⟩
 | e::r=>(tr e).bind λ x=>(YI tr r).bind λ xs=>some ⟨x.1::xs.1,λ c=>⟨.cons (x.2 c).1 (xs.2 c).1,.cons (x.2 c).2 (xs.2 c).2⟩⟩
noncomputable def zGy (tr:∀ e,Option (RE T sc ks e))(target iter:aL):Option (RI T sc ks target iter) :=
 wl (β:=λ t=>RI T sc ks t iter) target λ elts x1 tp=>WS (β:=λ i=>RI T sc ks (.Tuple elts x1 tp) i) iter λ f es kw p=>match es with
  | []=>none
  | a::es=>match es with
   | []=>none
   | b::es=>match es with
    | _::_=>none
    | []=>match kw with
     | _::_=>none
     | []=>jP (β:=λ f=>RI T sc ks (.Tuple elts x1 tp) (.Call f [a,b] [] p)) f λ z np =>
      gdE ([a,b].all zg) λ hs=>gdE (sc.names.lookup z==some .globalImplicit) λ h1=>gdE (!JI z) λ h2=>bnE (gix T.glob z) λ g hg=>gdE (((T.glob[g]?).bind λ p=>uk p.2)==some .zip) λ h3=>(tr a).bind λ xa=>(tr b).bind λ xb =>
       some ⟨.zip xa.1 xb.1,λ c=>Ee (ur hg) λ d hd=>zDd c.Y c.TT c.hA.hd (by rw [hd] at h3;obtain rfl:=W6 (eq_of_beq h3);exact hd) (c.K.gl _ (eq_of_beq h1)) (yR h2).1 (xa.2 c).1 (xb.2 c).1 hs⟩
noncomputable def trI (tr:∀ e,Option (RE T sc ks e))(target iter:aL):Option (RI T sc ks target iter) :=
 orE (zGy tr target iter) ((tr iter).bind λ x=>some ⟨x.1,λ c=>(x.2 c).1.si c.hA.hd⟩)
noncomputable def trG (tr:∀ e,Option (RE T sc ks e)):(gs:List bh)->Option (RG T sc ks gs)
 | []=>some ⟨[],λ _=>.nil⟩
 | g::r=>gdE (g.is_async==0) λ h1=>gdE (Qp g.iter) λ h2=>bnE (trP ks g.target) λ t h3=>(trI tr g.target g.iter).bind λ it=>(YI tr g.ifs).bind λ ifs=>(trG tr r).bind λ gs =>
  some ⟨.mk t it.1 ifs.1::gs.1,λ c=>by
   obtain ⟨a,b,e,i⟩:=g
   cases (show i=0 from eq_of_beq h1)
   exact .cons (by erw [c.K.ks];exact h3) (it.2 c) (ifs.2 c).2 h2 (gs.2 c)⟩
noncomputable def zGR (a b:Nat)(ix:List Nat):Bool:=ix.all (λ j=>decide (a<=j)&&decide (j<a + b))&&decide ix.Nodup
structure CR (s6 target iter:aL)(sW:List aL)(sX:List bh)(scope:b8)(T:Tabs)(sc:b8)(ks:List (aN×aW)) where
 t:Pt
 it:Ex
 ifs:List Ex
 gs:List Gn
 xe:Ex
 ok:∀ (pos:dD) (c:EC T sc ks),CompSpec c.C T c.n c.A c.F s6 target iter sW sX scope pos t it ifs gs λ ρ σ K=>wpE c.C T c.n xe ρ σ K
noncomputable def WR (tr:∀ (sc:b8) (ks:List (aN×aW)) e,Option (RE T sc ks e))(s6 target iter:aL)(sW:List aL)(sX:List bh)(scope:b8):Option (CR s6 target iter sW sX scope T sc ks) :=
 gdE (UK ks scope) λ h1=>gdE (Qp iter) λ h2=>bnE (trP (zl ks scope) target) λ t h3=>(trI (tr sc ks) target iter).bind λ it=>(YI (tr scope (zl ks scope)) sW).bind λ ifs=>(trG (tr scope (zl ks scope)) sX).bind λ gs=>(tr scope (zl ks scope) s6).bind λ xe =>
  gdE (zGR ks.length (zV scope).length (Zx t++Zy gs.1)) λ h4=>some ⟨t,it.1,ifs.1,gs.1,xe.1,λ pos c=>Wn c.hA.hd (WB _) (CompOk.of (by erw [c.K.ks];exact h1)) (by erw [c.K.ks];exact h3) h2 (it.2 c) (λ L=>(ifs.2 (c.comp scope L)).2) (λ L=>gs.2 (c.comp scope L)) (λ L=>(xe.2 (c.comp scope L)).1)
   (λ j hj=>Ea (zU (bR.mp (zU h4).1 j (bB.mpr hj))) λ a b=>by erw [c.K.ks];exact ⟨of_decide_eq_true a,of_decide_eq_true b⟩) (of_decide_eq_true (zU h4).2)⟩
noncomputable def zDp (X:TX)(tr:∀ e,Option (RE T sc ks e))(f:aL)(es:List aL)(pos:dD):Option (RE T sc ks (.Call f es [] pos)):=gdE (es.all zg) λ hs=>(YI tr es).bind λ xs=>orE
 (jP (β:=λ f=>RE T sc ks (.Call f es [] pos)) f λ id p=>(tr (.Name id p)).bind λ xf=>some ⟨.call (jg X.mu pos) xf.1 xs.1,λ c=>Zb (zBH c.Y c.hA c.K.fr (xf.2 c).1 (Yh hs (xs.2 c).1) hs)⟩)
 (WQ (β:=λ f=>RE T sc ks (.Call f es [] pos)) f λ o nm apos=>gdE (Qy o) λ h1=>gdE (apos.endLine==pos.line) λ h2=>gdE (gm es.length 29) λ h3=>bnE (nix T.names nm) λ k hk=>(tr o).bind λ xo=>some ⟨.meth xo.1 k xs.1,λ c=>Zb (zCy c.Y c.TT c.hA c.K.fr (QM hk) (xo.2 c).1 (Yh hs (xs.2 c).1) hs h1 h2 (kC (a9 h3)))⟩)
noncomputable def zGI (tr:∀ e,Option (RE T sc ks e)){o:aL}(xo:RE T sc ks o)(i:aL)(pos:dD):Option (RE T sc ks (.Subscript o i pos)) :=
 orE (uN (β:=λ i=>RE T sc ks (.Subscript o i pos)) i λ nm _ _=>bnE (nix T.names nm) λ k hk=>some ⟨.subk xo.1 k,λ c=>Zb (zCI c.TT (QM hk) (xo.2 c).1)⟩)
  (orE (zFK (β:=λ i=>RE T sc ks (.Subscript o i pos)) i λ l u st p=>match st with
   | some _=>none
   | none=>match l with
    | none=>match u with
     | none=>none
     | some b=>(tr b).bind λ x=>some ⟨.upto xo.1 x.1,λ c=>Zb (zBw (xo.2 c).1 (x.2 c).1)⟩
    | some _=>none)
   (gdE (uz i) λ h=>(tr i).bind λ x=>some ⟨.sub xo.1 x.1,λ c=>Zb (zEb c.hA (xo.2 c).1 (x.2 c).1 h)⟩))
noncomputable def trE (X:TX):Nat->(sc:b8)->(ks:List (aN×aW))->(e:aL)->Option (RE T sc ks e)
 | 0,_,_,_=>none
 | f + 1,sc,ks,e=>match e with
  | .Constant k _ _=>bnE (wf k) λ p h=>some ⟨.c p,λ _=>Zb (Vk h)⟩
  | .Name x _=>gdE (!JI x) λ h1=>opE (aix ks x) (λ i h=>some ⟨.nm i,λ c=>Zb (zC1 (by erw [c.K.ks];exact h) (yR h1).1 (yR h1).2)⟩)
   λ _=>gdE (sc.names.lookup x==some .globalImplicit) λ h2=>bnE (gix T.glob x) λ g hg=>some ⟨.gl g,λ c=>Ee (ur hg) λ _ hd=>Zb (zBy c.Y c.TT hd (c.K.gl _ (eq_of_beq h2)) (yR h1).1)⟩
  | .Tuple es _ _=>gdE (es.all zg) λ h1=>gdE (gm es.length 100000) λ h2=>(YI (trE X f sc ks) es).bind λ xs=>some ⟨.tup xs.1,λ c=>Zb (zDD (Yh h1 (xs.2 c).1) (a9 h2))⟩
  | .List es pos=>gdE (es.all zg) λ h1=>gdE (gm es.length 100000) λ h2=>(YI (trE X f sc ks) es).bind λ xs=>some ⟨.lst (jg X.mu pos) xs.1,λ c=>Zb (zDi (Yh h1 (xs.2 c).1) (a9 h2))⟩
  | .Dict keys es pos=>match keys with
   | []=>match es with
    | []=>match jg X.td pos with
     | true=>some ⟨.dct 2 [] [],λ c=>Zb (xY c.Y (.inr rfl))⟩
     | false=>some ⟨.dct 1 [] [],λ c=>Zb (xY c.Y (.inl rfl))⟩
    | _::_=>none
   | k::r=>(zAz (k::r)).bind λ ss=>(YI (trE X f sc ks) es).bind λ xs=>(zD9 T ss.1).bind λ ns=>gdE (bc (k::r).length es.length) λ h1=>gdE (gm (k::r).length 15) λ h2=>gdE (decide ss.1.Nodup) λ h3 =>
    some ⟨.dct 0 ns.1 xs.1,λ c=>Zb (zEx c.Y ss.2 (xs.2 c).1 (cW _ _) (fC h1) (a9 h2) (of_decide_eq_true h3) ns.2)⟩
  | .BinOp a op b _=>(trE X f sc ks a).bind λ x=>(trE X f sc ks b).bind λ y=>some ⟨.bin op x.1 y.1,λ c=>Zb (zEw (x.2 c).1 (y.2 c).1)⟩
  | .UnaryOp op a _=>(trE X f sc ks a).bind λ x=>match op with
   | .USub=>some ⟨.neg x.1,λ c=>Zb (zDW (x.2 c).1)⟩
   | .Not=>some ⟨.not x.1,λ c=>⟨zEL (x.2 c).1,zDh (x.2 c).2⟩⟩
   | _=>none
  | .BoolOp op es _=>(YI (trE X f sc ks) es).bind λ xs=>match op with
   | .And=>some ⟨.and xs.1,λ c=>⟨zEh (xs.2 c).1,zEU (xs.2 c).2⟩⟩
   | .Or=>some ⟨.or xs.1,λ c=>⟨zFA (xs.2 c).1,zF0 (xs.2 c).2⟩⟩
  | .IfExp a b d _=>(trE X f sc ks a).bind λ z=>(trE X f sc ks b).bind λ x=>(trE X f sc ks d).bind λ y=>some ⟨.ite z.1 x.1 y.1,λ c=>⟨zE4 (z.2 c).2 (x.2 c).1 (y.2 c).1,zEJ (z.2 c).2 (x.2 c).2 (y.2 c).2⟩⟩
  | .Compare a ops bs _=>match ops with
   | []=>none
   | op::r=>match r with
    | Af::r'=>match r' with
     | _::_=>none
     | []=>match bs with
      | []=>none
      | b::s=>match s with
       | []=>none
       | b'::s'=>match s' with
        | _::_=>none
        | []=>gdE (!behindInMarks Af b') λ h=>(trE X f sc ks a).bind λ x=>(trE X f sc ks b).bind λ y=>(trE X f sc ks b').bind λ z=>some ⟨.cmp2 x.1 op y.1 Af z.1,λ c=>⟨zBY c.hA (x.2 c).1 (y.2 c).1 (z.2 c).1 (qS h),zCV c.hA (x.2 c).1 (y.2 c).1 (z.2 c).1 (qS h)⟩⟩
    | []=>match bs with
     | []=>none
     | b::s=>match s with
      | _::_=>none
      | []=>gdE (!behindInMarks op b) λ h=>(trE X f sc ks a).bind λ x=>(trE X f sc ks b).bind λ y=>some ⟨.cmp x.1 op y.1,λ c=>⟨zDT c.hA (x.2 c).1 (y.2 c).1 (qS h),zDI c.hA (x.2 c).1 (y.2 c).1 (qS h)⟩⟩
  | .Call fn es kw pos=>match kw with
   | []=>zDp X (trE X f sc ks) fn es pos
   | _::_=>none
  | .Attribute o nm _=>gdE (Qy o) λ h=>bnE (nix T.names nm) λ k hk=>(trE X f sc ks o).bind λ xo=>some ⟨.attr xo.1 k,λ c=>Zb (zB6 c.Y c.TT (QM hk) (xo.2 c).1 h)⟩
  | .Subscript o i pos=>(trE X f sc ks o).bind λ xo=>zGI (trE X f sc ks) xo i pos
  | .ListComp s6 gs scope pos=>match gs with
   | []=>none
   | ⟨target,iter,sW,a⟩::sX=>gdE (a==0) λ h=>(WR (sc:=sc) (ks:=ks) (trE X f) s6 target iter sW sX scope).bind λ r=>some ⟨.comp (jg X.mu pos) (zV scope).length r.xe r.t r.it r.ifs r.gs,λ c=>by
     cases (show a=0 from eq_of_beq h)
     exact Zb (zBb c.hA.hd rfl (r.ok pos c))⟩
  | .JoinedStr vs pos=>match vs with
   | []=>none
   | v::r=>match r with
    | []=>none
    | w::r=>match r with
     | _::_=>none
     | []=>uN (β:=λ v=>RE T sc ks (.JoinedStr [v,w] pos)) v λ pre k p1=>zGK (β:=λ w=>RE T sc ks (.JoinedStr [.Constant (.str pre) k p1,w] pos)) w λ a p2 =>
      gdE (bu pre) λ h1=>gdE (gm pre.length 1000) λ h2=>(trE X f sc ks a).bind λ x=>some ⟨.fstr pre x.1,λ c=>Zb (zCw ⟨h1,a9 h2⟩ (x.2 c).1)⟩
  | _=>none
end
end Mine.Internal
namespace Mine.Internal
open PySem PySem.Calls PyProof PyProof.Rows PySem.W PySem.SeqAt
set_option tactic.hygienic false
variable {sc:b8}{env:kH}{p:dD}{v:aL}{ts:List aL}{k:Nat}
noncomputable def kOf (sc:b8)(x:aN):Option aW:=sc.names.lookup x
noncomputable def blk (sc:b8):ScopeKind:=if sc.kind.isAnnotationScope then .function else sc.kind
noncomputable def swC (sc scope:b8)(t:aN)(p pos:dD):Bool:=blk sc==.function&&kOf sc t==some .local&&p.line==pos.line&&!(scope.names.any λ (n,k)=>n==t&&(k==.local || k==.cell))
theorem Wo {scope:b8}{s6:aL}{gs:List bh}{pos:dD}{t:aN}{l:Nat}(h:env.scope=sc):l9 (.ListComp s6 gs scope pos) (some (.Name t p)) l env=pure (swC sc scope t p pos):=by
 subst h;rfl
noncomputable def vD (e:aL):Bool:=!Nat.ble 24 e.ctorIdx || bc e.ctorIdx 26
noncomputable def vG (e:aL):Bool:=!Nat.beq e.ctorIdx 25
theorem Ua {t:aL}(h:vD t=true):cO [t] v env=pure none:=by
 cases t <;> first | rfl | exact absurd h a5
theorem V4 (h:vG v=true):cO [.Tuple ts k p] v env=pure none:=by
 cases v <;> first | rfl | exact absurd h a5
noncomputable def ZK (sc:b8)(ts:List aL):List aN :=
 let line:=(ts.head?.map (·.pos.line)).getD 0
 ts.filterMap fun
  | .Name id pos=>if kOf sc id==some .local&&pos.line==line then some id else none
  | _=>none
noncomputable def swS (sc:b8)(ts vs:List aL):Option (Option (List aN)) :=
 if (!(ts.length==2 || ts.length==3) || vs.length != ts.length || blk sc != .function)=true then some none
 else if (vs.any λ | .Starred ..=>true | _=>false)=true then some none
 else if ((ZK sc ts).length != ts.length || (ZK sc ts).eraseDups.length != (ZK sc ts).length)=true then some none
 else if (vs.all (lR 8))=true then some none
 else if (vs.all (lD 8))=true then none
 else some (some (ZK sc ts))
theorem Wi {vs:List aL}{k':Nat}{p':dD}{r:Option (List aN)}(h:env.scope=sc)(e:swS sc ts vs=some r):cO [.Tuple ts k p] (.Tuple vs k' p') env=pure r:=by
 subst h
 have e0:cO [.Tuple ts k p] (.Tuple vs k' p') env=(if (!(ts.length==2 || ts.length==3) || vs.length != ts.length || blk env.scope != .function)=true then pure none
  else if (vs.any λ | .Starred ..=>true | _=>false)=true then pure none
  else if ((ZK env.scope ts).length != ts.length || (ZK env.scope ts).eraseDups.length != (ZK env.scope ts).length)=true then pure none
  else if (vs.all (lR 8))=true then pure none
  else if (vs.all (lD 8))=true then (do unsupported "assign.tuple-of-constant-expressions:order-of-the-stores";return some (ZK env.scope ts))
  else pure (some (ZK env.scope ts))):=rfl
 erw [e0]
 unfold swS at e
 by_cases h1:(!(ts.length==2 || ts.length==3) || vs.length != ts.length || blk env.scope != .function)=true
 ·rw [if_pos h1] at e ⊢;obtain rfl:=so e;rfl
 rw [if_neg h1] at e ⊢
 by_cases h2:(vs.any λ | .Starred ..=>true | _=>false)=true
 ·rw [if_pos h2] at e ⊢;obtain rfl:=so e;rfl
 rw [if_neg h2] at e ⊢
 by_cases h3:((ZK env.scope ts).length != ts.length || (ZK env.scope ts).eraseDups.length != (ZK env.scope ts).length)=true
 ·rw [if_pos h3] at e ⊢;obtain rfl:=so e;rfl
 rw [if_neg h3] at e ⊢
 by_cases h4:(vs.all (lR 8))=true
 ·rw [if_pos h4] at e ⊢;obtain rfl:=so e;rfl
 rw [if_neg h4] at e ⊢
 by_cases h5:(vs.all (lD 8))=true
 ·rw [if_pos h5] at e;exact nn e
 rw [if_neg h5] at e ⊢
 obtain rfl:=so e;rfl
end Mine.Internal
namespace Mine.Internal
open PySem PySem.Calls PyProof PyProof.Rows PySem.W PySem.SeqAt
set_option tactic.hygienic false
variable {t1 t2:aL}{i1 i2:Nat}{p1 p2:dD}{x1 x2:aN}
structure TopF (F:Fm)(sc:b8):Prop where
 sc:F.env.scope=sc
 top:∃ fs,F.fs=F.env::fs
 fr:F.env.frame=some F.env.locals
section
variable (T:Tabs)(sc:b8)(ks:List (aN×aW))
noncomputable def RT (e:aL):={t:Tg // ∀ c:EC T sc ks,SA c.C T c.n c.A c.F e t}
noncomputable def RTs (es:List aL):={ts:List Tg // ∀ c:EC T sc ks,EachT (SA c.C T c.n c.A c.F) es ts}
noncomputable def RS (s:fw):={x:St // ∀ c:EC T sc ks,TopF c.F sc->SX c.C T c.n c.A c.F s x}
noncomputable def RSs (s:List fw):={x:List St // ∀ c:EC T sc ks,TopF c.F sc->SS c.C T c.n c.A c.F s x}
end
structure TS where
 X:TX
 fz:List Nat
section
variable {T:Tabs}{sc:b8}{ks:List (aN×aW)}
noncomputable def zEo (tr:∀ e,Option (RT T sc ks e)):(es:List aL)->Option (RTs T sc ks es)
 | []=>some ⟨[],λ _=>.nil⟩
 | e::r=>gdE (zg e) λ h=>(tr e).bind λ x=>(zEo tr r).bind λ xs=>some ⟨x.1::xs.1,λ c=>.cons (x.2 c) h (xs.2 c)⟩
noncomputable def trT (X:TX)(f':Nat):Nat->(e:aL)->Option (RT T sc ks e)
 | 0,_=>none
 | f + 1,e=>match e with
  | .Name x _=>bnE (bix ks x) λ i h=>some ⟨.pt (.nm i),λ c=>zCP (by erw [c.K.ks];exact h)⟩
  | .Tuple es _ _=>(zEo (trT X f' f) es).bind λ ts=>some ⟨.tup ts.1,λ c=>zDq c.hA.hd (ts.2 c)⟩
  | .Attribute o nm _=>bnE (nix T.names nm) λ k hk=>(trE (T:=T) X f' sc ks o).bind λ xo=>some ⟨.attr xo.1 k,λ c=>zBG c.Y c.TT (QM hk) (xo.2 c).1⟩
  | .Subscript o a pos=>(trE (T:=T) X f' sc ks o).bind λ xo=>orE (uN (β:=λ i=>RT T sc ks (.Subscript o i pos)) a λ nm _ _=>bnE (nix T.names nm) λ k hk=>some ⟨.subk xo.1 k,λ c=>zBM c.TT (QM hk) (xo.2 c).1⟩)
    ((trE (T:=T) X f' sc ks a).bind λ x=>some ⟨.sub xo.1 x.1,λ c=>zEP c.hA (xo.2 c).1 (x.2 c).1⟩)
  | _=>none
noncomputable def Xz (X:TX)(f:Nat)(tC e:aL)(pos:dD)(hs:∀ F:Fm,F.env.scope=sc->dT [tC] e pos.line F.env=pure false)(hw:∀ F:Fm,F.env.scope=sc->cO [tC] e F.env=pure none):Option (RS T sc ks (.Assign [tC] e pos)) :=
 gdE (zg tC) λ h=>(trE (T:=T) X f sc ks e).bind λ x=>(trT X f f tC).bind λ t=>some ⟨.asg t.1 x.1,λ c q=>zD7 (x.2 c).1 (t.2 c) h (hs _ q.sc) (hw _ q.sc)⟩
noncomputable def yX (e:aL):Option {q:aN×dD // e=.Name q.1 q.2}:=jP (β:=λ e=>{q:aN×dD // e=.Name q.1 q.2}) e λ x p=>some ⟨(x,p),rfl⟩
noncomputable def zGj (ts:List aL):Option {q:aL×aL // ts=[q.1,q.2]}:=match ts with
 | []=>none
 | a::r=>match r with
  | []=>none
  | b::r=>match r with
   | []=>some ⟨(a,b),rfl⟩
   | _::_=>none
noncomputable def zDH (ts:List aL):Option {q:aL×aL×aL // ts=[q.1,q.2.1,q.2.2]}:=match ts with
 | []=>none
 | a::r=>match r with
  | []=>none
  | b::r=>match r with
   | []=>none
   | c::r=>match r with
    | []=>some ⟨(a,b,c),rfl⟩
    | _::_=>none
theorem jQ {a b:Nat}(h:(!Nat.beq a b)=true):a≠b:=λ e=>by subst e;rw [ku] at h;exact bd h
theorem qW {tC e:aL}{l:Nat}{env:kH}(h:y6 e=true):dT [tC] e l env=pure false:=yt h
theorem w2 {c:EC T sc ks}{ts:List aL}{e:aL}{k:Nat}{p pos:dD}{x:Ex}{names:List aN}(e0:ts=[t1,t2])(e1:t1=.Name x1 p1)(e2:t2=.Name x2 p2)(hx:SE c.C T c.n c.A c.F e x)(b1:bix ks x1=some i1)(b2:bix ks x2=some i2)(hn:(names==[x1,x2])=true)(d:(!Nat.beq i1 i2)=true)
  (hs:dT [.Tuple ts k p] e pos.line c.F.env=pure false) (hw:cO [.Tuple ts k p] e c.F.env=pure (some names)):SX c.C T c.n c.A c.F (.Assign [.Tuple ts k p] e pos) (.asg (.tup [.pt (.nm i1),.pt (.nm i2)]) x):=by
 subst e0 e1 e2
 cases eq_of_beq hn
 rw [<- c.K.ks] at b1 b2
 exact zCO c.hA.hd hx b1 b2 (jQ d) hs hw
theorem w3 {c:EC T sc ks}{ts:List aL}{t3 e:aL}{k i3:Nat}{p p3 pos:dD}{x3:aN}{x:Ex}{names:List aN}(e0:ts=[t1,t2,t3])(e1:t1=.Name x1 p1)(e2:t2=.Name x2 p2)(e3:t3=.Name x3 p3)(hx:SE c.C T c.n c.A c.F e x)(b1:bix ks x1=some i1)(b2:bix ks x2=some i2)(b3:bix ks x3=some i3)(hn:(names==[x1,x2,x3])=true)(d1:(!Nat.beq i1 i2)=true)(d2:(!Nat.beq i1 i3)=true)(d3:(!Nat.beq i2 i3)=true)
  (hs:dT [.Tuple ts k p] e pos.line c.F.env=pure false) (hw:cO [.Tuple ts k p] e c.F.env=pure (some names)):SX c.C T c.n c.A c.F (.Assign [.Tuple ts k p] e pos) (.asg (.tup [.pt (.nm i1),.pt (.nm i2),.pt (.nm i3)]) x):=by
 subst e0 e1 e2 e3
 cases eq_of_beq hn
 rw [<- c.K.ks] at b1 b2 b3
 exact zBR c.hA.hd hx b1 b2 b3 ⟨jQ d1,jQ d2,jQ d3⟩ hs hw
noncomputable def trW (X:TX)(f:Nat)(ts:List aL)(k:Nat)(p:dD)(e:aL)(pos:dD)(names:List aN)(hs:∀ F:Fm,F.env.scope=sc->dT [.Tuple ts k p] e pos.line F.env=pure false)(hw:∀ F:Fm,F.env.scope=sc->cO [.Tuple ts k p] e F.env=pure (some names)):Option (RS T sc ks (.Assign [.Tuple ts k p] e pos)) :=
 (trE (T:=T) X f sc ks e).bind λ x=>orE
  ((zGj ts).bind λ q=>(yX q.1.1).bind λ n1=>(yX q.1.2).bind λ n2=>bnE (bix ks n1.1.1) λ i1 b1=>bnE (bix ks n2.1.1) λ i2 b2=>gdE (names==[n1.1.1,n2.1.1]) λ hn=>gdE (!Nat.beq i1 i2) λ d =>
   some ⟨.asg (.tup [.pt (.nm i1),.pt (.nm i2)]) x.1,λ c h=>w2 q.2 n1.2 n2.2 (x.2 c).1 b1 b2 hn d (hs c.F h.sc) (hw c.F h.sc)⟩)
  ((zDH ts).bind λ q=>(yX q.1.1).bind λ n1=>(yX q.1.2.1).bind λ n2=>(yX q.1.2.2).bind λ n3=>bnE (bix ks n1.1.1) λ i1 b1=>bnE (bix ks n2.1.1) λ i2 b2=>bnE (bix ks n3.1.1) λ i3 b3=>gdE (names==[n1.1.1,n2.1.1,n3.1.1]) λ hn=>gdE (!Nat.beq i1 i2) λ d1=>gdE (!Nat.beq i1 i3) λ d2=>gdE (!Nat.beq i2 i3) λ d3 =>
   some ⟨.asg (.tup [.pt (.nm i1),.pt (.nm i2),.pt (.nm i3)]) x.1,λ c h=>w3 q.2 n1.2 n2.2 n3.2 (x.2 c).1 b1 b2 b3 hn d1 d2 d3 (hs c.F h.sc) (hw c.F h.sc)⟩)
noncomputable def zGC (X:TX)(f:Nat)(pos:dD)(s6:aL)(gs:List bh)(scope:b8)(p:dD)(x:aN)(px:dD):Option (RS T sc ks (.Assign [.Name x px] (.ListComp s6 gs scope p) pos)) :=
 orE (gdE (!swC sc scope x px p) λ hb=>Xz X f _ _ pos (λ _ h=>(Wo (l:=pos.line) h).trans (by (erw [qS hb];rfl))) (λ _ _=>Ua rfl))
  (gdE (swC sc scope x px p) λ hb=>match gs with
   | []=>none
   | ⟨target,iter,sW,a⟩::sX=>gdE (a==0) λ ha=>bnE (bix ks x) λ iy _=>gdE (ks[iy]?==some (x,.local)) λ hk=>(WR (T:=T) (sc:=sc) (ks:=ks) (trE X f) s6 target iter sW sX scope).bind λ r =>
    some ⟨.asg (.pt (.nm iy)) (.comp (jg X.mu p) (zV scope).length r.xe r.t r.it r.ifs r.gs),λ c h=>by
     cases (show a=0 from eq_of_beq ha)
     exact zC9 c.hA.hd (r.ok p c) ((Wo h.sc).trans (by (erw [hb];rfl))) (by erw [c.K.ks];exact eq_of_beq hk) rfl⟩)
noncomputable def zGf {β:aL->Type}(e:aL)(k:∀ s6 gs scope p,Option (β (.ListComp s6 gs scope p))):Option (β e):=by
 apply @eJ (λ e=>Option (β e)) e <;> intros <;> first | exact k _ _ _ _ | exact none
noncomputable def trL (X:TX)(f:Nat)(tC e:aL)(pos:dD):Option (RS T sc ks (.Assign [tC] e pos)):=zGf (β:=λ e=>RS T sc ks (.Assign [tC] e pos)) e λ s6 gs scope p=>jP (β:=λ t=>RS T sc ks (.Assign [t] (.ListComp s6 gs scope p) pos)) tC λ x px=>zGC X f pos s6 gs scope p x px
noncomputable def trA (X:TX)(f:Nat)(tC e:aL)(pos:dD):Option (RS T sc ks (.Assign [tC] e pos)) :=
 orE (trL X f tC e pos) (gdE (y6 e) λ hn=>orE (gdE (vD tC) λ h=>Xz X f tC e pos (λ _ _=>qW hn) (λ _ _=>Ua h))
  (wl (β:=λ t=>RS T sc ks (.Assign [t] e pos)) tC λ ts k p=>orE (gdE (vG e) λ h=>Xz X f _ e pos (λ _ _=>qW hn) (λ _ _=>V4 h))
   (wl (β:=λ e=>RS T sc ks (.Assign [.Tuple ts k p] e pos)) e λ vs k' p'=>bnE (swS sc ts vs) λ r hr=>match r,hr with
    | none,hr=>Xz X f _ _ pos (λ _ _=>qW rfl) (λ _ h=>Wi h hr)
    | some names,hr=>trW X f ts k p _ pos names (λ _ _=>qW rfl) (λ _ h=>Wi h hr))))
noncomputable def Uf (tr:∀ s,Option (RS T sc ks s)):(ss:List fw)->Option (RSs T sc ks ss)
 | []=>some ⟨[],λ _ _=>zEH⟩
 | s::r=>(tr s).bind λ x=>(Uf tr r).bind λ xs=>some ⟨x.1::xs.1,λ c q=>zCn (x.2 c q) (xs.2 c q)⟩
noncomputable def zGz {β:fw->Type}(ts:List aL)(e:aL)(p:dD)(k:∀ t e p,Option (β (.Assign [t] e p))):Option (β (.Assign ts e p)) :=
 @bA _ (λ ts=>Option (β (.Assign ts e p))) ts none λ t r=>@bA _ (λ r=>Option (β (.Assign (t::r) e p))) r (k t e p) λ _ _=>none
noncomputable def zFg {β:fw->Type}(s:fw)(k:∀ t e p,Option (β (.Assign [t] e p))):Option (β s):=by
 apply @rx (λ s=>Option (β s)) s <;> intros <;> first | exact zGz _ _ _ k | exact none
noncomputable def Xe {s:fw}:RS T sc ks s:=⟨.raise,λ _ _=>vw⟩
noncomputable def trS (Z:TS):Nat->(s:fw)->Option (RS T sc ks s)
 | 0,_=>none
 | f + 1,st=>match st with
  | .Expr e _=>gdE (y6 e) λ h=>(trE (T:=T) Z.X f sc ks e).bind λ x=>some ⟨.expr x.1,λ c _=>zCQ (x.2 c).1 h⟩
  | .Assign ts e pos=>match ts with
   | []=>none
   | tC::r=>match r with
    | []=>trA Z.X f tC e pos
    | _::_=>none
  | .If c a b _=>(trE (T:=T) Z.X f sc ks c).bind λ z=>(Uf (trS Z f) a).bind λ x=>(Uf (trS Z f) b).bind λ y=>some ⟨.ite z.1 x.1 y.1,λ c q=>zF3 (z.2 c).2 (x.2 c q) (y.2 c q)⟩
  | .For tC iter body orelse _=>match orelse with
   | []=>gdE (Qp iter) λ h=>bnE (trP ks tC) λ t ht=>(trI (T:=T) (sc:=sc) (ks:=ks) (trE Z.X f sc ks) tC iter).bind λ it=>(Uf (trS Z f) body).bind λ ys=>some ⟨.for t it.1 ys.1,λ c q=>zEy c.hA.hd (by erw [c.K.ks];exact ht) (it.2 c) (ys.2 c q) (JW h)⟩
   | _::_=>none
  | .Return v pos=>match v with
   | some e=>(trE (T:=T) Z.X f sc ks e).bind λ x=>match Z.fz.contains pos.line with
    | true=>some ⟨.retF x.1,λ c _=>zCa (x.2 c).1⟩
    | false=>some ⟨.ret x.1,λ c _=>zDy (x.2 c).1⟩
   | none=>some ⟨.retN,λ _ _=>zBn⟩
  | .Continue _=>some ⟨.cont,λ _ _=>zCe⟩
  | .Raise exc cause pos=>match exc with
   | some e=>match cause with
    | none=>some Xe
    | some _=>some Xe
   | none=>some Xe
  | _=>some Xe
end
structure FOkS (A:aM)(F:Fm)(sc:b8)(ks:List (aN×aW)):Prop where
 ks:F.ks=ks
 top:TopF F sc
 fr:A.frames=some F.fs
theorem FOkS.ok {A:aM}{F:Fm}{sc:b8}{ks:List (aN×aW)}(h:FOkS A F sc ks):FOk A F sc ks:=⟨h.ks,(λ x e=>by show F.env.scope.names.lookup x=_;erw [h.top.sc];exact e),h.fr⟩
theorem zDX {C:Cx}{T:Tabs}{n:Nat}{f:ah}{fd:dK}{ps:List aN}{ks:List (aN×aW)}{body:List fw}{ds:List D}{σ:zA}{Q:D->zA->Prop}(Y:C.Good)(TT:TOk C T)(O:FnOk C f fd ps ks body)(tn:ds.length=ps.length)
  (r:RSs T fd.scope ks body) (h:wpSs C T n r.1 (Qg ds ks.length) σ λ fl _ σ'=>ZR σ Q fl σ'):SatCall C T (n + 1) f ds σ Q :=
 zED Y O tn λ F A hk hs hf ht Dq q=>(r.2 ⟨C,n,A,F,Y,TT,q,FOkS.ok ⟨hk,⟨hs,ht,Dq⟩,hf⟩⟩ ⟨hs,ht,Dq⟩) _ _ _ h
end Mine.Internal
namespace Mine.Internal
open PySem PySem.Calls PyProof PyProof.Rows PySem.W PySem.SeqAt
set_option tactic.hygienic false
variable {ps:List aN}{fd:dK}{C:Cx}{T:Tabs}{μ:List ah}{A:aM}{attr file:aN}
noncomputable def ye (p:Arguments):Option (List aN):=gd (p.posonlyargs.isEmpty&&p.vararg.isNone&&p.kwonlyargs.isEmpty&&p.kw_defaults.isEmpty&&p.kwarg.isNone&&p.defaults.isEmpty) (some (p.args.map (·.arg)))
noncomputable def jC (l:List Bool):Bool:=dQ true (λ b _ r=>b&&r) l
theorem zF {l:List Bool}:∀ {i:Nat} {b:Bool},jC l=true->l[i]?=some b->b=true :=
 @dQ Bool (λ l=>∀ {i:Nat} {b:Bool},jC l=true->l[i]?=some b->b=true) (λ _ e=>nn e) (λ c r ih {i b} h=>@iB (λ i=>(c::r)[i]?=some b->b=true) i (λ e=>so e▸(zU h).1) λ _ e=>ih (zU h).2 e) l
theorem zCk {a b d:List Arg}{c f:Option Arg}{e:List (Option aL)}{g:List aL}(h1:a=[])(h2:c=none)(h3:d=[])(h4:e=[])(h5:f=none)(h6:g=[]):Arguments.mk a b c d e f g=⟨[],b,none,[],[],none,[]⟩:=by
 subst h1 h2 h3 h4 h5 h6;rfl
theorem Yv {p:Arguments}(h:ye p=some ps):∃ as,p=⟨[],as,none,[],[],none,[]⟩/\as.map (·.arg)=ps:=by
 obtain ⟨a,b,c,d,e,f,g⟩:=p
 exact Ea (og h) λ h1 h2=>Ea (zU h1) λ h1 h3=>Ea (zU h1) λ h1 h4=>Ea (zU h1) λ h1 h5=>Ea (zU h1) λ h1 h6=>Ea (zU h1) λ h1 h7 =>
  ⟨b,zCk (cX.mp h1) (gk.mp h7) (cX.mp h6) (cX.mp h5) (gk.mp h4) (cX.mp h3),so h2⟩
theorem ui {vals:List af}(nd:ps.Nodup)(hl:vals.length=ps.length):∀ n∈ps,∃ v,(ps.zip vals).lookup n=some v:=λ n hn=>by
 refine Ee (aS.mp hn) λ i hi=>?_
 have:=ql nd hl.symm hi
 have s3:i<vals.length:=by erw [hl];exact (av.mp hi).1
 exact ⟨vals[i],by (erw [this];erw [aw s3];rfl)⟩
theorem zDS:∀ {ps:List aN} {vals:List af},ps.Nodup->vals.length=ps.length->ps.filterMap (λ n=>((ps.zip vals).lookup n).map (n,·))=ps.zip vals:=by
 intro ps vals nd hl
 apply oj
 intro i
 have key:∀ (l:List aN) (f:aN->Option (aN×af)) (g:List (aN×af)),l.length=g.length->(∀ (j:Nat) x y,l[j]?=some x->g[j]?=some y->f x=some y)->l.filterMap f=g:=by
  intro l f
  induction l with
  | nil=>intro g hg _;cases g with | nil=>rfl | cons _ _=>simp at hg
  | cons x l ih =>
   intro g hg h
   cases g with
   | nil=>simp at hg
   | cons y g =>
    (erw [List.filterMap_cons];erw [h 0 x y rfl rfl])
    simp only [pk,true_and]
    exact ih g (by simpa using hg) λ j a b h1 h2=>h (j + 1) a b (by simpa using h1) (by simpa using h2)
 refine rwE (key ps _ (ps.zip vals) (by simp [hl]) λ j x y hx hy=>?_) rfl
 refine Ea (lI.mp (show (ps.zip vals)[j]?=some (y.1,y.2) from hy)) λ h1 h2=>?_
 rw [hx] at h1;(injection h1 with y1y0;subst y1y0)
 (erw [ql nd hl.symm hx];erw [h2])
 rfl
theorem j3 {as:List Arg}(hp:fd.params=⟨[],as,none,[],[],none,[]⟩)(hd:fd.defaults=.none)(hn:as.map (·.arg)=ps)(nd:ps.Nodup)(vals:List af)(hl:vals.length=ps.length):m5 fd ⟨vals,[]⟩=pure (ps.zip vals):=by
 have e1:(ps.filter λ n=>((ps.zip vals).lookup n).isNone)=[]:=by
  rw [fA]
  intro n hm
  refine Ee (ui nd hl n hm) λ v e=>?_
  simp [e]
 have key:∀ {P:Prop},(∀ (X Y:kI (List (aN×af))) (f:aN×af->List (aN×af)->kI (ForInStep (List (aN×af)))) (g:List (aN×af)->kI (List (aN×af))),(m5 fd ⟨vals,[]⟩=if (decide (vals.length > (as.map fW).length)&&true)=true then X else if (!(((as.map fW).take ((as.map fW).length - (cF (0 - (as.map fW).length) ([]:List af)).length)).filter λ n=>(((as.map fW).zip vals).lookup n).isNone).isEmpty)=true then Y else (forIn (((as.map fW).drop ((as.map fW).length - (cF (0 - (as.map fW).length) ([]:List af)).length)).zip (cF (0 - (as.map fW).length) ([]:List af))) ((as.map fW).zip vals) f >>= g))->(∀ s,g s=pure (((as.map fW)++[]).filterMap λ n=>(s.lookup n).map (n,·)))->P)->P:=by
  obtain ⟨q1,q2,q3,q4,q5,q6,q7,q8,q9,Lc,Ls,Lf,Lb,Lv,Lo⟩:=fd
  obtain rfl:=hp
  obtain rfl:=hd
  exact λ k=>k _ _ _ _ rfl λ _=>rfl
 refine key λ X Y f g e hg=>?_
 (erw [e];erw [hn];erw [hl];erw [List.drop_nil];erw [lg];erw [Nat.sub_zero];erw [if_neg (by simp)];erw [oT];erw [e1];erw [List.zip_nil_right];erw [lB];erw [pure_bind];erw [hg];erw [hn];erw [aP];erw [zDS nd hl])
 rfl
theorem YD {n:Nat}:∀ {l:List (aN×aW)} {acc:List (aN×ah)} {x:aN} {n:Nat},(acc.lookup x).isSome=true->((iP n l acc).lookup x).isSome=true
 | [],_,_,_,h=>h
 | (y,k)::r,acc,x,n,h=>by
  simp only [iP]
  split
  ·refine YD (n:=n) ?_
   erw [cC]
   split
   ·rfl
   ·exact h
  ·exact YD (n:=n) h
theorem YB:∀ {l:List (aN×aW)} {acc:List (aN×ah)} {x:aN} {n:Nat},(x,lQ)∈l->((iP n l acc).lookup x).isSome=true
 | [],_,_,_,h=>nomatch h
 | (y,k)::r,acc,x,n,h=>by
  simp only [iP]
  rcases aJ.mp h with e | e
  ·cases e
   simp only [beq_self_eq_true,if_true]
   exact YD (n:=n) (by simp [cC])
  ·split
   ·exact YB e
   ·exact YB e
noncomputable def dFn:o9->Option dK
 | .func fd=>some fd
 | _=>none
theorem zAt {d:o9}(h:dFn d=some fd):d=.func fd:=by cases d with | func x=>(erw [so h];rfl) | _=>exact nn h
noncomputable def we:FuncBody->Option (List fw)
 | .stmts b=>some b
 | _=>none
theorem W0 {d:FuncBody}{b:List fw}(h:we d=some b):d=.stmts b:=by cases d with | stmts x=>(erw [so h];rfl) | _=>exact nn h
noncomputable def keep (fd:dK):List (aN×aW):=fd.scope.names.filter λ x=>x.2==.local || x.2==.cell
noncomputable def fnB (K:fZ)(f:ah):Option (dK×List aN×List (aN×aW)×List fw):=(K.lookup f).bind λ o=>(dFn o.data).bind λ fd=>(ye fd.params).bind λ ps=>(we fd.body).bind λ b =>
 gd (jC [pO K fd.code fd.qualname,fd.closure.isEmpty,fd.globals==cv,fd.builtins==fH,fd.defaults==.none,!fd.scope.isCoroutine,!fd.scope.isGenerator,fd.scope.kind==.function,decide (fd.scope.names.map (·.1)).Nodup,((keep fd).map (·.1)).take ps.length==ps]) (some (fd,ps,keep fd,b))
theorem qH {α:Type}:∀ {l:List (aN×α)} {x:aN} {a:α},(l.map (·.1)).Nodup->(x,a)∈l->l.lookup x=some a
 | [],_,_,_,h=>nomatch h
 | (y,b)::l,x,a,nd,h=>by
  rw [aY,cG] at nd
  erw [cC]
  rcases aJ.mp h with e | e
  ·cases e;simp
  ·have:(x==y)=false:=by
    rw [beq_eq_false_iff_ne];rintro rfl;exact nd.1 (aU.mpr ⟨_,e,rfl⟩)
   erw [this];exact qH nd.2 e
theorem zBj {f:ah}{q:dK×List aN×List (aN×aW)×List fw}(h:fnB C.K f=some q):FnOk C f q.1 q.2.1 q.2.2.1 q.2.2.2:=by
 refine Eea (ob h) λ o hl k1=>?_
 refine Eea (ob k1) λ fd e1 k2=>?_
 refine Eea (ob k2) λ ps hp k3=>?_
 refine Eea (ob k3) λ b hb k4=>?_
 refine Ea (og k4) λ k5 e2=>?_
 obtain rfl:=so e2
 clear h k1 k2 k3 k4 e2
 obtain ⟨oc,od,dat,sl⟩:=o
 obtain rfl:=zAt e1
 have c9:=of_decide_eq_true (zF (i:=8) k5 rfl)
 have c10:=eq_of_beq (zF (i:=9) k5 rfl)
 refine Eea (Yv hp) λ as BX BP=>?_
 have HZ:((keep fd).map (·.1)).Nodup:=c9.sublist (List.filter_sublist.map _)
 have ED:ps.Nodup:=c10▸HZ.sublist (gp _ _)
 exact ⟨⟨oc,od,sl,hl⟩,(zF (i:=0) k5 rfl),W0 hb,λ vals hv=>j3 BX (eq_of_beq (zF (i:=4) k5 rfl)) BP ED vals hv,cX.mp (zF (i:=1) k5 rfl),eq_of_beq (zF (i:=2) k5 rfl),eq_of_beq (zF (i:=3) k5 rfl),qS (zF (i:=5) k5 rfl),qS (zF (i:=6) k5 rfl),eq_of_beq (zF (i:=7) k5 rfl),HZ,c10,λ x k m=>Ea (cS.mp m) λ m1 m2=>⟨((kW ..).mp m2).imp eq_of_beq eq_of_beq,qH c9 m1⟩,λ x L m=>YB (cS.mp m).1⟩
noncomputable def trF (K:fZ)(T:Tabs)(Z:TS)(fuel:Nat)(f:ah):Option (Nat×Nat×List St):=(fnB K f).bind λ r=>(Uf (T:=T) (sc:=r.1.scope) (ks:=r.2.2.1) (trS Z fuel) r.2.2.2).bind λ Db=>some (r.2.1.length,r.2.2.1.length,Db.1)
theorem zL {Z:TS}{fuel n np nk:Nat}{f:ah}{Db:List St}{ds:List D}{σ:zA}{Q:D->zA->Prop}(Y:C.Good)(TT:TOk C T)(h:trF C.K T Z fuel f=some (np,nk,Db))(tn:ds.length=np)
  (hw:wpSs C T n Db (Qg ds nk) σ λ fl _ σ'=>ZR σ Q fl σ'):SatCall C T (n + 1) f ds σ Q:=by
 refine Eea (ob h) λ q hf h1=>?_
 refine Eea (ob h1) λ Gs _ h2=>?_
 have e:=so h2
 obtain rfl:_=np:=congrArg nc e
 obtain rfl:_=nk:=congrArg (λ t=>t.2.1) e
 obtain rfl:_=Db:=congrArg (λ t=>t.2.2) e
 exact zDX (fd:=q.1) (ps:=q.2.1) (ks:=q.2.2.1) (body:=q.2.2.2) Y TT (zBj hf) tn Gs hw
noncomputable def xW (K:fZ)(a:ah)(x:aN)(zz:Option ah):Bool:=@eh _ (λ _=>Bool) zz (findIn K (.ref a) x==some none) (λ f=>findIn K (.ref a) x==some (some (.ref f))&&typeIn K (.ref f)==some (.type "function")&&keepIn K (.ref f))
noncomputable def Y6 (K:fZ)(T:Tabs)(a:ah):Nat->List aN->Bool
 | _,[]=>true
 | k,x::r=>xW K a x (zY a k T.meth)&&Y6 K T a (k + 1) r
noncomputable def zDk (K:fZ)(T:Tabs)(a:ah):Bool :=
 findIn K (.ref a) "__getattribute__"==some (some (.builtin "object.__getattribute__"))&&findIn K (.ref a) "__getattr__"==some none&&findIn K (.ref a) "__setattr__"==some (some (.builtin "object.__setattr__"))
 && l3 K a&&l4 K a&&Y6 K T a 0 T.names
noncomputable def zFq (d:o9):Option {q:Array af×Nat // d=.seq q.1 q.2}:=match d with
 | .seq a n=>some ⟨(a,n),rfl⟩
 | _=>none
noncomputable def zFa (v:af):Option {a:ah // v=.ref a}:=match v with
 | .ref a=>some ⟨a,rfl⟩
 | _=>none
noncomputable def zFe (v:af):Option {q:Int×iv // v=.int q.1 q.2}:=match v with
 | .int i t=>some ⟨(i,t),rfl⟩
 | _=>none
structure ValP (K:fZ)(v:af)(x:ab):Prop where
 h:∀ (h:aR) (φ:ah->Prop),(∀ a o,K.lookup a=some o->h.get? a=some o/\φ a)->VP h φ v x
structure ValsP (K:fZ)(vs:List af)(xs:List ab):Prop where
 h:∀ (h:aR) (φ:ah->Prop),(∀ a o,K.lookup a=some o->h.get? a=some o/\φ a)->VPs h φ vs xs
noncomputable def zAC {K:fZ}(f:∀ v x,Option (PLift (ValP K v x))):∀ vs xs,Option (PLift (ValsP K vs xs))
 | [],xs=>match xs with
  | []=>some ⟨⟨λ _ _ _=>.nil⟩⟩
  | _=>none
 | v::vs,xs=>match xs with
  | []=>none
  | x::xs=>(f v x).bind λ p=>(zAC f vs xs).bind λ q=>some ⟨⟨λ h φ k=>.cons (p.1.h h φ k) (q.1.h h φ k)⟩⟩
noncomputable def zE5 (K:fZ):Nat->∀ v x,Option (PLift (ValP K v x))
 | 0,_,_=>none
 | n + 1,v,x=>match x with
  | .int i=>(zFe v).bind λ p=>gdE (p.1.1==i) λ h=>some ⟨⟨λ _ _ _=>by (erw [p.2];erw [eq_of_beq h]);exact .int _ _⟩⟩
  | .tuple xs=>(zFa v).bind λ p=>(bnE (K.lookup p.1) λ o ho=>(zFq o.data).bind λ s=>gdE (o.cls==.type "tuple") λ h1=>gdE o.dict.isNone λ h2=>(zAC (zE5 K n) s.1.1.toList xs).bind λ q =>
    some ⟨⟨λ h φ k=>by
     refine Ea (k _ _ ho) λ e f=>?_
     erw [p.2]
     exact .tup f ⟨⟨o,e,eq_of_beq h1,_,s.2⟩,λ o' e'=>by obtain rfl:=so (e.symm.trans e');exact gk.mp h2⟩ (q.1.h h φ k)⟩⟩)
  | _=>none
noncomputable def zAy (K:fZ)(e:aN×D):Bool:=match e.2 with
 | .fn a=>pa K cv e.1==some (some (.ref a))
 | .bi b=>pa K cv e.1==some none&&fX e.1==some (qw b)&&e.1 != "__name__"
 | .p x=>(pa K cv e.1).any λ o=>o.any λ v=>(zE5 K 3 v x).isSome
 | _=>false
noncomputable def zAF (K:fZ)(T:Tabs):Bool :=
 decide T.names.Nodup&&T.classes.all (zDk K T)&&T.glob.all (zAy K)&&T.names.take 6==(["append","get","setdefault","sort","extend","count"]:List aN)
theorem Qd {K:fZ}{a:ah}:∀ {l:List aN} {i k:Nat} {x:aN},Y6 K T a i l=true->l[k]?=some x->xW K a x (zY a (i + k) T.meth)=true
 | [],i,k,x,_,e=>nn e
 | y::r,i,0,x,h,e=>by obtain rfl:=so e;exact (zU h).1
 | y::r,i,k + 1,x,h,e=>by
  have:=Qd (l:=r) (i:=i + 1) (k:=k) (zU h).2 e
  rw [gC,fk 1 k] at this
  exact this
theorem Va {a:ah}(h:zDk C.K T a=true):ClsOk C T a:=by
 refine Ea (zU h) λ h h6=>?_
 refine Ea (zU h) λ h h5=>?_
 refine Ea (zU h) λ h h4=>?_
 refine Ea (zU h) λ h h3=>?_
 refine Ea (zU h) λ h1 h2=>?_
 refine ⟨eq_of_beq h1,eq_of_beq h2,eq_of_beq h3,h4,h5,λ k x hx hl=>?_,λ k x f hx hl=>?_⟩
 ·have:=Qd h6 hx
  rw [fV,hl] at this
  exact eq_of_beq this
 ·have:=Qd h6 hx
  rw [fV,hl] at this
  refine Ea (zU this) λ q q3=>?_
  refine Ea (zU q) λ q1 q2=>?_
  exact ⟨eq_of_beq q1,eq_of_beq q2,q3⟩
theorem W5 {x:aN}{d:D}(Y:C.Good)(hb:∀ y:aN,y≠"__name__"->C.mb y=fX y)(h:zAy C.K (x,d)=true):jy C x d:=by
 cases d with
 | fn a=>exact ⟨.ref a,.inl (mg_of Y.X Y.g (eq_of_beq h)),λ _ _ _ _ _=>.fn a⟩
 | bi b =>
  refine Ea (zU h) λ h h3=>?_
  refine Ea (zU h) λ h1 h2=>?_
  exact ⟨qw b,.inr ⟨mg_none_of Y.X Y.g (eq_of_beq h1),(hb x (bne_iff_ne.mp h3)).trans (eq_of_beq h2)⟩,λ _ _ _ _ _=>.bi b⟩
 | p y =>
  refine Eea ((nZ _ _).mp h) λ o e1 h=>?_
  refine Eea ((nZ _ _).mp h) λ v e2 h=>?_
  refine Ee (gF.mp h) λ p _=>?_
  rw [e2] at e1
  exact ⟨v,.inl (mg_of Y.X Y.g e1),λ h φ μ k1 k2=>.p (p.1.h h φ λ a o e=>⟨k1 _ _ (Y.X _ _ e),k2 _ _ (Y.X _ _ e)⟩)⟩
 | _=>exact bd h
theorem zEq (Y:C.Good)(hb:∀ y:aN,y≠"__name__"->C.mb y=fX y)(h:zAF C.K T=true):TOk C T:=by
 refine Ea (zU h) λ h h4=>?_
 refine Ea (zU h) λ h h3=>?_
 refine Ea (zU h) λ h1 h2=>?_
 have h1:=of_decide_eq_true h1
 have h2:=bR.mp h2
 have h3:=bR.mp h3
 have h4:=eq_of_beq h4
 have nth:∀ (k:Nat),k<6->T.names[k]?=(["append","get","setdefault","sort","extend","count"]:List aN)[k]?:=λ k hk=>by
  (refine rwS h4 ?_;erw [dA hk];rfl)
 exact ⟨h1,λ a m=>Va (h2 a m),λ g x d e=>W5 Y hb (h3 _ (aS.mpr ⟨g,e⟩)),nth 0 (by decide),nth 1 (by decide),nth 2 (by decide),nth 3 (by decide),nth 4 (by decide),nth 5 (by decide)⟩
theorem wz :Rel C T C.h₀ (λ a=>∃ o,C.h₀.get? a=some o) [] [] :=
 ⟨λ _ _ e=>e,λ _ o e=>⟨o,e⟩,λ _ f=>f,rfl,λ _ _ _ e _=>nn e,λ _ _ e=>nn e,λ _ _ e _=>nn e,λ _ _ _ e _=>nn e⟩
theorem Un {h:aR}{φ:ah->Prop}:∀ {vs:List af} {ns:List Int},cM vs ns->VPs h φ vs (ns.map .int)
 | _,_,.nil=>.nil
 | _,_,.cons _ _ r=>.cons (.int _ _) (Un r)
theorem xB:Room 60 callerA:=⟨rfl,by decide +kernel,by decide +kernel⟩
theorem wC {h:aR}{φ:ah->Prop}:Out callerA h φ μ:=⟨[],rfl,λ _ m=>nomatch m⟩
section
variable {C:Cx}{T:Tabs}{n:Nat}{σ:zA}{ds:List D}{Q:D->zA->Prop}
theorem zBx {n:Nat}(r:Room (n + 1) A)(a:ah)(vs:List af):Room n (A.under (.builtin "type.__call__" ⟨.ref a::vs,[]⟩)):=by
 have hw:(dv "type.__call__" ⟨.ref a::vs,[]⟩).weight<=1:=by
  have:(dv "type.__call__" ⟨.ref a::vs,[]⟩).weight=(dv "type.__call__" ⟨.ref a::vs,[]⟩).weight:=rfl
  first | (exact dk (by kernel_rfl)) | (exact Nat.le_of_eq_of_le (show _=0 by kernel_rfl) (bO _))
 have hu:(dv "type.__call__" ⟨.ref a::vs,[]⟩).cUnits=1:=by kernel_rfl
 refine ⟨r.hd,?_,?_⟩
 ·have e:(A.under (.builtin "type.__call__" ⟨.ref a::vs,[]⟩)).depth=A.depth + (dv "type.__call__" ⟨.ref a::vs,[]⟩).weight:=rfl
  have:=r.depth;exact lin [(A.under (dv "type.__call__" {pos:=eI a::vs})).depth,n,pF,(dv "type.__call__" {pos:=eI a::vs}).weight,A.depth] [] (.a (.a (.a (.v 0) (.m 2 (.v 1))) (.k 10)) (.k 1)) (.v 2) [(1,.l (.v 3) (.k 1)),(1,.e (.v 0) (.a (.v 4) (.v 3))),(1,.l (.a (.a (.a (.v 4) (.m 2 (.a (.v 1) (.k 1)))) (.k 10)) (.k 1)) (.v 2))] tT9 hw e this
 ·have e:(A.under (.builtin "type.__call__" ⟨.ref a::vs,[]⟩)).units=A.units + (dv "type.__call__" ⟨.ref a::vs,[]⟩).cUnits:=rfl
  have:=r.units;exact lin [(A.under (dv "type.__call__" {pos:=eI a::vs})).units,n,cLine,(dv "type.__call__" {pos:=eI a::vs}).cUnits,A.units] [] (.a (.a (.a (.v 0) (.m 20 (.v 1))) (.k 400)) (.k 1)) (.v 2) [(1,.e (.v 3) (.k 1)),(1,.e (.v 0) (.a (.v 4) (.v 3))),(1,.l (.a (.a (.a (.v 4) (.m 20 (.a (.v 1) (.k 1)))) (.k 400)) (.k 1)) (.v 2))] tT9 hu e this
theorem Out.builtin {h:aR}{φ:ah->Prop}(o:Out A h φ μ)(a:ah)(vs:List af):Out (A.under (.builtin "type.__call__" ⟨.ref a::vs,[]⟩)) h φ μ:=by
 refine Eea (o.h) λ fs hf k=>?_
 exact ⟨fs,by show pushEnvs [] A.frames=_;exact hf,k⟩
theorem uX {cls fI:ah}(Y:C.Good)(hT:cls∈T.classes)(hm:mG C.K cls=true)(hk:keepIn C.K (.ref cls)=true)(hi:findIn C.K (.ref cls) "__init__"=some (some (.ref fI)))(hf:typeIn C.K (.ref fI)=some (.type "function"))
  (h:SatCall C T n fI (.obj (σ.length + 1)::ds) (σ++[.sdict []]++[.inst cls σ.length]) λ d σ'=>d=.p .none/\Q (.obj (σ.length + 1)) σ'):SatCall C T (n + 1) cls ds σ Q:=by
 refine ⟨hk,λ A s φ μ vs r ou R V=>?_⟩
 obtain ⟨hp,g,d,t,os⟩:=s
 have X:=Y.X.keeps R.keep
 refine make_core (makes_of X hm) (looks_findIn X hi) (λ self=>bind_fn X self hf) (.inl rfl) ?_
 refine Eaa (Rel.pushM (s:=⟨hp,g,d,t,os⟩) R md (.sdict []) rfl λ h' e _=>⟨[],0,e,.nil⟩) λ R1 X1 m1=>?_
 refine Eaa (Rel.pushM (s:=⟨hp.push md,g,d,t,os⟩) R1 (instObj cls hp.objs.size) (.inst cls σ.length) rfl λ h' e _=>⟨hT,hp.objs.size,by erw [aB (av.mp m1).1];exact m1,e⟩) λ R2 X2 m2=>?_
 have hl:(σ++[MO.sdict []]).length=σ.length + 1:=by simp
 have hs:(hp.push md).objs.size=hp.objs.size + 1:=dJ ..
 simp only [hl,hs] at m2 R2 X2
 refine fm (h.code _ ⟨(hp.push md).push (instObj cls hp.objs.size),g,d,t,os⟩ φ _ (.ref (hp.objs.size + 1)::vs) (zBx r _ _) ((ou.ext (X1.trans X2)).builtin _ _) R2 (.cons (.obj m2) ((X1.trans X2).vds V))) λ res s' hr=>?_
 rcases res with e | fl
 ·exact hr.elim
 ·cases fl with
  | ret v =>
   obtain ⟨h',tk,j',sJ,d',σ',rfl,R',X',V',rfl,q⟩:=hr
   cases V'.ip.inone
   exact ⟨rfl,h',tk,j',sJ,_,σ',rfl,R',(X1.trans X2).slack.trans X',.obj (X'.pre _ _ m2),q⟩
  | _=>exact hr.elim
end
set_option tactic.hygienic true
noncomputable def wH {α β:Type}(f:α->Option β):List α->Option (List β)
 | []=>some []
 | a::r=>(f a).bind λ b=>(wH f r).bind λ bs=>some (b::bs)
theorem VK {K:fZ}{D:ah}{cd:kK}(e:oG K D=some cd):∃ o,K.lookup D=some o/\o.data=.cls cd:=by
 unfold oG at e
 cases h:K.lookup D with
 | none=>rw [h] at e;exact nn e
 | some o =>
  rw [h] at e
  obtain ⟨c,d,da,sl⟩:=o
  cases da <;> first | exact nn e | exact ⟨_,rfl,congrArg Data.cls (so e)⟩
theorem Jj {α β:Type}{f:α->Option β}{a:α}{r:List α}{xs:List β}(h:wH f (a::r)=some xs):∃ b bs,f a=some b/\wH f r=some bs/\xs=b::bs:=by
 refine Eea (ob h) λ b h1 h2=>?_
 refine Eea (ob h2) λ bs h3 h4=>?_
 exact ⟨b,bs,h1,h3,(so h4).symm⟩
noncomputable def zAN:aL->Option aN
 | .Name x _=>some x
 | _=>none
theorem xx {e:aL}{x:aN}(h:zAN e=some x):∃ p,e=.Name x p:=by
 cases e with
 | Name y p=>obtain rfl:=so h;exact ⟨p,rfl⟩
 | _=>exact nn h
abbrev SV:=Option aN
variable {sv:SV}
noncomputable def QC (as:List aL):Option (List aN):=wH zAN as
noncomputable def zFp:Const->Bool
 | .none=>true
 | _=>false
noncomputable def UD:aL->Option SV
 | .Constant c _ _=>gd (zFp c) (some none)
 | .Name x _=>some (some x)
 | _=>none
noncomputable def zDQ (ps:List aN):SV->Bool
 | none=>true
 | some x=>ps.contains x&&x != "__debug__"
structure SupR where
 D:ah
 self:aN
 ps:List aN
 an:List aN
 attr:aN
 sv:SV
noncomputable def zAE (m:aN->Option af):SV->af
 | none=>.none
 | some x=>(m x).getD .none
theorem zFl {a b:aN}(h:(a != b)=true):(a==b)=false:=beq_eq_false_iff_ne.mpr (bne_iff_ne.mp h)
section
variable {M:Model}{A:aM}{E:af->ao->Prop}{s:ao}{env:kH}{m:aN->Option af}{pos:dD}
theorem Qu:∀ {as:List aL} {an:List aN},QC as=some an->as.all zg=true
 | [],_,_=>rfl
 | a::r,an,e=>by
  (refine Eeeaa (Jj e) λ x xs h1 h2 t7=>?_;obtain rfl:=t7)
  (refine Ee (xx h1) λ p Ao=>?_;obtain rfl:=Ao)
  exact Qu (as:=r) h2
theorem JC (hk:env.scope.kind=.function):∀ {as:List aL} {an:List aN} {Q:List af->ao->Prop},QC as=some an->(∀ x,x∈an->env.kindOf x=some .local/\(∃ v,m x=some v)/\(x==("__debug__":aN))=false)->s.heap.Ns env.locals m->Q (an.map λ x=>(m x).getD .none) s ->
  wpAny M A (spliced (backTo pos (starEach as env))) Q E s
 | [],an,Q,e,_,_,h=>by
  obtain rfl:=so e
  exact spliced_nil h
 | a::r,an,Q,e,hl,hn,h=>by
  (refine Eeeaa (Jj e) λ x l e1 hr Bu=>?_;obtain rfl:=Bu)
  (refine Ee (xx e1) λ p CW=>?_;obtain rfl:=CW)
  (refine Eaa (hl x cY) λ h1 Bt=>?_;(refine Ee (Bt) λ v h2=>?_;try clear Bt);intro h3)
  refine args_cons (g7 (er hk h1 hn h2 ?_) h3)
  refine JC hk hr (λ y hy=>hl y (bU _ hy)) hn ?_
  rw [aY,h2] at h
  exact h
theorem zBL {v:aL}{Q:af->ao->Prop}(hk:env.scope.kind=.function)(e:UD v=some sv)(hl:∀ x,sv=some x->env.kindOf x=some .local/\(∃ u,m x=some u)/\(x==("__debug__":aN))=false)(hn:s.heap.Ns env.locals m)
  (h:Q (zAE m sv) s):wpAny M A (eval v env) Q E s:=by
 cases v with
 | Name x p =>
  obtain rfl:=so e
  (refine Eaa (hl x rfl) λ h1 Bk=>?_;(refine Ee (Bk) λ u h2=>?_;try clear Bk);intro h3)
  refine g7 (er hk h1 hn h2 ?_) h3
  have h:Q ((m x).getD .none) s:=h
  rw [h2] at h
  exact h
 | Constant c k p =>
  refine Ea (og e) λ h1 h2=>?_
  obtain rfl:=so h2
  cases c with
  | none=>exact nz h
  | _=>exact bd h1
 | _=>exact nn e
end
section
variable {C:Cx}{n:Nat}{A:aM}{s:ao}{R:ls->ao->Prop}
structure SupF (K:fZ)(file:aN)(f D:ah)(sf:aN)(ps an:List aN)(attr:aN)(sv:SV)(fd:dK)(p0 p1 ap cp ep q0 q1 q2:dD)(as:List aL)(v:aL)(cc cda:ah)(vsC:Array af)(tf:iv)(cdD:kK):Prop where
 at_:∃ oc od sl,K.lookup f=some ⟨oc,od,.func fd,sl⟩
 prm:ye fd.params=some (sf::ps)
 body:fd.body=.stmts [.Expr (.Call (.Attribute (.Call (.Name "super" p0) [] [] p1) "__init__" ap) as [] cp) ep,.Assign [.Attribute (.Name sf q0) attr q1] v q2]
 clo:fd.closure=[(("__class__":aN),cc)]
 code:fd.code=.ref cda
 han:QC as=some an
 hsv:UD v=some sv
 hcda:∃ oc od sl,K.lookup cda=some ⟨oc,od,.fields vsC,sl⟩
 file:vsC[2]?=some (.str file tf)
 cell:∃ oc od sl,K.lookup cc=some ⟨oc,od,.cell (some (.ref D)),sl⟩
 cls:oG K D=some cdD
 c6:pO K fd.code fd.qualname=true
 c7:fd.globals=cv
 c8:fd.builtins=fH
 c9:fd.defaults=.none
 c10:fd.scope.isCoroutine=false
 c11:fd.scope.isGenerator=false
 c12:fd.scope.kind=.function
 c13:∀ y,y∈fd.scope.names->¬ y.2=.cell
 c14:∀ y,y∈sf::ps->fd.scope.names.lookup y=some .local
 c15:(sf::ps).Nodup
 c16:∀ y,y∈an->y∈sf::ps/\¬ y="__debug__"
 c17:zDQ (sf::ps) sv=true
 c18:¬ sf="__debug__"
 c21:(ap.endLine==cp.line)=true
 c22:as.length<30
 c19:fd.scope.names.lookup ("super":aN)=some .globalImplicit
 c20:fd.scope.names.lookup ("__class__":aN)=some .free
structure SupS where
 fd:dK
 p0:dD
 p1:dD
 ap:dD
 cp:dD
 ep:dD
 q0:dD
 q1:dD
 q2:dD
 as:List aL
 v:aL
 cc:ah
 cda:ah
 vsC:Array af
 tf:iv
 cdD:kK
def Xf (K:fZ)(file:aN)(f:ah)(r:SupR):Prop:=∃ S:SupS,SupF K file f r.D r.self r.ps r.an r.attr r.sv S.fd S.p0 S.p1 S.ap S.cp S.ep S.q0 S.q1 S.q2 S.as S.v S.cc S.cda S.vsC S.tf S.cdD
theorem VY (Y:C.Good){f x c D:ah}{ox:eV}{tR:aN}{an:List aN}{p0 p1 ap cp ep q0 q1 q2:dD}{as:List aL}{v:aL}{cc cda:ah}{vsC:Array af}{tf:iv}{cdD:kK}{vs:List af}(S:SupF C.K file f D tR ps an attr sv fd p0 p1 ap cp ep q0 q1 q2 as v cc cda vsC tf cdD)(hfile:((C.prog.main.file:aN)==file)=true)(htop:(C.prog.main.scope.names.lookup ("super":aN)).isSome=false)
  (hg:C.mg "super"=none) (hb:C.mb "super"=some (.type "super")) (hA:Room (n + 1) A) (kp:∀ b o,C.h₀.get? b=some o->s.heap.get? b=some o) (D0:vs.length=ps.length) (hx:s.heap.get? x=some ox) (I2:ox.cls=.ref c) (IK:notCls ox=true) (t8:mroIn C.K c (.ref D)=some true)
  (H:∀ (A':aM) (s5:aR) (tk:Nat) (so L:ah) (m:aN->Option af) (pl:kI Bool),m=(λ y=>((tR::ps).zip (.ref x::vs)).reverse.lookup y)->Room n A'->(∀ φ μ,Out A s.heap φ μ->L∉μ->¬ φ L->Out A' s5 φ μ/\∀ b,b∈frA A'->b=L∨b∈frA A)->(∀ b o,s.heap.get? b=some o->s5.get? b=some o)->s5.get? so=some (ks_superObj D x c)->s.heap.get? L=none->s5.Ns L m ->
   wpAny (model C.prog C.w) A' (o0 (.ref so) "__init__" pl) (λ fx sP=>sP.heap.Ns L m/\(∃ k,(k=ry∨k=pS∨k=oH)/\Looks (model C.prog C.w) sP.heap (keeperOf fx.1) k) /\
    wpAny (model C.prog C.w) A' (call fx.1 (fx.2++an.map λ y=>(m y).getD .none)) (λ _ tI=>tI.heap.Ns L m/\wpAny (model C.prog C.w) A' (setAttr (.ref x) attr (zAE m sv)) (λ _ Ay=>R (.ok (.ret .none)) Ay) NoE tI) NoE sP) NoE {s with heap:=s5,toks:=tk}) :
  dZ (model C.prog C.w) A (.call (.ref f) ⟨.ref x::vs,[]⟩) R s:=by
 have X:=Y.X.keeps kp
 refine Eeee (S.at_) λ oc od sl hf=>?_
 refine Eeee (S.hcda) λ La Lq Le hcda=>?_
 refine Eeee (S.cell) λ Lr Lh Ld Kn=>?_
 have CS:=S.prm
 have E':=S.body
 have Gj:=S.clo
 have Ey:=S.code
 have han:=S.han
 have hsv:=S.hsv
 have HF:=S.file
 have ER:=S.cls
 refine Eea (Yv CS) λ Ik BX BP=>?_
 have AA:(eI x::vs).length=(tR::ps).length:=by simp [D0]
 have EY:m5 fd ⟨.ref x::vs,[]⟩=pure ((tR::ps).zip (.ref x::vs)):=j3 BX S.c9 BP S.c15 _ AA
 obtain ⟨ar,BI,rfl,Hv⟩:∃ ar BI,Ik=ar::BI/\ar.arg=tR:=by
  cases Ik with
  | nil=>simp at BP
  | cons ar BI=>exact ⟨ar,BI,rfl,by simpa using (lL BP).1⟩
 obtain ⟨m,hm⟩:∃ m:aN->Option af,m=λ y=>((tR::ps).zip (.ref x::vs)).reverse.lookup y:=⟨_,rfl⟩
 have Ih:((((tR::ps).zip (eI x::vs)).reverse).map (·.1)).Nodup:=by
  (erw [List.map_reverse];erw [o4 (dk AA.symm)])
  exact List.pairwise_reverse.mpr (S.c15.imp λ h=>h.symm)
 have Fi:∀ y,y∈tR::ps->∃ v,m y=some v:=λ y hy=>by
  refine Ee (ui S.c15 AA y hy) λ v hv=>?_
  exact ⟨v,by erw [hm];exact qH Ih (fJ.mpr (mem_of_lookup hv))⟩
 have C':m tR=some (.ref x):=by
  erw [hm];exact qH Ih (fJ.mpr (by simp))
 refine ks_codeAny_call_defAt (fd:=fd) (binds:=(tR::ps).zip (.ref x::vs)) (by have:=hA.depth;exact lin [_,_,_] [] (.a (.v 0) (.k 1)) (.v 1) [(1,.l (.a (.a (.a (.v 0) (.m 2 (.a (.v 2) (.k 1)))) (.k 10)) (.k 1)) (.v 1))] tT9 this) (X _ _ hf) rfl (Y.lim.keeps kp) (codeRec_of X S.c6) E' (.of_eq EY) (λ y hy=>S.c13 y hy) (λ y hy=>S.c14 y.1 (k9 hy).1) (λ h₀ DD Eh=>?_) S.c10 S.c11 S.c12
 rw [<- hm] at DD
 have X0:=X.keeps Eh
 have rm:=Yq (env:=callEnv fd s.heap.objs.size f) hA
 generalize tX:callEnv fd s.heap.objs.size f=env at rm ⊢
 have eL:env.locals=s.heap.objs.size:=by refine rwS tX ?_;rfl
 have eS:env.scope=fd.scope:=by refine rwS tX ?_;rfl
 have eC:env.cells=[(("__class__":aN),cc)]:=by refine rwS tX ?_;exact Gj
 have eG:env.globals=cv:=by refine rwS tX ?_;exact S.c7
 have eB:env.builtins=fH:=by refine rwS tX ?_;exact S.c8
 have eF:env.func=some f:=by refine rwS tX ?_;rfl
 have eD:env.code=.ref cda:=by refine rwS tX ?_;exact Ey
 have hk:env.scope.kind=.function:=by erw [eS];exact S.c12
 have Ir:env.frame=some s.heap.objs.size:=by refine rwS tX ?_;rfl
 have hOut:∀ (h':aR) (φ:ah->Prop) (μ:List ah),(∀ b o,s.heap.get? b=some o->h'.get? b=some o)->h'.Ns s.heap.objs.size m->Out A s.heap φ μ->s.heap.objs.size∉μ->¬ φ s.heap.objs.size->Out (A.deeper env) h' φ μ/\∀ b,b∈frA (A.deeper env)->b=s.heap.objs.size∨b∈frA A:=λ h' φ μ kk CP ou Hc FT=>by
  refine Eea (ou.h) λ fs tN k'=>?_
  refine ⟨⟨env::fs,iH tN,λ v hv=>?_⟩,λ b hb=>?_⟩
  ·rcases aJ.mp hv with rfl | hv
   ·(refine Eeeeaa (CP) λ o es ep ho hd _=>?_;try clear CP)
    exact ⟨by erw [hk];decide,_,o,Ir,ho,⟨es,ep,hd⟩,Hc,FT⟩
   ·(refine Ea (k' v hv) λ a1 Aw=>?_;refine Eeeaa Aw λ L o a2 a3 a4=>?_)
    exact ⟨a1,L,o,a2,kk _ _ a3,a4⟩
  ·rw [jb (iH tN)] at hb
   refine Eea (cx.mp hb) λ v hv hL=>?_
   rcases aJ.mp hv with rfl | hv
   ·rw [Ir] at hL;exact .inl (so hL).symm
   ·exact .inr (by erw [jb tN];exact cx.mpr ⟨v,hv,hL⟩)
 have HH:env.kindOf "super"=some .globalImplicit:=by unfold hJ;erw [eS];exact S.c19
 have Fx:env.kindOf "__class__"=some .free:=by unfold hJ;erw [eS];exact S.c20
 have CT:∀ y,y∈tR::ps->env.kindOf y=some .local:=λ y hy=>by unfold hJ;erw [eS];exact S.c14 y hy
 obtain ⟨oD,HR,Ij⟩:∃ oD,h₀.get? D=some oD/\oD.data=.cls cdD:=by
  refine Eea (VK ER) λ o ho hd=>?_
  exact ⟨o,X0 _ _ ho,hd⟩
 refine ks_wpAt_mono (E:=NoE) ?_ (λ _ _ z=>z) (λ _ _ z=>z.elim)
 have tu:=Qu han
 have Cw:=jT (pos:=cp) (env:=env) tu S.c22
 have Au:eR true (.Call (.Name "super" p0) [] [] p1) env ap cp=pure cp:=by unfold eR;simp [S.c21]
 have he:eval (.Call (.Attribute (.Call (.Name "super" p0) [] [] p1) "__init__" ap) as [] cp) env=(do
   let ov<-rj (.Call (.Name "super" p0) [] [] p1) "__init__" env (eval (.Call (.Name "super" p0) [] [] p1) env)
   fN ap.atName
   let (f,first)<-cR [ov] (calleeOf true (.Call (.Name "super" p0) [] [] p1) env ov "__init__")
   lC cp f first (backTo cp (starEach as env)) []):=by
  erw [rk]
  unfold methodCall
  (erw [Cw];erw [Au])
  rfl
 refine n6 (ks_wpAt_Expr_any (ks_wpAt_MethodCall ?_ he) ?_ ?_)
 ·refine ks_wpAt_super_base HH Fx (by decide) eF (X0 _ _ hf) rfl (by erw [BX];rfl) eD (X0 _ _ hcda) rfl HF hfile htop ?_
  refine ks_loadName_global hk HH (nO (by erw [eG];exact (Y.g.keeps kp).keeps Eh) hg (by erw [eB];exact (Y.b.keeps kp).keeps Eh) hb ⟨rfl,?_⟩)
  refine ny hk Fx (by erw [eC];rfl) ⟨_,X0 _ _ Kn,rfl⟩ ?_
  erw [Hv]
  refine er hk (CT _ cY) (by erw [eL];exact DD) C' ?_
  refine ks_wpAny_isType_cls HR Ij ⟨rfl,?_⟩
  refine ks_wpAny_call_super HR Ij (Eh _ _ hx) I2 (λ c e=>?_) (looks_mroIn X0 t8) (λ h' e k=>?_)
  ·have:=IK
   unfold notCls at this
   rw [e] at this
   exact bd this
  ·refine ay (H _ h' _ h₀.objs.size s.heap.objs.size m _ hm rm (λ φ μ ou Hc FT=>hOut _ φ μ (λ b o e=>k b o (Eh b o e)) (DD.keeps k) ou Hc FT) (λ b o e=>k b o (Eh b o e)) e (zj _) (DD.keeps k)) (λ fx sP hx=>?_) λ _ _ z=>z
   (refine Eaa (hx) λ n2 k2 EB=>?_;try clear hx)
   refine callWith_of (P:=λ h=>∃ k,(k=ry∨k=pS∨k=oH)/\Looks (model C.prog C.w) h (keeperOf fx.1) k) (by show ((backTo cp (starEach as env)).any (·.1) || false)=false;erw [qA tu];rfl) (λ _ z=>z) (YE (qA tu) ?_)
   refine JC hk han (λ y hy=>?_) (by erw [eL];exact n2) ⟨k2,?_⟩
   ·refine Ea (S.c16 y hy) λ h1 h2=>?_
    have h1:y∈tR::ps:=by simpa using h1
    exact ⟨CT y h1,Fi y h1,by simpa using h2⟩
   ·refine ay EB (λ _ tI h3=>?_) λ _ _ z=>z
    (refine Ea (h3) λ n3 FX=>?_;try clear h3)
    refine n6 (ks_wpAt_Assign_Attr ?_ ?_)
    ·refine rl (zBL hk hsv (λ y hy=>?_) (by erw [eL];exact n3) ?_)
     ·subst hy
      refine Ea (zU S.c17) λ d1 d2=>?_
      have h1:y∈tR::ps:=mN.mp d1
      exact ⟨CT y h1,Fi y h1,zFl d2⟩
     ·refine g7 (er hk (CT _ cY) (by erw [eL];exact n3) C' ?_) (beq_eq_false_iff_ne.mpr S.c18)
      exact ay FX (λ _ Ay h4=>rl (am h4)) λ _ _ z=>z
    ·cases v <;> first | rfl | (simp [UD] at hsv)
 ·unfold nh;erw [hk];rfl
 ·rfl
end
set_option tactic.hygienic false
section
variable {C:Cx}{T:Tabs}{n:Nat}{σ:zA}{Q:D->zA->Prop}
structure SupX (C:Cx)(file:aN):Prop where
 hfile:((C.prog.main.file:aN)==file)=true
 htop:(C.prog.main.scope.names.lookup ("super":aN)).isSome=false
 hg:C.mg "super"=none
 hb:C.mb "super"=some (.type "super")
 ho:pa C.K cStatics "thirdparty.any"=some none
theorem VG {f f2 D cls:ah}{self:aN}{i j k:Nat}{I8:List (Nat×Mine.Internal.D)}(Y:C.Good)(TT:TOk C T)(SX:SupX C file)(KL:keepIn C.K (.ref f)=true)(hB:Xf C.K file f ⟨D,self,[],[],attr,none⟩)(hk:T.names[k]?=some attr)(DJ:zY cls k T.meth=none)(t8:mroIn C.K cls (.ref D)=some true)
  (Ba:i9 C.K cls D "__init__"=some (some (.ref f2))) (ht:typeIn C.K (.ref f2)=some (.type "function")) (Ix:fnIn C.K f2=true) (hi:σ[i]?=some (.inst cls j)) (hj:σ[j]?=some (.sdict I8))
  (h:SatCall C T n f2 [.obj i] σ λ _ σ'=>∃ fs,σ'[i]?=some (.inst cls j)/\σ'[j]?=some (.sdict fs)/\fs.length<64/\Q (.p .none) (σ'.set j (.sdict (put k (.p .none) fs)))):SatCall C T (n + 1) f [.obj i] σ Q:=by
 refine ⟨KL,λ A s φ μ vs r ou R V=>?_⟩
 refine V.mcons λ v0 vr V0 V1=>?_
 cases V1.inil
 refine V0.mobj λ x ha=>?_
 (refine Ea (Ya R ha hi hj) λ hc tM=>?_;refine Eeeeaaa tM λ dx ds nn CJ hd t II=>?_)
 refine Ee hB λ S hB=>?_
 refine VY Y hB SX.hfile SX.htop SX.hg SX.hb r R.keep rfl II.at_ rfl II.no t8 λ A' s5 tk so L m pl hm rA oA kk Kr hL DD=>?_
 refine Ea (R.grow kk) λ R1 X1=>?_
 have X:=Y.X.keeps R1.keep
 obtain ⟨hp,g,d,t,os⟩:=s
 cases CG:oG C.K cls with
 | none=>unfold i9 at Ba;rw [CG] at Ba;cases Ba
 | some cd =>
  unfold i9 at Ba
  rw [CG] at Ba
  obtain ⟨of,Kb,Gm⟩:∃ of,s5.get? f2=some of/\of.cls=.type "function":=by
   have Bs:(C.K.lookup f2).map (·.cls)=some (.type "function"):=ht
   cases z:C.K.lookup f2 with
   | none=>rw [z] at Bs;cases Bs
   | some of=>rw [z] at Bs;exact ⟨of,X _ _ z,hO Bs⟩
  have IQ:InstAt s5 x (instObj cls dx) cls (some (dictOf ds nn)):=⟨kk _ _ II.at_,rfl,rfl,kk _ _ hd⟩
  refine ks_wpAny_getMethod_super Kr (looks_opaque X SX.ho) (l₀:=cd.mro) ?_ rfl X Ba Kb Gm (ks_ne X IQ CG) (by decide) ?_
  ·exact λ A Q E s k q=>aa ((looks_clsIn X CG) A _ E s k (am q))
  ·have gq:(s5.push {cls:=.type "method",data:=.fields #[.ref f2,.ref x]}).get? s5.objs.size=some (methodObj (.ref f2) (.ref x)):=Heap.get?_push_at rfl rfl
   have kq:∀ b o,s5.get? b=some o->(s5.push {cls:=.type "method",data:=.fields #[.ref f2,.ref x]}).get? b=some o:=λ b o e=>aq _ e
   refine Ea (Rel.grow (s:=⟨s5,g,d,tk,os⟩) R1 kq) λ R2 X2=>?_
   refine ⟨DD.keeps kq,keeps_M Ix _ ⟨gq,X.keeps kq⟩,?_⟩
   refine nK (ks_codeAny_call_bound gq (fm (h.code A' ⟨s5.push {cls:=.type "method",data:=.fields #[.ref f2,.ref x]},g,d,tk + 1,os⟩ φ μ [.ref x] rA ((oA φ μ ou (R.notin_none hL) (R.notfrz_none hL)).1.ext X2) R2 (.cons (.obj ha) .nil)) λ res s' hr=>?_))
   rcases res with e | fl
   ·exact hr.elim
   ·cases fl with
    | ret v =>
     obtain ⟨h',A9,j',sJ,d',σ',rfl,R',X',V',fs,e1,e2,e3,q⟩:=hr
     have Ff:L∉μ:=R.notin_none hL
     have oB:=(oA φ μ ou Ff (R.notfrz_none hL)).2
     refine ⟨JZ (DD.keeps kq) λ o ho=>X'.oth L o ho Ff (λ h=>nomatch h),?_⟩
     refine j2 Y TT hk R' (X'.pre _ _ ha) e1 e2 (.p .none) DJ e3 λ Be Gl E7 DF=>?_
     exact ⟨Be,Gl,j',sJ,.p .none,_,rfl,E7,(((X1.trans X2).slack (fr:=frA A)).stepF X' (λ _ m=>nomatch m) λ b m=>(oB b m).imp (λ (e:b=L)=>e▸hL) id).trans DF.slack,.p .none,q⟩
    | _=>exact hr.elim
end
end Mine.Internal
namespace Mine.Internal
open PySem
set_option tactic.hygienic false
noncomputable def zAb:List aN:=["append","get","setdefault","sort","extend","count","vars","tolds","goal","shown","flat","made","partial","cells","spot","what","new_var","post","size","domain_of"]
noncomputable def Vg:List aN:=["once","bounds","var_of","vars_of","note","made_number","extreme","require_some","row","row_truth","told_truth","all_of","any_of","require_row","times","stand_in","element","within","chosen_of","either"]
noncomputable def zC3:List aN:=zAb++Vg
noncomputable def zBA:List (aN×D):=[("len",.bi .len),("isinstance",.bi .isinst),("abs",.bi .abs),("max",.bi .max),("min",.bi .min),("sum",.bi .sum),("sorted",.bi .sorted),("zip",.bi .zip),("tuple",.bi .tuple),("list",.bi .list),("int",.bi .int),("bool",.bi .bool),("dict",.bi .dict),("set",.bi .set),("range",.bi .range)]
noncomputable def zCu:List (aN×D):=[("MOST_SHOWN",.p (.int 1000)),("range_of",.fn 28),("least",.fn 49),("greatest",.fn 56),("within_figures",.fn 200),("is_made",.fn 209),("sum_of",.fn 228),("plus",.fn 233),("Functions",.fn 510),("Flat",.fn 182),("_law_next",.fn 519),("TRUTHS",.p (.tuple [.tuple [.int 0,.int 1]]))]
noncomputable def zCR:List (aN×D):=[("put_behind",.fn 35),("from_values",.fn 42),("is_array",.fn 193),("is_truth",.fn 216),("is_known",.fn 221),("contrary",.fn 240),("common_of",.fn 247),("_law_things",.fn 526),("_law_is_truth",.fn 533),("_law_worth",.fn 538),("_law_about",.fn 545),("_law_holds",.fn 550),("_law_ways",.fn 555),("_law_index",.fn 562),("_law_chosen",.fn 569)]
noncomputable def zEk:List ((ah×Nat)×ah):=[((182,16),158),((182,17),165),((182,18),172),((182,19),179),((510,20),268),((510,21),275),((510,22),280),((510,23),285),((510,28),297),((510,29),302),((510,30),309),((510,31),314),((510,32),319),((510,27),331),((510,33),338),((510,24),368),((510,25),375),((510,34),380),((510,35),401),((510,36),420),((510,37),425),((510,38),430),((510,39),437),((510,26),415)]
noncomputable def T1:Tabs where
 glob:=zBA++zCu++zCR
 names:=zC3
 meth:=zEk
 classes:=[182,510]
noncomputable def Z1:TS:=⟨⟨[(14,12),(47,20),(48,21),(179,15),(380,11),(384,16),(403,85),(409,11),(427,55),(430,21)],[(108,20)]⟩,[390]⟩
set_option tactic.hygienic true
noncomputable def yY:List St:=[(.ret (.ite (.cmp (.nm 0) .LtE (.nm 1)) (.tup [(.tup [(.nm 0),(.nm 1)])]) (.tup [])))]
noncomputable def QG:List St:=[(.ite (.and [(.cmp (.call false (.gl 0) [(.nm 0)]) .Gt (.c (.int (0)))),(.cmp (.nm 1) .LtE (.bin .Add (.sub (.sub (.nm 0) (.neg (.c (.int (1))))) (.c (.int (1)))) (.c (.int (1)))))]) [(.ite (.cmp (.nm 2) .Gt (.sub (.sub (.nm 0) (.neg (.c (.int (1))))) (.c (.int (1))))) [(.asg (.sub (.nm 0) (.neg (.c (.int (1))))) (.tup [(.sub (.sub (.nm 0) (.neg (.c (.int (1))))) (.c (.int (0)))),(.nm 2)]))] [])] [(.expr (.meth (.nm 0) 0 [(.tup [(.nm 1),(.nm 2)])]))])]
noncomputable def qh:List St:=[(.asg (.pt (.nm 1)) (.lst true [])),(.for (.nm 2) (.call false (.gl 6) [(.nm 0)]) [(.expr (.call false (.gl 27) [(.nm 1),(.nm 2),(.nm 2)]))]),(.ret (.call false (.gl 8) [(.nm 1)]))]
noncomputable def Je:List St:=[(.ret (.sub (.sub (.nm 0) (.c (.int (0)))) (.c (.int (0)))))]
noncomputable def yJ:List St:=[(.ret (.sub (.sub (.nm 0) (.neg (.c (.int (1))))) (.c (.int (1)))))]
noncomputable def yH:List St:=[(.ret (.and [(.call false (.gl 1) [(.nm 0),(.gl 8)]),(.cmp (.call false (.gl 0) [(.nm 0)]) .Eq (.c (.int (2)))),(.call false (.gl 1) [(.sub (.nm 0) (.c (.int (1)))),(.gl 9)])]))]
noncomputable def Z3:List St:=[(.ite (.cmp (.call false (.gl 2) [(.nm 0)]) .GtE (.bin .Pow (.c (.int (10))) (.gl 15))) [.raise] []),(.ret (.nm 0))]
noncomputable def qa:List St:=[(.ret (.and [(.call false (.gl 1) [(.nm 0),(.gl 8)]),(.cmp (.call false (.gl 0) [(.nm 0)]) .Eq (.c (.int (3)))),(.cmp (.sub (.nm 0) (.c (.int (0)))) .Eq (.nm 1))]))]
noncomputable def Q5:List St:=[(.ret (.or [(.call false (.gl 1) [(.nm 0),(.gl 11)]),(.call false (.gl 20) [(.nm 0),(.c (.str "bit"))])]))]
noncomputable def yO:List St:=[(.ite (.call false (.gl 29) [(.nm 0)]) [(.ret (.cmp (.comp false 2 (.nm 2) (.nm 2) (.sub (.nm 0) (.c (.int (1)))) [(.not (.call false (.gl 31) [(.nm 2)]))] []) .Eq (.lst false [])))] []),(.ret (.and [(.not (.call false (.gl 20) [(.nm 0),(.c (.str "sum"))])),(.not (.call false (.gl 20) [(.nm 0),(.c (.str "bit"))]))]))]
noncomputable def jL:List St:=[(.ite (.call false (.gl 20) [(.nm 0),(.c (.str "sum"))]) [(.ret (.nm 0))] []),(.ite (.not (.call false (.gl 20) [(.nm 0),(.c (.str "bit"))])) [(.ret (.tup [(.c (.str "sum")),(.tup []),(.call false (.gl 10) [(.nm 0)])]))] []),(.ret (.ite (.sub (.nm 0) (.c (.int (2)))) (.tup [(.c (.str "sum")),(.tup [(.tup [(.sub (.nm 0) (.c (.int (1)))),(.c (.int (1)))])]),(.c (.int (0)))]) (.tup [(.c (.str "sum")),(.tup [(.tup [(.sub (.nm 0) (.c (.int (1)))),(.neg (.c (.int (1))))])]),(.c (.int (1)))])))]
noncomputable def UY:List St:=[(.asg (.tup [(.pt (.nm 0)),(.pt (.nm 1))]) (.tup [(.call false (.gl 21) [(.nm 0)]),(.call false (.gl 21) [(.nm 1)])])),(.asg (.tup [(.pt (.nm 3)),(.pt (.nm 4))]) (.tup [(.call false (.gl 12) [(.sub (.nm 0) (.c (.int (1))))]),(.call false (.gl 19) [(.bin .Add (.sub (.nm 0) (.c (.int (2)))) (.bin .Mult (.nm 2) (.sub (.nm 1) (.c (.int (2))))))])])),(.for (.tup [(.nm 5),(.nm 6)]) (.sub (.nm 1) (.c (.int (1)))) [(.asg (.sub (.nm 3) (.nm 5)) (.call false (.gl 19) [(.bin .Add (.meth (.nm 3) 1 [(.nm 5),(.c (.int (0)))]) (.bin .Mult (.nm 2) (.nm 6)))]))]),(.asg (.pt (.nm 7)) (.call false (.gl 8) [(.comp false 2 (.tup [(.nm 9),(.sub (.nm 3) (.nm 9))]) (.nm 9) (.call false (.gl 6) [(.nm 3)]) [(.cmp (.sub (.nm 3) (.nm 9)) .NotEq (.c (.int (0))))] [])])),(.ret (.ite (.cmp (.nm 7) .NotEq (.tup [])) (.tup [(.c (.str "sum")),(.nm 7),(.nm 4)]) (.nm 4)))]
noncomputable def yG:List St:=[(.ret (.ite (.call false (.gl 1) [(.nm 0),(.gl 11)]) (.not (.nm 0)) (.tup [(.c (.str "bit")),(.sub (.nm 0) (.c (.int (1)))),(.not (.sub (.nm 0) (.c (.int (2)))))])))]
noncomputable def Qb:List St:=[(.asg (.pt (.nm 2)) (.subk (.nm 0) 14)),(.asg (.subk (.nm 0) 14) (.bin .Add (.nm 2) (.c (.int (1))))),(.ret (.bin .Mod (.ite (.cmp (.nm 2) .Lt (.call false (.gl 0) [(.subk (.nm 0) 13)])) (.sub (.subk (.nm 0) 13) (.nm 2)) (.bin .Add (.bin .Add (.bin .Add (.bin .Mult (.c (.int (5))) (.nm 2)) (.bin .FloorDiv (.nm 2) (.c (.int (3))))) (.c (.int (1)))) (.call false (.gl 0) [(.subk (.nm 0) 13)]))) (.nm 1)))]
noncomputable def qe:List St:=[(.ret (.lst false [(.tup [(.tup [(.c (.str "sum")),(.tup [(.tup [(.c (.int (0))),(.c (.int (1)))])]),(.c (.int (0)))]),(.tup [(.c (.int (1))),(.c (.int (0))),(.c (.int (0))),(.c (.int (0)))])]),(.tup [(.tup [(.c (.str "sum")),(.tup [(.tup [(.c (.int (1))),(.c (.int (1)))])]),(.c (.int (0)))]),(.tup [(.c (.int (0))),(.c (.int (1))),(.c (.int (0))),(.c (.int (0)))])]),(.tup [(.tup [(.c (.str "sum")),(.tup [(.tup [(.c (.int (0))),(.c (.int (1)))]),(.tup [(.c (.int (1))),(.neg (.c (.int (1))))])]),(.neg (.c (.int (1))))]),(.tup [(.c (.int (1))),(.neg (.c (.int (1)))),(.c (.int (0))),(.neg (.c (.int (1))))])]),(.tup [(.tup [(.c (.str "bit")),(.c (.int (2))),(.c (.bool true))]),(.tup [(.c (.int (0))),(.c (.int (0))),(.c (.int (1))),(.c (.int (0)))])]),(.tup [(.tup [(.c (.str "bit")),(.c (.int (2))),(.c (.bool false))]),(.tup [(.c (.int (0))),(.c (.int (0))),(.neg (.c (.int (1)))),(.c (.int (1)))])]),(.tup [(.c (.bool true)),(.tup [(.c (.int (0))),(.c (.int (0))),(.c (.int (0))),(.c (.int (1)))])]),(.tup [(.neg (.c (.int (2)))),(.tup [(.c (.int (0))),(.c (.int (0))),(.c (.int (0))),(.neg (.c (.int (2))))])]),(.tup [(.c (.int (4))),(.tup [(.c (.int (0))),(.c (.int (0))),(.c (.int (0))),(.c (.int (4)))])])]))]
noncomputable def qD:List St:=[(.ret (.or [(.call false (.gl 1) [(.nm 0),(.gl 11)]),(.and [(.call false (.gl 1) [(.nm 0),(.gl 8)]),(.cmp (.sub (.nm 0) (.c (.int (0)))) .Eq (.c (.str "bit")))])]))]
noncomputable def QP:List St:=[(.ite (.call false (.gl 1) [(.nm 0),(.gl 10)]) [(.ret (.call false (.gl 10) [(.nm 0)]))] []),(.ite (.cmp (.sub (.nm 0) (.c (.int (0)))) .Eq (.c (.str "bit"))) [(.ret (.ite (.sub (.nm 0) (.c (.int (2)))) (.sub (.nm 1) (.sub (.nm 0) (.c (.int (1))))) (.bin .Sub (.c (.int (1))) (.sub (.nm 1) (.sub (.nm 0) (.c (.int (1))))))))] []),(.ret (.bin .Add (.sub (.nm 0) (.c (.int (2)))) (.call false (.gl 5) [(.comp false 3 (.bin .Mult (.nm 4) (.sub (.nm 1) (.nm 3))) (.tup [(.nm 3),(.nm 4)]) (.sub (.nm 0) (.c (.int (1)))) [] [])])))]
noncomputable def QB:List St:=[(.asg (.pt (.nm 1)) (.sub (.nm 0) (.c (.int (0))))),(.ite (.cmp (.upto (.nm 1) (.c (.int (6)))) .Eq (.c (.str "linear"))) [(.ret (.sub (.nm 0) (.c (.int (2)))))] []),(.ite (.cmp (.nm 1) .In (.tup [(.c (.str "clause")),(.c (.str "and")),(.c (.str "or"))])) [(.ret (.bin .Add (.sub (.nm 0) (.c (.int (1)))) (.ite (.cmp (.nm 1) .Eq (.c (.str "clause"))) (.sub (.nm 0) (.c (.int (2)))) (.tup [(.sub (.nm 0) (.c (.int (2))))]))))] []),(.ret (.bin .Add (.tup [(.sub (.nm 0) (.c (.int (1)))),(.sub (.nm 0) (.c (.int (3))))]) (.ite (.cmp (.nm 1) .Eq (.c (.str "element"))) (.sub (.nm 0) (.c (.int (2)))) (.tup []))))]
noncomputable def QD:List St:=[(.asg (.pt (.nm 2)) (.sub (.nm 0) (.c (.int (0))))),(.ite (.cmp (.upto (.nm 2) (.c (.int (6)))) .Eq (.c (.str "linear"))) [(.asg (.pt (.nm 3)) (.call false (.gl 5) [(.comp false 3 (.bin .Mult (.nm 6) (.sub (.nm 1) (.nm 7))) (.tup [(.nm 6),(.nm 7)]) (.zip (.sub (.nm 0) (.c (.int (1)))) (.sub (.nm 0) (.c (.int (2))))) [] [])])),(.ret (.ite (.cmp (.nm 2) .Eq (.c (.str "linear_le"))) (.cmp (.nm 3) .LtE (.sub (.nm 0) (.c (.int (3))))) (.cmp (.cmp (.nm 3) .Eq (.sub (.nm 0) (.c (.int (3))))) .Eq (.cmp (.nm 2) .Eq (.c (.str "linear_eq"))))))] []),(.ite (.cmp (.nm 2) .Eq (.c (.str "clause"))) [(.ret (.or [(.cmp (.c (.int (1))) .In (.comp false 2 (.sub (.nm 1) (.nm 6)) (.nm 6) (.sub (.nm 0) (.c (.int (1)))) [] [])),(.cmp (.c (.int (0))) .In (.comp false 2 (.sub (.nm 1) (.nm 6)) (.nm 6) (.sub (.nm 0) (.c (.int (2)))) [] []))]))] []),(.ite (.cmp (.nm 2) .In (.tup [(.c (.str "and")),(.c (.str "or"))])) [(.asg (.pt (.nm 4)) (.comp false 2 (.sub (.nm 1) (.nm 6)) (.nm 6) (.sub (.nm 0) (.c (.int (1)))) [] [])),(.ret (.cmp (.sub (.nm 1) (.sub (.nm 0) (.c (.int (2))))) .Eq (.ite (.cmp (.nm 2) .Eq (.c (.str "and"))) (.call false (.gl 4) [(.nm 4)]) (.call false (.gl 3) [(.nm 4)]))))] []),(.asg (.pt (.nm 4)) (.ite (.cmp (.nm 2) .Eq (.c (.str "element"))) (.comp false 2 (.sub (.nm 1) (.nm 6)) (.nm 6) (.sub (.nm 0) (.c (.int (2)))) [] []) (.call false (.gl 9) [(.sub (.nm 0) (.c (.int (2))))]))),(.ret (.and [(.cmp2 (.c (.int (0))) .Lt (.sub (.nm 1) (.sub (.nm 0) (.c (.int (1))))) .LtE (.call false (.gl 0) [(.nm 4)])),(.cmp (.sub (.nm 4) (.bin .Sub (.sub (.nm 1) (.sub (.nm 0) (.c (.int (1))))) (.c (.int (1))))) .Eq (.sub (.nm 1) (.sub (.nm 0) (.c (.int (3))))))]))]
noncomputable def Qe:List St:=[(.asg (.pt (.nm 3)) (.lst true [(.nm 2)])),(.ite (.cmp (.comp false 3 (.nm 10) (.nm 9) (.tup [(.neg (.c (.int (1)))),(.c (.int (0))),(.c (.int (1))),(.c (.int (2)))]) [] [(.mk (.nm 10) (.meth (.nm 1) 1 [(.nm 9),(.lst false [])]) [(.not (.call false (.gl 38) [(.nm 10),(.nm 2)]))])]) .NotEq (.lst false [])) [(.ret (.lst false []))] []),(.for (.nm 4) (.call false (.gl 14) [(.c (.int (3))),(.meth (.nm 0) 18 [])]) [(.asg (.pt (.nm 5)) (.lst true [])),(.for (.nm 6) (.nm 3) [(.for (.nm 7) (.comp false 4 (.nm 11) (.tup [(.nm 9),(.nm 10)]) (.meth (.nm 0) 19 [(.nm 4)]) [] [(.mk (.nm 11) (.call false (.gl 14) [(.nm 9),(.bin .Add (.nm 10) (.c (.int (1))))]) [])]) [(.ite (.cmp (.comp false 2 (.nm 9) (.nm 9) (.meth (.nm 1) 1 [(.nm 4),(.lst false [])]) [(.not (.call false (.gl 38) [(.nm 9),(.bin .Add (.nm 6) (.lst false [(.nm 7)]))]))] []) .Eq (.lst false [])) [(.expr (.meth (.nm 5) 0 [(.bin .Add (.nm 6) (.lst false [(.nm 7)]))]))] [])])]),(.asg (.pt (.nm 3)) (.nm 5))]),(.retF (.nm 3))]
noncomputable def QH:List St:=[(.asg (.pt (.nm 2)) (.call false (.gl 25) [(.nm 0),(.c (.int (4)))])),(.ite (.cmp (.nm 2) .Lt (.c (.int (2)))) [(.ret (.tup [(.nm 2),(.nm 2)]))] []),(.ret (.tup [(.meth (.nm 1) 22 [(.call false (.gl 22) [(.c (.int (1))),(.tup [(.c (.str "bit")),(.c (.int (2))),(.cmp (.nm 2) .Eq (.c (.int (2))))]),(.c (.int (1)))])]),(.nm 2)]))]
noncomputable def qd:List St:=[(.asg (.tup [(.pt (.nm 3)),(.pt (.nm 4)),(.pt (.nm 5))]) (.nm 0)),(.ite (.cmp (.nm 3) .Eq (.c (.str "either"))) [(.ret (.sub (.nm 1) (.sub (.nm 5) (.ite (.or [(.cmp (.nm 4) .Eq (.c (.int (0)))),(.and [(.cmp (.nm 4) .Eq (.c (.int (1)))),(.cmp (.sub (.nm 2) (.c (.int (2)))) .Eq (.c (.int (1))))]),(.and [(.cmp (.nm 4) .Eq (.c (.int (2)))),(.cmp (.sub (.nm 2) (.c (.int (2)))) .Eq (.c (.int (0))))])]) (.c (.int (0))) (.c (.int (1)))))))] []),(.asg (.pt (.nm 6)) (.ite (.cmp (.nm 4) .Lt (.c (.int (2)))) (.sub (.nm 2) (.nm 4)) (.bin .Add (.c (.int (1))) (.ite (.cmp (.nm 4) .Eq (.c (.int (2)))) (.sub (.nm 2) (.c (.int (2)))) (.bin .Sub (.c (.int (1))) (.sub (.nm 2) (.c (.int (2))))))))),(.ret (.ite (.cmp2 (.c (.int (1))) .LtE (.nm 6) .LtE (.call false (.gl 0) [(.nm 5)])) (.sub (.nm 1) (.sub (.nm 5) (.bin .Sub (.nm 6) (.c (.int (1)))))) (.c .none)))]
noncomputable def b_law:List St:=[(.asg (.tup [(.pt (.nm 1)),(.pt (.nm 2)),(.pt (.nm 3)),(.pt (.nm 4))]) (.tup [(.dct 0 [13,14] [(.call false (.gl 9) [(.upto (.nm 0) (.c (.int (40))))]),(.c (.int (0)))]),(.call false (.gl 23) []),(.dct 1 [] []),(.lst true [])])),(.asg (.pt (.nm 5)) (.call false (.gl 25) [(.nm 1),(.c (.int (4)))])),(.expr (.meth (.attr (.nm 2) 10) 16 [(.c (.str "x")),(.sub (.tup [(.tup [(.tup [(.c (.int (1))),(.c (.int (3)))])]),(.tup [(.tup [(.c (.int (0))),(.c (.int (2)))])]),(.tup [(.tup [(.c (.int (0))),(.c (.int (1)))]),(.tup [(.c (.int (3))),(.c (.int (3)))])]),(.tup [(.tup [(.c (.int (0))),(.c (.int (0)))]),(.tup [(.c (.int (2))),(.c (.int (3)))])])]) (.nm 5))])),(.expr (.meth (.attr (.nm 2) 10) 16 [(.c (.str "y")),(.tup [(.tup [(.c (.int (1))),(.c (.int (2)))])])])),(.expr (.meth (.attr (.nm 2) 10) 16 [(.c (.str "b")),(.tup [(.tup [(.c (.int (0))),(.c (.int (1)))])])])),(.asg (.pt (.nm 6)) (.call false (.gl 34) [])),(.asg (.pt (.nm 7)) (.comp true 3 (.nm 26) (.tup [(.nm 26),(.nm 27)]) (.nm 6) [] [])),(.for (.nm 8) (.call false (.gl 14) [(.c (.int (3)))]) [(.ite (.cmp (.call false (.gl 25) [(.nm 1),(.c (.int (3)))]) .Eq (.c (.int (0)))) [(.asg (.pt (.nm 9)) (.call false (.gl 25) [(.nm 1),(.c (.int (4)))])),(.asg (.pt (.nm 10)) (.lst false [(.call false (.gl 25) [(.nm 1),(.call false (.gl 0) [(.nm 7)])]),(.call false (.gl 25) [(.nm 1),(.call false (.gl 0) [(.nm 7)])])])),(.asg (.pt (.nm 11)) (.sub (.tup [(.c (.bool true)),(.tup [(.c (.str "bit")),(.c (.int (2))),(.c (.bool true))]),(.tup [(.c (.str "bit")),(.c (.int (2))),(.c (.bool false))]),(.c (.bool false))]) (.nm 9))),(.expr (.meth (.nm 7) 0 [(.meth (.nm 2) 39 [(.nm 11),(.sub (.nm 7) (.sub (.nm 10) (.c (.int (0))))),(.sub (.nm 7) (.sub (.nm 10) (.c (.int (1)))))])])),(.expr (.meth (.nm 4) 0 [(.tup [(.c (.str "either")),(.nm 9),(.nm 10)])])),.cont] []),(.asg (.tup [(.pt (.nm 12)),(.pt (.nm 9))]) (.call false (.gl 40) [(.nm 1),(.nm 2)])),(.asg (.tup [(.pt (.nm 13)),(.pt (.nm 14))]) (.sub (.tup [(.tup [(.c (.int (0))),(.call false (.gl 0) [(.nm 7)])]),(.tup [(.c (.int (3))),(.c (.int (3)))]),(.tup [(.c (.int (5))),(.c (.int (3)))])]) (.call false (.gl 25) [(.nm 1),(.c (.int (3)))]))),(.asg (.pt (.nm 10)) (.comp false 2 (.bin .Add (.nm 13) (.call false (.gl 25) [(.nm 1),(.nm 14)])) (.nm 26) (.call false (.gl 14) [(.bin .Add (.c (.int (1))) (.call false (.gl 25) [(.nm 1),(.c (.int (4)))]))]) [] [])),(.asg (.pt (.nm 15)) (.meth (.nm 2) 38 [(.nm 12),(.comp false 2 (.sub (.nm 7) (.nm 26)) (.nm 26) (.nm 10) [] [])])),(.ite (.cmp (.call false (.gl 35) [(.nm 15)]) .NotEq (.cmp (.comp false 2 (.nm 26) (.nm 26) (.nm 10) [(.not (.call false (.gl 35) [(.sub (.nm 7) (.nm 26))]))] []) .Eq (.lst false []))) [(.ret (.c (.bool false)))] []),(.expr (.meth (.nm 7) 0 [(.nm 15)])),(.expr (.meth (.nm 4) 0 [(.tup [(.c (.str "index")),(.nm 9),(.nm 10)])]))]),(.for (.nm 16) (.attr (.attr (.nm 2) 10) 7) [(.expr (.meth (.meth (.nm 3) 2 [(.call false (.gl 3) [(.bin .Add (.tup [(.neg (.c (.int (1))))]) (.call false (.gl 37) [(.nm 16)]))]),(.lst true [])]) 0 [(.nm 16)]))]),(.for (.nm 17) (.sub (.tup [(.tup [(.c (.int (1))),(.c (.int (2))),(.c (.int (3)))]),(.tup [(.c (.int (0))),(.c (.int (1))),(.c (.int (2)))]),(.tup [(.c (.int (0))),(.c (.int (1))),(.c (.int (3)))]),(.tup [(.c (.int (0))),(.c (.int (2))),(.c (.int (3)))])]) (.nm 5)) [(.for (.tup [(.nm 18),(.nm 19)]) (.tup [(.tup [(.c (.int (1))),(.c (.int (0)))]),(.tup [(.c (.int (1))),(.c (.int (1)))]),(.tup [(.c (.int (2))),(.c (.int (0)))]),(.tup [(.c (.int (2))),(.c (.int (1)))])]) [(.asg (.pt (.nm 20)) (.comp true 6 (.bin .Add (.bin .Add (.bin .Add (.bin .Mult (.nm 27) (.nm 17)) (.bin .Mult (.nm 28) (.nm 18))) (.bin .Mult (.nm 29) (.nm 19))) (.nm 30)) (.tup [(.nm 26),(.tup [(.nm 27),(.nm 28),(.nm 29),(.nm 30)])]) (.nm 6) [] [])),(.asg (.pt (.nm 21)) (.call false (.gl 39) [(.attr (.nm 2) 10),(.nm 3),(.lst false [(.nm 17),(.nm 18),(.nm 19)])])),(.asg (.pt (.nm 22)) (.c (.bool false))),(.for (.nm 23) (.nm 4) [(.asg (.pt (.nm 24)) (.ite (.nm 22) (.c (.int (0))) (.call false (.gl 41) [(.nm 23),(.nm 20),(.lst false [(.nm 17),(.nm 18),(.nm 19)])]))),(.asg (.pt (.nm 22)) (.or [(.nm 22),(.cmp (.nm 24) .Is (.c .none))])),(.expr (.meth (.nm 20) 0 [(.nm 24)]))]),(.ite (.cmp (.call false (.gl 0) [(.nm 21)]) .NotEq (.ite (.nm 22) (.c (.int (0))) (.c (.int (1))))) [(.ret (.c (.bool false)))] []),(.ite (.and [(.not (.nm 22)),(.cmp (.comp false 2 (.call false (.gl 36) [(.nm 26),(.sub (.nm 21) (.c (.int (0))))]) (.nm 26) (.nm 7) [] []) .NotEq (.nm 20))]) [(.ret (.c (.bool false)))] [])])]),(.ret (.c (.bool true)))]
noncomputable def yx:List St:=[(.expr (.meth (.attr (.nm 0) 6) 0 [(.tup [(.nm 1),(.nm 2)])])),(.ret (.bin .Sub (.call false (.gl 0) [(.attr (.nm 0) 6)]) (.c (.int (1)))))]
noncomputable def Ui:List St:=[(.expr (.meth (.attr (.nm 0) 7) 0 [(.nm 1)]))]
noncomputable def uh:List St:=[(.ret (.call false (.gl 0) [(.attr (.nm 0) 6)]))]
noncomputable def Qi:List St:=[(.ret (.sub (.sub (.attr (.nm 0) 6) (.nm 1)) (.c (.int (1)))))]
noncomputable def jY:List St:=[(.asg (.pt (.nm 3)) (.cmp (.nm 1) .NotIn (.attr (.nm 0) 11))),(.ite (.nm 3) [(.for (.tup [(.nm 4),(.nm 5)]) (.nm 2) [(.expr (.call false (.gl 19) [(.call false (.gl 3) [(.call false (.gl 2) [(.nm 4)]),(.call false (.gl 2) [(.nm 5)])])]))]),(.asg (.sub (.attr (.nm 0) 11) (.nm 1)) (.meth (.attr (.nm 0) 10) 16 [(.fstr "#" (.meth (.attr (.nm 0) 10) 18 [])),(.nm 2)]))] []),(.ret (.tup [(.sub (.attr (.nm 0) 11) (.nm 1)),(.nm 3)]))]
noncomputable def Yy:List St:=[(.asg (.pt (.nm 2)) (.call false (.gl 21) [(.nm 1)])),(.asg (.tup [(.pt (.nm 3)),(.pt (.nm 4))]) (.tup [(.sub (.nm 2) (.c (.int (2)))),(.sub (.nm 2) (.c (.int (2))))])),(.for (.tup [(.nm 5),(.nm 6)]) (.sub (.nm 2) (.c (.int (1)))) [(.asg (.pt (.nm 7)) (.tup [(.bin .Mult (.nm 6) (.call false (.gl 17) [(.meth (.attr (.nm 0) 10) 19 [(.nm 5)])])),(.bin .Mult (.nm 6) (.call false (.gl 18) [(.meth (.attr (.nm 0) 10) 19 [(.nm 5)])]))])),(.asg (.tup [(.pt (.nm 3)),(.pt (.nm 4))]) (.tup [(.bin .Add (.nm 3) (.call false (.gl 4) [(.nm 7)])),(.bin .Add (.nm 4) (.call false (.gl 3) [(.nm 7)]))]))]),(.ret (.tup [(.nm 3),(.nm 4)]))]
noncomputable def b_var_of:List St:=[(.asg (.pt (.nm 2)) (.call false (.gl 21) [(.nm 1)])),(.ite (.and [(.cmp (.call false (.gl 0) [(.sub (.nm 2) (.c (.int (1))))]) .Eq (.c (.int (1)))),(.cmp (.sub (.sub (.sub (.nm 2) (.c (.int (1)))) (.c (.int (0)))) (.c (.int (1)))) .Eq (.c (.int (1)))),(.cmp (.sub (.nm 2) (.c (.int (2)))) .Eq (.c (.int (0))))]) [(.ret (.sub (.sub (.sub (.nm 2) (.c (.int (1)))) (.c (.int (0)))) (.c (.int (0)))))] []),(.asg (.tup [(.pt (.nm 3)),(.pt (.nm 4))]) (.meth (.nm 0) 21 [(.nm 2)])),(.asg (.tup [(.pt (.nm 5)),(.pt (.nm 6))]) (.meth (.nm 0) 20 [(.nm 2),(.call false (.gl 16) [(.nm 3),(.nm 4)])])),(.ite (.and [(.nm 6),(.cmp (.sub (.nm 2) (.c (.int (1)))) .NotEq (.tup []))]) [(.asg (.tup [(.pt (.nm 7)),(.pt (.nm 8))]) (.tup [(.bin .Add (.comp false 3 (.nm 11) (.tup [(.nm 10),(.nm 11)]) (.sub (.nm 2) (.c (.int (1)))) [] []) (.lst false [(.neg (.c (.int (1))))])),(.bin .Add (.comp false 3 (.nm 10) (.tup [(.nm 10),(.nm 11)]) (.sub (.nm 2) (.c (.int (1)))) [] []) (.lst false [(.nm 5)]))])),(.expr (.meth (.attr (.nm 0) 10) 17 [(.tup [(.c (.str "linear_eq")),(.call false (.gl 8) [(.nm 7)]),(.call false (.gl 8) [(.nm 8)]),(.neg (.sub (.nm 2) (.c (.int (2)))))])]))] []),(.ret (.nm 5))]
noncomputable def yv:List St:=[(.ret (.call false (.gl 8) [(.comp false 2 (.meth (.nm 0) 22 [(.nm 3)]) (.nm 3) (.nm 1) [] [])]))]
noncomputable def b_all_of:List St:=[(.asg (.pt (.nm 2)) (.lst true [])),(.for (.nm 3) (.nm 1) [(.ite (.or [(.cmp (.nm 3) .Eq (.c (.bool false))),(.cmp (.call false (.gl 32) [(.nm 3)]) .In (.nm 2))]) [(.ret (.c (.bool false)))] []),(.ite (.and [(.cmp (.nm 3) .NotEq (.c (.bool true))),(.cmp (.nm 3) .NotIn (.nm 2))]) [(.expr (.meth (.nm 2) 0 [(.nm 3)]))] [])]),(.ite (.cmp (.call false (.gl 0) [(.nm 2)]) .Lt (.c (.int (2)))) [(.ret (.ite (.cmp (.nm 2) .NotEq (.lst false [])) (.sub (.nm 2) (.c (.int (0)))) (.c (.bool true))))] []),(.expr (.meth (.nm 2) 3 [])),(.asg (.tup [(.pt (.nm 4)),(.pt (.nm 5))]) (.tup [(.call false (.gl 8) [(.comp false 2 (.sub (.nm 9) (.c (.int (1)))) (.nm 9) (.nm 2) [] [])]),(.comp false 2 (.sub (.nm 9) (.c (.int (2)))) (.nm 9) (.nm 2) [] [])])),(.ite (.cmp (.c (.bool true)) .NotIn (.nm 5)) [(.asg (.tup [(.pt (.nm 6)),(.pt (.nm 7))]) (.meth (.nm 0) 20 [(.tup [(.c (.str "or")),(.nm 4)]),(.gl 26)])),(.ite (.nm 7) [(.expr (.meth (.attr (.nm 0) 10) 17 [(.tup [(.c (.str "or")),(.nm 4),(.nm 6)])]))] []),(.ret (.tup [(.c (.str "bit")),(.nm 6),(.c (.bool false))]))] []),(.asg (.tup [(.pt (.nm 6)),(.pt (.nm 7))]) (.meth (.nm 0) 20 [(.tup [(.c (.str "all")),(.call false (.gl 8) [(.nm 2)])]),(.gl 26)])),(.ite (.and [(.nm 7),(.cmp (.c (.bool false)) .NotIn (.nm 5))]) [(.expr (.meth (.attr (.nm 0) 10) 17 [(.tup [(.c (.str "and")),(.nm 4),(.nm 6)])]))] [(.ite (.nm 7) [(.for (.nm 3) (.nm 2) [(.expr (.meth (.nm 0) 27 [(.lst false [(.tup [(.c (.str "bit")),(.nm 6),(.c (.bool false))]),(.nm 3)])]))]),(.expr (.meth (.nm 0) 27 [(.bin .Add (.lst false [(.tup [(.c (.str "bit")),(.nm 6),(.c (.bool true))])]) (.comp false 2 (.call false (.gl 32) [(.nm 9)]) (.nm 9) (.nm 2) [] []))]))] [])]),(.ret (.tup [(.c (.str "bit")),(.nm 6),(.c (.bool true))]))]
noncomputable def Y0:List St:=[(.ret (.call false (.gl 32) [(.meth (.nm 0) 31 [(.comp false 2 (.call false (.gl 32) [(.nm 3)]) (.nm 3) (.nm 1) [] [])])]))]
noncomputable def qR:List St:=[(.ite (.or [(.cmp (.c (.bool true)) .In (.nm 1)),(.cmp (.comp false 2 (.nm 6) (.nm 6) (.nm 1) [(.and [(.cmp (.nm 6) .NotEq (.c (.bool false))),(.cmp (.call false (.gl 32) [(.nm 6)]) .In (.nm 1))])] []) .NotEq (.lst false []))]) [.retN] []),(.asg (.pt (.nm 2)) (.call false (.gl 6) [(.comp false 2 (.nm 6) (.nm 6) (.nm 1) [(.cmp (.nm 6) .NotEq (.c (.bool false)))] [])])),(.asg (.tup [(.pt (.nm 3)),(.pt (.nm 4))]) (.tup [(.comp false 2 (.sub (.nm 6) (.c (.int (1)))) (.nm 6) (.nm 2) [(.sub (.nm 6) (.c (.int (2))))] []),(.comp false 2 (.sub (.nm 6) (.c (.int (1)))) (.nm 6) (.nm 2) [(.not (.sub (.nm 6) (.c (.int (2)))))] [])])),(.expr (.meth (.attr (.nm 0) 10) 17 [(.tup [(.c (.str "clause")),(.call false (.gl 8) [(.call false (.gl 6) [(.call false (.gl 13) [(.nm 3)])])]),(.call false (.gl 8) [(.call false (.gl 6) [(.call false (.gl 13) [(.nm 4)])])])])]))]
noncomputable def qf:List St:=[(.asg (.tup [(.pt (.nm 3)),(.pt (.nm 4))]) (.meth (.nm 0) 20 [(.nm 1),(.nm 2)])),(.ite (.nm 4) [(.expr (.meth (.attr (.nm 0) 10) 17 [(.bin .Add (.nm 1) (.tup [(.nm 3)]))]))] []),(.ret (.tup [(.c (.str "sum")),(.tup [(.tup [(.nm 3),(.c (.int (1)))])]),(.c (.int (0)))]))]
noncomputable def b_chosen_of:List St:=[(.ite (.cmp (.comp false 2 (.nm 8) (.nm 8) (.nm 2) [(.not (.call false (.gl 31) [(.nm 8)]))] []) .Eq (.lst false [])) [(.asg (.pt (.nm 3)) (.call false (.gl 8) [(.comp false 2 (.call false (.gl 10) [(.nm 8)]) (.nm 8) (.nm 2) [] [])])),(.asg (.pt (.nm 4)) (.meth (.nm 0) 25 [(.tup [(.c (.str "element_of")),(.nm 1),(.nm 3)]),(.call false (.gl 28) [(.nm 3)])]))] [(.asg (.pt (.nm 5)) (.comp false 2 (.meth (.nm 0) 21 [(.nm 8)]) (.nm 8) (.nm 2) [] [])),(.asg (.pt (.nm 6)) (.call false (.gl 16) [(.call false (.gl 4) [(.comp false 3 (.nm 8) (.tup [(.nm 8),(.nm 9)]) (.nm 5) [] [])]),(.call false (.gl 3) [(.comp false 3 (.nm 9) (.tup [(.nm 8),(.nm 9)]) (.nm 5) [] [])])])),(.asg (.pt (.nm 4)) (.meth (.nm 0) 25 [(.tup [(.c (.str "element")),(.nm 1),(.meth (.nm 0) 23 [(.nm 2)])]),(.nm 6)]))]),(.ret (.ite (.cmp (.comp false 2 (.nm 8) (.nm 8) (.nm 2) [(.not (.call false (.gl 30) [(.nm 8)]))] []) .Eq (.lst false [])) (.tup [(.c (.str "bit")),(.sub (.sub (.sub (.nm 4) (.c (.int (1)))) (.c (.int (0)))) (.c (.int (0)))),(.c (.bool true))]) (.nm 4)))]
noncomputable def b_either:List St:=[(.ite (.call false (.gl 1) [(.nm 1),(.gl 11)]) [(.ret (.ite (.nm 1) (.nm 2) (.nm 3)))] []),(.ite (.and [(.call false (.gl 30) [(.nm 2)]),(.call false (.gl 30) [(.nm 3)])]) [(.ret (.meth (.nm 0) 32 [(.lst false [(.meth (.nm 0) 31 [(.lst false [(.nm 1),(.nm 2)])]),(.meth (.nm 0) 31 [(.lst false [(.call false (.gl 32) [(.nm 1)]),(.nm 3)])])])]))] []),(.ite (.and [(.call false (.gl 31) [(.nm 2)]),(.call false (.gl 31) [(.nm 3)])]) [(.ret (.call false (.gl 22) [(.nm 3),(.nm 1),(.bin .Sub (.call false (.gl 10) [(.nm 2)]) (.call false (.gl 10) [(.nm 3)]))]))] []),(.ret (.meth (.nm 0) 38 [(.meth (.nm 0) 22 [(.call false (.gl 22) [(.c (.int (1))),(.nm 1),(.c (.int (1)))])]),(.lst false [(.nm 3),(.nm 2)])]))]
noncomputable def Qh:List St:=[(.asg (.attr (.nm 0) 6) (.lst true [])),(.asg (.attr (.nm 0) 7) (.lst true [])),(.asg (.attr (.nm 0) 8) (.tup [(.c (.str "satisfy")),(.c .none)])),(.asg (.attr (.nm 0) 9) (.tup []))]
noncomputable def Qm:List St:=[(.asg (.attr (.nm 0) 10) (.call false (.gl 24) [])),(.asg (.attr (.nm 0) 11) (.dct 2 [] []))]
end Mine.Internal
namespace Mine.Internal
open PySem PySem.Calls PyProof PyProof.Rows PySem.W PySem.SeqAt
set_option tactic.hygienic false
variable {P:Prop}{b m:Bool}{i k j n g:Nat}{σ τ:zA}{K:Bool->Prop}{Q:List ab->Option (Nat×List ab)->Prop}{x y nm dom:ab}{xs ys vars tolds:List ab}{ρ:Rho}{X ns cells ws:List Int}{r p c v lo hi w z:Int}{ps rs:List (Int×Int)}{T:Tabs}{ks:List Nat}{C:Cx}{es ifs:List Ex}{op:ke}{o s6 it e e':Ex}{gs:List Gn}{R:Rho->zA->Prop}{S:Fl->Rho->zA->Prop}{fd:MO}{B:Int->Int×Int}{f':List Int->Option Int}{src:Option (Nat×List ab)}{sf attr:aN}{an:List aN}{sv:SV}
structure Law1 (C:Cx):Prop where
 Y:C.Good
 TT:TOk C T1
 range_of:trF C.K T1 Z1 60 28=some (2,2,yY)
 put_behind:trF C.K T1 Z1 60 35=some (3,3,QG)
 from_values:trF C.K T1 Z1 60 42=some (1,3,qh)
 least:trF C.K T1 Z1 60 49=some (1,1,Je)
 greatest:trF C.K T1 Z1 60 56=some (1,1,yJ)
 flat_init:trF C.K T1 Z1 60 151=some (1,1,Qh)
 new_var:trF C.K T1 Z1 60 158=some (3,3,yx)
 post:trF C.K T1 Z1 60 165=some (2,2,Ui)
 size:trF C.K T1 Z1 60 172=some (1,1,uh)
 domain_of:trF C.K T1 Z1 60 179=some (2,2,Qi)
 is_array:trF C.K T1 Z1 60 193=some (1,1,yH)
 within_figures:trF C.K T1 Z1 60 200=some (1,1,Z3)
 is_made:trF C.K T1 Z1 60 209=some (2,2,qa)
 is_truth:trF C.K T1 Z1 60 216=some (1,1,Q5)
 is_known:trF C.K T1 Z1 60 221=some (1,1,yO)
 sum_of:trF C.K T1 Z1 60 228=some (1,1,jL)
 plus:trF C.K T1 Z1 60 233=some (3,8,UY)
 contrary:trF C.K T1 Z1 60 240=some (1,1,yG)
 gath_init:trF C.K T1 Z1 60 261=some (1,1,Qm)
 once:trF C.K T1 Z1 60 268=some (3,6,jY)
 bounds:trF C.K T1 Z1 60 275=some (2,8,Yy)
 var_of:trF C.K T1 Z1 60 280=some (2,9,b_var_of)
 vars_of:trF C.K T1 Z1 60 285=some (2,2,yv)
 all_of:trF C.K T1 Z1 60 314=some (2,8,b_all_of)
 any_of:trF C.K T1 Z1 60 319=some (2,2,Y0)
 require_some:trF C.K T1 Z1 60 331=some (2,5,qR)
 made_number:trF C.K T1 Z1 60 375=some (3,5,qf)
 chosen_of:trF C.K T1 Z1 60 430=some (3,7,b_chosen_of)
 either:trF C.K T1 Z1 60 437=some (4,4,b_either)
 law_next:trF C.K T1 Z1 60 519=some (2,3,Qb)
 law_things:trF C.K T1 Z1 60 526=some (0,0,qe)
 law_is_truth:trF C.K T1 Z1 60 533=some (1,1,qD)
 law_worth:trF C.K T1 Z1 60 538=some (2,2,QP)
 law_about:trF C.K T1 Z1 60 545=some (1,2,QB)
 law_holds:trF C.K T1 Z1 60 550=some (2,5,QD)
 law_ways:trF C.K T1 Z1 60 555=some (3,8,Qe)
 law_index:trF C.K T1 Z1 60 562=some (2,3,QH)
 law_chosen:trF C.K T1 Z1 60 569=some (3,7,qd)
 law:trF C.K T1 Z1 60 574=some (1,25,b_law)
def elW (C:Cx)(T:Tabs)(n:Nat)(s6:Ex):Rho->zA->(D->zA->Prop)->Prop:=λ ρ σ K=>wpE C T n s6 ρ σ K
noncomputable def XS:D:=.p (.tuple [.str "satisfy",.none])
noncomputable def zE (fd:MO)(pt:D)(vars tolds:List ab)(made:List (Ky×D)):zA:=[fd,.sdict [(10,.obj 4),(11,.obj 7),(12,pt)],.inst 510 1,.sdict [(6,.obj 5),(7,.obj 6),(8,XS),(9,.p (.tuple []))],.inst 182 3,.lst vars,.lst tolds,.tdict made]
@[simp ↓] theorem zHN {α:Type}{o:Option α}{K:α->Prop}:Is o K=(match o with | some x=>K x | none=>False):=rfl
@[simp ↓] theorem zGe {α β:Type}{a:α}{f:α->Option β}:(some a).bind f=f a:=rfl
@[simp ↓,simp] theorem zI4 {α:Type}:noO (none:Option α) P=P:=rfl
@[simp ↓,simp] theorem zHG :ifT true P=P:=rfl
@[simp ↓] theorem zHP {α:Type}{o:Option α}:gd b o=(match b with | true=>o | false=>none):=rfl
@[simp ↓] theorem zH0 {ds:List D}{o:Option (List ab)}:jm ds o=(match o with | some xs=>.p (.tuple xs) | none=>.tup ds):=rfl
@[simp ↓,simp] theorem zFE {es:List (Int×D)}{k:Int}{d:D}{Q:D->zA->Prop}:jn i es k d σ Q none=Q d (σ.set i (.idict (es++[(k,d)]))):=rfl
@[simp ↓,simp] theorem zIM {es:List (Ky×D)}{q:Ky}{d:D}{K:zA->Prop}:Vj i es q d σ K none=K (σ.set i (.tdict (es++[(q,d)]))):=rfl
@[simp ↓] theorem BrT {Q:Prop}:Br true P Q=P:=rfl
@[simp ↓] theorem BrF {Q:Prop}:Br false P Q=Q:=rfl
@[simp ↓] theorem zJO {K:ab->Prop}:onP (.p x) K=K x:=rfl
@[simp ↓] theorem zJz {i:Int}{K:Int->Prop}:onI (.p (.int i)) K=K i:=rfl
@[simp ↓] theorem zJo {K:List ab->Prop}:onT (.p (.tuple xs)) K=K xs:=rfl
@[simp ↓] theorem zJ7 :isB (.p (.bool b)) K=K b:=rfl
@[simp ↓] theorem zJy {K:Nat->Prop}:onO (.obj i) K=K i:=rfl
@[simp ↓] theorem zID {K:D->Prop}:onN ρ i K=Is (ρ[i]?.bind id) K:=rfl
@[simp ↓] theorem idS {α:Type}{a:α}:id a=a:=rfl
@[simp ↓] theorem zHK :XT false P=P:=rfl
@[simp ↓] theorem thN {X:Prop}:jv .next P X=P:=rfl
@[simp ↓] theorem thC {X:Prop}:jv .cont P X=X:=rfl
@[simp ↓] theorem thR {d:D}{X:Prop}:jv (.ret d) P X=X:=rfl
@[simp ↓] theorem tlN {X:D->Prop}:yB .next X P=P:=rfl
@[simp ↓] theorem tlC {X:D->Prop}:yB .cont X P=P:=rfl
@[simp ↓] theorem tlR {d:D}{X:D->Prop}:yB (.ret d) X P=X d:=rfl
@[simp ↓] theorem zHf {acc:List ab}{K:List ab->Prop}:uI (.p x) acc K=(Few acc.length/\K (acc++[x])):=rfl
@[simp ↓] theorem drN :YU (.p .none) P=P:=rfl
@[simp ↓] theorem drI {i:Int}:YU (.p (.int i)) P=P:=rfl
@[simp ↓] theorem zIs :qj σ (.p x)=some x:=rfl
@[simp ↓] theorem zIA :qj σ (.obj i)=(σ[i]?.bind ZO).bind λ xs=>some (.list xs):=rfl
@[simp ↓] theorem zHh :ZO (.lst xs)=some xs:=rfl
@[simp ↓] theorem zH8 :Zn (.tuple xs)=some xs:=rfl
@[simp ↓] theorem zHd :Zn (.list xs)=some xs:=rfl
@[simp ↓] theorem zIp {es:List (Nat×D)}:jB (.sdict es)=some es:=rfl
@[simp ↓] theorem zI7 {es:List (Nat×D)}:JT (.rdict es)=some es:=rfl
@[simp ↓] theorem zIw :zu σ (.p x)=Zn x:=rfl
@[simp ↓] theorem zJ4 :zu σ (.obj i)=σ[i]?.bind ZO:=rfl
@[simp ↓] theorem zIt :isP (.p x)=some x:=rfl
@[simp ↓] theorem zJu :isP (.obj i)=none:=rfl
@[simp ↓] theorem zJ2 {i:Int}:isInt (.int i)=some i:=rfl
@[simp ↓] theorem zIT:QN []=some []:=rfl
@[simp ↓] theorem zJj {d:D}{ds:List D}:QN (d::ds)=(isP d).bind λ x=>(QN ds).bind λ xs=>some (x::xs):=rfl
@[simp ↓] theorem zIQ {ds:List D}:Yi ds=jm ds (QN ds):=rfl
@[simp ↓] theorem zIh:ints? []=some []:=rfl
@[simp ↓] theorem zHJ {r:List ab}:ints? (x::r)=(isInt x).bind λ i=>(ints? r).bind λ l=>some (i::l):=rfl
@[simp ↓] theorem bpN :Zd (.nm i) x ρ=some (ρ.set i (some (.p x))):=rfl
@[simp ↓] theorem bpT {ps:List Pt}:Zd (.tup ps) (.tuple xs) ρ=bindPs ps xs ρ:=rfl
@[simp ↓] theorem zJH :bindPs [] [] ρ=some ρ:=rfl
@[simp ↓] theorem zJk {p:Pt}{ps:List Pt}:bindPs (p::ps) (x::xs) ρ=(Zd p x ρ).bind λ sL=>bindPs ps xs sL:=rfl
@[simp ↓] theorem cEq {x y:D}:wpC .Eq σ x y K=Is (qj σ x) λ a=>Is (qj σ y) λ b=>Sh a b/\K (br a b):=rfl
@[simp ↓] theorem cNe {x y:D}:wpC .NotEq σ x y K=Is (qj σ x) λ a=>Is (qj σ y) λ b=>Sh a b/\K (!PyData.eqv a b):=rfl
@[simp ↓] theorem cIs {x y:D}:wpC .Is σ x y K=Is (Qx y) λ _=>Is (isNone x) K:=rfl
@[simp ↓] theorem cLt {x y:D}:wpC .Lt σ x y K=onI x λ a=>onI y λ b=>K (decide (a<b)):=rfl
@[simp ↓] theorem cLe {x y:D}:wpC .LtE σ x y K=onI x λ a=>onI y λ b=>K (decide (a<=b)):=rfl
@[simp ↓] theorem cGe {x y:D}:wpC .GtE σ x y K=onI x λ a=>onI y λ b=>K (decide (b<=a)):=rfl
@[simp ↓] theorem cNI {x y:D}:wpC .NotIn σ x y K=jE σ x y λ b=>K (!b):=rfl
@[simp ↓] theorem inO {x:D}:jE σ x (.obj i) K=Is σ[i]? (uV x K):=rfl
@[simp ↓,simp] theorem zJ3 {x:D}{es:List (Ky×D)}:uV x K (.tdict es)=onT x λ k=>Kd (.tuple k)/\Is (keyDs k) λ q=>K (zw q es).isSome:=rfl
@[simp ↓] theorem zJ1 :isNone (.p x)=wo x:=rfl
@[simp ↓] theorem nbN:wo .none=some true:=rfl
@[simp ↓] theorem ncN:Qx (.p .none)=some ():=rfl
@[simp ↓] theorem biA {x y:D}{K:D->Prop}:qt σ .Add x y K=JB σ x y K:=rfl
@[simp ↓] theorem biS {x y:D}{K:D->Prop}:qt σ .Sub x y K=onI x λ a=>onI y λ b=>K (.p (.int (a - b))):=rfl
@[simp ↓] theorem biM {x y:D}{K:D->Prop}:qt σ .Mult x y K=onI x λ a=>onI y λ b=>Fit a/\Fit b/\K (.p (.int (a * b))):=rfl
@[simp ↓] theorem biF {x y:D}{K:D->Prop}:qt σ .FloorDiv x y K=onI x λ a=>onI y λ b=>Nz b/\K (.p (.int (Int.fdiv a b))):=rfl
@[simp ↓] theorem biO {x y:D}{K:D->Prop}:qt σ .Mod x y K=onI x λ a=>onI y λ b=>Nz b/\K (.p (.int (Int.fmod a b))):=rfl
@[simp ↓] theorem biP {x y:D}{K:D->Prop}:qt σ .Pow x y K=onI x λ a=>onI y λ b=>Pw a b/\K (.p (.int (a ^ b.toNat))):=rfl
@[simp ↓] theorem adI {a:Int}{y:D}{K:D->Prop}:JB σ (.p (.int a)) y K=onI y λ b=>K (.p (.int (a + b))):=rfl
@[simp ↓] theorem adT {a:List ab}{y:D}{K:D->Prop}:JB σ (.p (.tuple a)) y K=onT y λ b=>Few (a.length + b.length)/\K (.p (.tuple (a++b))):=rfl
@[simp ↓] theorem adL {a:List ab}{y:D}{K:D->Prop}:JB σ (.p (.list a)) y K=yu a y K:=rfl
@[simp ↓] theorem zIx {a b:List ab}{K:D->Prop}:yu a (.p (.list b)) K=(Few (a.length + b.length)/\K (.p (.list (a++b)))):=rfl
@[simp ↓] theorem siO :qx σ (.obj i)=σ[i]?.bind Q4:=rfl
@[simp ↓] theorem siP :qx σ (.p x)=(Zn x).bind ints?:=rfl
@[simp ↓] theorem zJF {es:List (Int×D)}:Q4 (.idict es)=some (es.map (·.1)):=rfl
@[simp ↓] theorem zIB {ds:List D}{Q:D->zA->Prop}:Zj m .len ds σ Q=on1 ds λ d=>Is (zu σ d) λ xs=>Few xs.length/\Q (.p (.int xs.length)) σ:=rfl
@[simp ↓] theorem zJ8 {ds:List D}{Q:D->zA->Prop}:Zj m .isinst ds σ Q=on2 ds λ d t=>Is ((uk t).bind jO) λ t=>Xj d t σ Q:=rfl
@[simp ↓] theorem zJG {ds:List D}{Q:D->zA->Prop}:Zj m .abs ds σ Q=on1 ds λ d=>onI d λ a=>Q (.p (.int a.natAbs)) σ:=rfl
@[simp ↓] theorem zIz {ds:List D}{Q:D->zA->Prop}:Zj m .max ds σ Q=yV ds (λ d=>Is (zu σ d) λ xs=>Is (ints? xs) λ l=>hdL l λ a r=>Q (.p (.int (ze a r))) σ) λ d e=>onI d λ a=>onI e λ b=>Q (.p (.int (ze a [b]))) σ:=rfl
@[simp ↓] theorem zJr {ds:List D}{Q:D->zA->Prop}:Zj m .min ds σ Q=yV ds (λ d=>Is (zu σ d) λ xs=>Is (ints? xs) λ l=>hdL l λ a r=>Q (.p (.int (zm a r))) σ) λ d e=>onI d λ a=>onI e λ b=>Q (.p (.int (zm a [b]))) σ:=rfl
@[simp ↓] theorem zIS {ds:List D}{Q:D->zA->Prop}:Zj m .sum ds σ Q=on1 ds λ d=>Is (zu σ d) λ xs=>Is (ints? xs) λ l=>Q (.p (.int l.sum)) σ:=rfl
@[simp ↓] theorem zJt {ds:List D}{Q:D->zA->Prop}:Zj m .tuple ds σ Q=on1 ds λ d=>Is (zu σ d) λ xs=>Few xs.length/\Q (.p (.tuple xs)) σ:=rfl
@[simp ↓] theorem zIZ {ds:List D}{Q:D->zA->Prop}:Zj m .list ds σ Q=on1 ds λ d=>Is (zu σ d) λ xs=>Few xs.length/\Zk m xs σ Q:=rfl
@[simp ↓] theorem zIr {ds:List D}{Q:D->zA->Prop}:Zj m .dict ds σ Q=on1 ds λ d=>onT d λ xs=>Is (qJ xs) λ es=>Nd (es.map (·.1))/\Few xs.length/\Q (.obj σ.length) (σ++[.idict es]):=rfl
@[simp ↓] theorem zJw {ds:List D}{Q:D->zA->Prop}:Zj m .int ds σ Q=on1 ds λ d=>onP d λ x=>Is (je x) λ a=>Q (.p (.int a)) σ:=rfl
@[simp ↓] theorem zJC {ds:List D}{Q:D->zA->Prop}:Zj m .range ds σ Q=yV ds (λ e=>onI e λ b=>Q (.rng 0 b) σ) λ d e=>onI d λ a=>onI e λ b=>Q (.rng a b) σ:=rfl
@[simp ↓] theorem o1 {d:D}{K:D->Prop}:on1 [d] K=K d:=rfl
@[simp ↓] theorem o2 {d e:D}{K:D->D->Prop}:on2 [d,e] K=K d e:=rfl
@[simp ↓] theorem zJl {d:D}{K:D->Prop}{K2:D->D->Prop}:yV [d] K K2=K d:=rfl
@[simp ↓] theorem zIO {d e:D}{K:D->Prop}{K2:D->D->Prop}:yV [d,e] K K2=K2 d e:=rfl
@[simp ↓] theorem rtT {Q:D->zA->Prop}:Zk true xs σ Q=Q (.obj σ.length) (σ++[.lst xs]):=rfl
@[simp ↓] theorem rtF {Q:D->zA->Prop}:Zk false xs σ Q=Q (.p (.list xs)) σ:=rfl
@[simp ↓] theorem hdC {a:Int}{r:List Int}{K:Int->List Int->Prop}:hdL (a::r) K=K a r:=rfl
@[simp ↓] theorem zIl {b:Bi}:uk (.bi b)=some b:=rfl
@[simp ↓] theorem zGY:jO .tuple=some 0:=rfl
@[simp ↓] theorem zI6:jO .int=some 2:=rfl
@[simp ↓] theorem zHq:jO .bool=some 3:=rfl
@[simp ↓] theorem zIy {t:Nat}{Q:D->zA->Prop}:Xj (.p x) t σ Q=Is (Ze x t) λ r=>Q (.p (.bool r)) σ:=rfl
@[simp ↓] theorem zGV :Ze (.bool b) 0=some false:=rfl
@[simp ↓] theorem zH1 {b:Int}:Ze (.int b) 0=some false:=rfl
@[simp ↓] theorem zGQ {b:List ab}:Ze (.tuple b) 0=some true:=rfl
@[simp ↓] theorem zHs {b:Int}:Ze (.int b) 2=some true:=rfl
@[simp ↓] theorem zGq {b:List ab}:Ze (.tuple b) 2=some false:=rfl
@[simp ↓] theorem zHk {b:Int}:Ze (.int b) 3=some false:=rfl
@[simp ↓] theorem toI {a:Int}:je (.int a)=some a:=rfl
@[simp ↓] theorem toB {a:Bool}:je (.bool a)=some (b2i a):=rfl
@[simp ↓] theorem mh0 :yQ (.lst xs) 0=true:=rfl
@[simp ↓] theorem mh1 {es:List (Int×D)}:yQ (.idict es) 1=true:=rfl
@[simp ↓] theorem mb0 {ds:List D}{Q:D->zA->Prop}:yD i (.lst xs) 0 ds σ Q=on1 ds λ d=>onP d λ x=>Few xs.length/\Q (.p .none) (σ.set i (.lst (xs++[x]))):=rfl
@[simp ↓] theorem mb1 {es:List (Int×D)}{ds:List D}{Q:D->zA->Prop}:yD i (.idict es) 1 ds σ Q=on2 ds λ e d=>onI e λ q=>Q ((zP q es).getD d) σ:=rfl
@[simp ↓] theorem mb2 {es:List (Int×D)}{ds:List D}{Q:D->zA->Prop}:yD i (.idict es) 2 ds σ Q=on2 ds λ e d=>onI e λ q=>Few es.length/\jn i es q d σ Q (zP q es):=rfl
@[simp ↓] theorem suP {i:D}{Q:D->Prop}:jS σ (.p x) i Q=Is (Zn x) λ xs=>yy xs i Q:=rfl
@[simp ↓] theorem suO {i:D}{Q:D->Prop}:jS σ (.obj j) i Q=Is σ[j]? (Qv i Q):=rfl
@[simp ↓,simp] theorem zJm {i:D}{Q:D->Prop}:Qv i Q (.lst xs)=yy xs i Q:=rfl
@[simp ↓,simp] theorem zJE {i:D}{Q:D->Prop}{es:List (Int×D)}:Qv i Q (.idict es)=onI i λ k=>Is (zP k es) Q:=rfl
@[simp ↓,simp] theorem zIE {i:D}{Q:D->Prop}{es:List (Ky×D)}:Qv i Q (.tdict es)=onT i λ k=>Kd (.tuple k)/\Is (keyDs k) λ q=>Is (zw q es) Q:=rfl
@[simp ↓] theorem suS {k:Int}{Q:D->Prop}:yy xs (.p (.int k)) Q=(Sm k/\Is ((idx xs.length k).bind λ j=>xs[j]?) λ x=>Q (.p x)):=rfl
@[simp ↓] theorem upS {x:aN}{k:Int}{Q:D->Prop}:yn σ (.p (.str x)) (.p (.int k)) Q=(Sm k/\Few x.cps.size/\bu (ff x none (some k))=true/\Q (.p (.str (ff x none (some k))))):=rfl
@[simp ↓] theorem upL {k:Int}{Q:D->Prop}:yn σ (.p (.list xs)) (.p (.int k)) Q=(Sm k/\0<=k/\Few xs.length/\Q (.p (.list (xs.take k.toNat)))):=rfl
@[simp ↓] theorem atO {Q:D->Prop}:ja T σ (.obj i) k Q=Qt T σ i λ K _ fs=>noO (zY K k T.meth) (Is (look k fs) Q):=rfl
@[simp ↓] theorem zIX {K:ah->Nat->List (Nat×D)->Prop}:Qt T σ i K=Is σ[i]? λ mo=>match mo with
 | .inst C j=>Is (σ[j]?.bind jB) λ fs=>K C j fs
 | _=>False:=rfl
@[simp ↓] theorem itP :zk σ (.p x) Q=Is (Zn x) λ xs=>Q xs none:=rfl
@[simp ↓] theorem zJf :zk σ (.obj i) Q=Is (σ[i]?.bind ZO) λ xs=>Q xs (some (i,xs)):=rfl
@[simp ↓] theorem itR {a b:Int}:zk σ (.rng a b) Q=(Rg a b/\Q (z5 a b) none):=rfl
@[simp ↓] theorem zJi :zk σ (.zp (.p x) (.p y) xs ys) Q=Q (wN xs ys) none:=rfl
@[simp ↓] theorem zJa :zS none σ P=P:=rfl
@[simp ↓] theorem zIq :zS (some (i,xs)) σ P=(σ[i]?=some (.lst xs)/\P):=rfl
@[simp ↓] theorem mk0 {ds:List D}:mkD 0 ks ds=gd (bc ks.length ds.length) (some (.rdict (ks.zip ds))):=rfl
@[simp ↓] theorem mk1 {ds:List D}:mkD 1 ks ds=some (.idict []):=rfl
@[simp ↓] theorem mk2 {ds:List D}:mkD 2 ks ds=some (.tdict []):=rfl
@[simp ↓] theorem fzO :Yc σ (.obj i)=(σ[i]?.bind ZO).bind λ xs=>some (.list xs,σ.set i .dead):=rfl
@[simp ↓] theorem zIJ {Q:D->zA->Prop}:wpE C T n (.nm i) ρ σ Q=onN ρ i λ d=>Q d σ:=rfl
@[simp ↓] theorem zJp {Q:D->zA->Prop}:wpE C T n (.gl g) ρ σ Q=Is T.glob[g]? λ p=>Q p.2 σ:=rfl
@[simp ↓] theorem e_c {Q:D->zA->Prop}{d:ab}:wpE C T n (.c d) ρ σ Q=Q (.p d) σ:=rfl
@[simp ↓] theorem zHW {Q:D->zA->Prop}:wpE C T n (.tup es) ρ σ Q=wpEs C T n es ρ σ λ ds σ'=>Q (Yi ds) σ':=rfl
@[simp ↓] theorem zI5 {Q:D->zA->Prop}:wpE C T n (.lst m es) ρ σ Q=wpEs C T n es ρ σ λ ds σ'=>Is (QN ds) λ xs=>Zk m xs σ' Q:=rfl
@[simp ↓] theorem zHx {Q:D->zA->Prop}:wpE C T n (.dct k ks es) ρ σ Q=wpEs C T n es ρ σ λ ds σ'=>Is (mkD k ks ds) λ mo=>Q (.obj σ'.length) (σ'++[mo]):=rfl
@[simp ↓] theorem zHT {Q:D->zA->Prop}{op:lq}{a b:Ex}:wpE C T n (.bin op a b) ρ σ Q=wpE C T n a ρ σ λ x σ'=>wpE C T n b ρ σ' λ y sK=>qt sK op x y λ d=>Q d sK:=rfl
@[simp ↓] theorem zHE {Q:D->zA->Prop}{a:Ex}:wpE C T n (.neg a) ρ σ Q=wpE C T n a ρ σ λ x σ'=>onI x λ i=>Q (.p (.int (-i))) σ':=rfl
@[simp ↓] theorem zI9 {Q:D->zA->Prop}{a:Ex}:wpE C T n (.not a) ρ σ Q=wpE C T n a ρ σ λ x σ'=>isB x λ b=>Q (.p (.bool (!b))) σ':=rfl
@[simp ↓] theorem zHy {Q:D->zA->Prop}:wpE C T n (.and es) ρ σ Q=wpAnd C T n es ρ σ Q:=rfl
@[simp ↓] theorem zJN {Q:D->zA->Prop}:wpE C T n (.or es) ρ σ Q=wpOr C T n es ρ σ Q:=rfl
@[simp ↓] theorem zFh {Q:D->zA->Prop}{a b:Ex}:wpE C T n (.cmp a op b) ρ σ Q=wpE C T n a ρ σ λ x σ'=>wpE C T n b ρ σ' λ y sK=>wpC op sK x y λ r=>Q (.p (.bool r)) sK:=rfl
@[simp ↓] theorem zHu {Q:D->zA->Prop}{a b c:Ex}:wpE C T n (.ite c a b) ρ σ Q=wpE C T n c ρ σ λ x σ'=>isB x λ r=>Br r (wpE C T n a ρ σ' Q) (wpE C T n b ρ σ' Q):=rfl
@[simp ↓] theorem zHa {Q:D->zA->Prop}{f:Ex}:wpE C T n (.call m f es) ρ σ Q=wpE C T n f ρ σ λ g σ'=>wpEs C T n es ρ σ' λ ds sK=>match g with
  | .fn a=>XT m (SatCall C T n a ds sK Q)
  | .bi b=>Zj m b ds sK Q
  | _=>False:=rfl
@[simp ↓] theorem zH6 {Q:D->zA->Prop}:wpE C T n (.meth o k es) ρ σ Q=wpE C T n o ρ σ λ x σ'=>onO x λ i=>Is σ'[i]? λ mo=>match mo with
  | .inst K j=>Is (σ'[j]?.bind jB) λ fs=>noO (look k fs) (Is (zY K k T.meth) λ f=>wpEs C T n es ρ σ' λ ds sK=>SatCall C T n f (.obj i::ds) sK Q)
  | mo=>ifT (yQ mo k) (wpEs C T n es ρ σ' λ ds sK=>Is sK[i]? λ mo'=>yD i mo' k ds sK Q):=rfl
@[simp ↓] theorem zHi {Q:D->zA->Prop}:wpE C T n (.attr o k) ρ σ Q=wpE C T n o ρ σ λ x σ'=>ja T σ' x k λ d=>Q d σ':=rfl
@[simp ↓] theorem zIn {Q:D->zA->Prop}{i:Ex}:wpE C T n (.sub o i) ρ σ Q=wpE C T n o ρ σ λ x σ'=>wpE C T n i ρ σ' λ y sK=>jS sK x y λ d=>Q d sK:=rfl
@[simp ↓] theorem zHg {Q:D->zA->Prop}:wpE C T n (.subk o k) ρ σ Q=wpE C T n o ρ σ λ x σ'=>onO x λ i=>Is (σ'[i]?.bind JT) λ fs=>Is (look k fs) λ d=>Q d σ':=rfl
@[simp ↓] theorem zHj {Q:D->zA->Prop}{i:Ex}:wpE C T n (.upto o i) ρ σ Q=wpE C T n o ρ σ λ x σ'=>wpE C T n i ρ σ' λ y sK=>yn sK x y λ d=>Q d sK:=rfl
@[simp ↓] theorem zHn {Q:D->zA->Prop}{t:Pt}:wpE C T n (.comp m k s6 t it ifs gs) ρ σ Q=wpE C T n it ρ σ λ d σ'=>zk σ' d λ xs i=>Few xs.length/\zH (zM C T n (elW C T n s6) t ifs gs (ρ++bD k none) i) xs ([],σ') (zW m Q):=rfl
@[simp ↓] theorem zHY {Q:D->zA->Prop}{a b:Ex}:wpE C T n (.zip a b) ρ σ Q=wpE C T n a ρ σ λ x σ'=>wpE C T n b ρ σ' λ y sK=>Is (zu sK x) λ xs=>Is (zu sK y) λ ys=>Q (.zp x y xs ys) sK:=rfl
@[simp ↓] theorem zH9 {Q:D->zA->Prop}{p:aN}:wpE C T n (.fstr p e) ρ σ Q=wpE C T n e ρ σ λ x σ'=>onI x λ i=>Sm i/\Q (.p (.str (p++ag (toString i)))) σ':=rfl
@[simp ↓] theorem elA {Q:D->zA->Prop}:elW C T n s6 ρ σ Q=wpE C T n s6 ρ σ Q:=rfl
@[simp ↓] theorem esN {R:List D->zA->Prop}:wpEs C T n [] ρ σ R=R [] σ:=rfl
@[simp ↓] theorem esC {R:List D->zA->Prop}:wpEs C T n (e::es) ρ σ R=wpE C T n e ρ σ λ d σ'=>wpEs C T n es ρ σ' λ ds sK=>R (d::ds) sK:=rfl
@[simp ↓] theorem anO {Q:D->zA->Prop}:wpAnd C T n [e] ρ σ Q=wpE C T n e ρ σ Q:=rfl
@[simp ↓] theorem anC {Q:D->zA->Prop}{r:List Ex}:wpAnd C T n (e::e'::r) ρ σ Q=wpE C T n e ρ σ λ x σ'=>isB x λ b=>Br b (wpAnd C T n (e'::r) ρ σ' Q) (Q (.p (.bool false)) σ'):=rfl
@[simp ↓] theorem orO {Q:D->zA->Prop}:wpOr C T n [e] ρ σ Q=wpE C T n e ρ σ Q:=rfl
@[simp ↓] theorem orC {Q:D->zA->Prop}{r:List Ex}:wpOr C T n (e::e'::r) ρ σ Q=wpE C T n e ρ σ λ x σ'=>isB x λ b=>Br b (Q (.p (.bool true)) σ') (wpOr C T n (e'::r) ρ σ' Q):=rfl
@[simp ↓] theorem ifN {K:Bool->zA->Prop}:wpIfs C T n [] ρ σ K=K true σ:=rfl
@[simp ↓] theorem ifC {K:Bool->zA->Prop}:wpIfs C T n (e::es) ρ σ K=wpE C T n e ρ σ λ x σ'=>isB x λ b=>Br b (wpIfs C T n es ρ σ' K) (K false σ'):=rfl
@[simp ↓] theorem gnN {W:Rho->zA->(D->zA->Prop)->Prop}{acc:List ab}{K:List ab->zA->Prop} :wpG C T n W [] ρ σ acc K=W ρ σ λ d σ'=>uI d acc λ tm=>K tm σ':=rfl
@[simp ↓] theorem gnC {W:Rho->zA->(D->zA->Prop)->Prop}{acc:List ab}{K:List ab->zA->Prop}{t:Pt}:wpG C T n W (.mk t it ifs::gs) ρ σ acc K=wpE C T n it ρ σ λ d σ'=>zk σ' d λ xs i=>Few xs.length/\zH (zM C T n W t ifs gs ρ i) xs (acc,σ') λ a=>K a.1 a.2:=rfl
@[simp ↓] theorem tP {d:D}{p:Pt}:wpT C T n (.pt p) d ρ σ R=VJ p d ρ λ sL=>R sL σ:=rfl
@[simp ↓] theorem tgN {d:D}{K:Rho->Prop}:VJ (.nm i) d ρ K=K (ρ.set i (some d)):=rfl
@[simp ↓] theorem tA {d:D}:wpT C T n (.attr o k) d ρ σ R=wpE C T n o ρ σ λ x σ'=>onO x λ i=>Qt T σ' i λ K j fs=>noO (zY K k T.meth) (Lt64 fs.length/\R ρ (σ'.set j (.sdict (put k d fs)))):=rfl
@[simp ↓] theorem tS {d:D}{i:Ex}:wpT C T n (.sub o i) d ρ σ R=wpE C T n o ρ σ λ x σ'=>wpE C T n i ρ σ' λ y sK=>onO x λ i=>Ul sK i y d λ sO=>R ρ sO:=rfl
@[simp ↓] theorem tK {d:D}:wpT C T n (.subk o k) d ρ σ R=wpE C T n o ρ σ λ x σ'=>onO x λ i=>Is (σ'[i]?.bind JT) λ fs=>Few fs.length/\R ρ (σ'.set i (.rdict (put k d fs))):=rfl
@[simp ↓] theorem tT {d:D}{ts:List Tg}:wpT C T n (.tup ts) d ρ σ R=Is (Yn d) λ ds=>ifT (bc ts.length ds.length) (wpTs C T n ts ds ρ σ R):=rfl
@[simp ↓] theorem tsN :wpTs C T n [] [] ρ σ R=R ρ σ:=rfl
@[simp ↓] theorem tsC {t:Tg}{ts:List Tg}{d:D}{ds:List D}:wpTs C T n (t::ts) (d::ds) ρ σ R=wpT C T n t d ρ σ λ sL σ'=>wpTs C T n ts ds sL σ' R:=rfl
@[simp ↓] theorem ptT {ds:List D}:Yn (.tup ds)=some ds:=rfl
@[simp ↓] theorem ptP :Yn (.p (.tuple xs))=some (xs.map .p):=rfl
@[simp ↓] theorem sSu {y d:D}{K:zA->Prop}:Ul σ i y d K=Is σ[i]? λ mo=>match mo with
 | .lst xs=>onI y λ k=>onP d λ x=>Sm k/\k<0/\Is (idx xs.length k) λ j=>K (σ.set i (.lst (xs.set j x)))
 | .idict es=>onI y λ k=>Few es.length/\K (σ.set i (.idict (Qc k d es)))
 | .tdict es=>onT y λ k=>Kd (.tuple k)/\Is (keyDs k) λ q=>Few es.length/\Vj i es q d σ K (zw q es)
 | _=>False:=rfl
@[simp ↓] theorem zH7 :wpS C T n (.expr e) ρ σ S=wpE C T n e ρ σ λ d σ'=>YU d (S .next ρ σ'):=rfl
@[simp ↓] theorem zId {t:Tg}:wpS C T n (.asg t e) ρ σ S=wpE C T n e ρ σ λ d σ'=>wpT C T n t d ρ σ' λ sL sK=>S .next sL sK:=rfl
@[simp ↓] theorem zF7 {c:Ex}{a b:List St}:wpS C T n (.ite c a b) ρ σ S=wpE C T n c ρ σ λ x σ'=>isB x λ r=>Br r (wpSs C T n a ρ σ' S) (wpSs C T n b ρ σ' S):=rfl
@[simp ↓] theorem zHD {t:Pt}{b:List St}:wpS C T n (.for t it b) ρ σ S=wpE C T n it ρ σ λ d σ'=>zk σ' d λ xs i=>Few xs.length/\zH (zK C T n t b i S) xs (ρ,σ') λ a=>S .next a.1 a.2:=rfl
@[simp ↓] theorem zHO :wpS C T n (.ret e) ρ σ S=wpE C T n e ρ σ λ d σ'=>S (.ret d) ρ σ':=rfl
@[simp ↓] theorem zHm :wpS C T n (.retF e) ρ σ S=wpE C T n e ρ σ λ d σ'=>Is (Yc σ' d) λ x=>S (.ret (.p x.1)) ρ x.2:=rfl
@[simp ↓] theorem zHl  :wpS C T n .cont ρ σ S=S .cont ρ σ:=rfl
@[simp ↓] theorem ssN  :wpSs C T n [] ρ σ S=S .next ρ σ:=rfl
@[simp ↓] theorem fsA {ρ:Rho}{σ:zA}{t:Pt}{b:List St}{i:Option (Nat×List ab)}{a:Rho×zA}{K:Rho×zA->Prop}:zK C T n t b i S x a K=Is (Zd t x a.1) λ sL=>wpSs C T n b sL a.2 λ fl t6 sK=>yB fl (λ d=>S (.ret d) t6 sK) (zS i sK (K (t6,sK))):=rfl
@[simp ↓] theorem csA {W:Rho->zA->(D->zA->Prop)->Prop}{t:Pt}{i:Option (Nat×List ab)}{a:List ab×zA}{K:List ab×zA->Prop}:zM C T n W t ifs gs ρ i x a K=Is (Zd t x ρ) λ sL=>wpIfs C T n ifs sL a.2 λ b sY=>Br b (wpG C T n W gs sL sY a.1 λ tm sO=>zS i sO (K (tm,sO))) (zS i sY (K (a.1,sY))):=rfl
@[simp ↓] theorem ix0 {m:Nat}:idx m 0=some 0:=rfl
@[simp ↓] theorem ix1 {m:Nat}:idx m 1=some 1:=rfl
@[simp ↓] theorem ix2 {m:Nat}:idx m 2=some 2:=rfl
@[simp ↓] theorem ix3 {m:Nat}:idx m 3=some 3:=rfl
@[simp ↓] theorem ixn {m:Nat}:idx m (j:Int)=some j:=rfl
@[simp ↓] theorem ixm {m:Nat}:idx (m + 1) (-1)=some m:=rfl
@[simp ↓] theorem zEX {a:Bool}:br (.bool a) (.bool b)=(a==b):=rfl
@[simp ↓] theorem zFX {a:Int}{b:Int}:br (.int a) (.int b)=(a==b):=rfl
@[simp ↓] theorem zG4 {a:aN}{b:aN}:br (.str a) (.str b)=(a==b):=rfl
@[simp ↓] theorem zEY {a:List ab}{b:List ab}:br (.list a) (.list b)=bY a b:=rfl
@[simp ↓] theorem zCY {a:List ab}{b:List ab}:br (.tuple a) (.tuple b)=bY a b:=rfl
@[simp ↓] theorem qNN:bY [] []=true:=rfl
@[simp ↓] theorem qCN {a:List ab}:bY (x::a) []=false:=rfl
@[simp ↓] theorem anT :(true&&b)=b:=rfl
@[simp ↓] theorem ntT:(!true)=false:=rfl
@[simp ↓] theorem ntF:(!false)=true:=rfl
@[simp ↓] theorem zFQ:(ag "bit"==ag "bit")=true:=rfl
@[simp ↓] theorem zFt:(ag "sum"==ag "bit")=false:=rfl
@[simp ↓] theorem zA7:(ag "linear"==ag "linear")=true:=rfl
@[simp ↓] theorem zAi:(ag "clause"==ag "linear")=false:=rfl
@[simp ↓] theorem zCZ:(ag "and"==ag "linear")=false:=rfl
@[simp ↓] theorem zDL:(ag "or"==ag "linear")=false:=rfl
@[simp ↓] theorem Vd:(ag "elemen"==ag "linear")=false:=rfl
@[simp ↓] theorem xJ:(ag "linear_eq"==ag "linear_le")=false:=rfl
@[simp ↓] theorem xF:(ag "linear_eq"==ag "linear_eq")=true:=rfl
@[simp ↓] theorem VV:(ag "clause"==ag "clause")=true:=rfl
@[simp ↓] theorem zCX:(ag "and"==ag "clause")=false:=rfl
@[simp ↓] theorem zDN:(ag "or"==ag "clause")=false:=rfl
@[simp ↓] theorem va:(ag "element"==ag "clause")=false:=rfl
@[simp ↓] theorem Xc:(ag "element_of"==ag "clause")=false:=rfl
@[simp ↓] theorem zCW:(ag "clause"==ag "and")=false:=rfl
@[simp ↓] theorem zEs:(ag "clause"==ag "or")=false:=rfl
@[simp ↓] theorem zFy:(ag "and"==ag "and")=true:=rfl
@[simp ↓] theorem zFU:(ag "and"==ag "or")=false:=rfl
@[simp ↓] theorem zG7:(ag "or"==ag "and")=false:=rfl
@[simp ↓] theorem zGG:(ag "or"==ag "or")=true:=rfl
@[simp ↓] theorem Wl:(ag "element"==ag "element")=true:=rfl
@[simp ↓] theorem xR:(ag "element_of"==ag "element")=false:=rfl
@[simp ↓] theorem zAa:(ag "either"==ag "either")=true:=rfl
@[simp ↓] theorem zAY:(ag "index"==ag "either")=false:=rfl
@[simp ↓] theorem zD0:ff "linear_eq" none (some 6)=ag "linear":=rfl
@[simp ↓] theorem zF9:ff "clause" none (some 6)=ag "clause":=rfl
@[simp ↓] theorem zGZ:ff "and" none (some 6)=ag "and":=rfl
@[simp ↓] theorem zHe:ff "or" none (some 6)=ag "or":=rfl
@[simp ↓] theorem zEZ:ff "element" none (some 6)=ag "elemen":=rfl
@[simp ↓] theorem zB3:ff "element_of" none (some 6)=ag "elemen":=rfl
@[simp ↓] theorem zIU {ds:List D}{Q:D->zA->Prop}:Zj m .set ds σ Q=on1 ds λ d=>onL d λ xs=>Is (ints? xs) λ l=>l.length<=4/\Q (.obj σ.length) (σ++[.iset (dd l)]):=rfl
@[simp ↓] theorem zJs {K:List ab->Prop}:onL (.p (.list xs)) K=K xs:=rfl
@[simp ↓] theorem zJ6 {ds:List D}{Q:D->zA->Prop}:Zj m .sorted ds σ Q=on1 ds λ d=>(Is (qx σ d) λ l=>Lt64 l.length/\Zk m ((ZF l).map .int) σ Q)∨∃ l,zu σ d=some (l.map zI)/\BitsOk l/\Zk m ((ZM l).map zI) σ Q:=rfl
@[simp ↓] theorem mh3 :yQ (.lst xs) 3=true:=rfl
@[simp ↓] theorem mb3 {ds:List D}{Q:D->zA->Prop}:yD i (.lst xs) 3 ds σ Q=(ds=[]/\∃ l,xs=l.map zI/\BitsOk l/\Q (.p .none) (σ.set i (.lst ((ZM l).map zI)))):=rfl
@[simp ↓] theorem cGt {x y:D}:wpC .Gt σ x y K=onI x λ a=>onI y λ b=>K (decide (b<a)):=rfl
@[simp ↓] theorem cIn {x y:D}:wpC .In σ x y K=jE σ x y K:=rfl
@[simp ↓] theorem inP {x:D}:jE σ x (.p y) K=Is (Zn y) λ xs=>Yg xs x K:=rfl
@[simp ↓] theorem zIv {x:D}:uV x K (.lst xs)=Yg xs x K:=rfl
@[simp ↓] theorem inS :Yg xs (.p x) K=(Sh (.tuple xs) x/\K (xs.any λ z=>br z x)):=rfl
@[simp ↓] theorem zJb {α:Type}{f:α->Bool}:lE [] f=false:=rfl
@[simp ↓] theorem zJe {α:Type}{f:α->Bool}{a:α}{l:List α}:lE (a::l) f=(f a || lE l f):=rfl
@[simp ↓] theorem orF :(false || b)=b:=rfl
@[simp ↓] theorem orT :(true || b)=true:=rfl
@[simp ↓] theorem anF :(false&&b)=false:=rfl
@[simp ↓] theorem tyl:jO .list=some 1:=rfl
@[simp ↓] theorem zGB {b:List ab}:Ze (.tuple b) 3=some false:=rfl
@[simp ↓] theorem zGX :Ze (.bool b) 3=some true:=rfl
@[simp ↓] theorem zGW :Ze (.bool b) 2=some true:=rfl
@[simp ↓] theorem zHo {b:Int}:Ze (.int b) 1=some false:=rfl
@[simp ↓] theorem zGL {b:List ab}:Ze (.tuple b) 1=some false:=rfl
@[simp ↓] theorem b2t:b2i true=1:=rfl
@[simp ↓] theorem b2f:b2i false=0:=rfl
@[simp ↓] theorem zHc {Q:D->zA->Prop}{a b c:Ex}{Af:ke}:wpE C T n (.cmp2 a op b Af c) ρ σ Q=wpE C T n a ρ σ λ x σ'=>wpE C T n b ρ σ' λ y sK=>wpC op sK x y λ r =>
   Br r (wpE C T n c ρ sK λ z sO=>wpC Af sO y z λ r'=>Q (.p (.bool r')) sO) (Q (.p (.bool false)) sK):=rfl
@[simp ↓] theorem zJP {α β:Type}{f:α->β}{a:α}{l:List α}:fO f (a::l)=f a::fO f l:=rfl
@[simp ↓] theorem zII {α β:Type}{f:α->β}:fO f []=[]:=rfl
@[simp ↓] theorem zJQ {α:Type}{a:α}{l:List α}:(a::l)[0]?=some a:=rfl
@[simp ↓] theorem zJM {α:Type}{a:α}{l:List α}:(a::l)[n + 1]?=l[n]?:=rfl
@[simp ↓] theorem zJx {α:Type}{a b:α}{l:List α}:(a::l).set 0 b=b::l:=rfl
@[simp ↓] theorem zIP {α:Type}{a b:α}{l:List α}:(a::l).set (n + 1) b=a::l.set n b:=rfl
@[simp ↓] theorem zJn {α:Type}{a:α}{l:List α}:(a::l).length=l.length + 1:=rfl
@[simp ↓] theorem zJL {α:Type}:([]:List α).length=0:=rfl
@[simp ↓] theorem zIG {α:Type}{a:α}:bD 0 a=[]:=rfl
@[simp ↓] theorem zIY {α:Type}{a:α}:bD (n + 1) a=a::bD n a:=rfl
@[simp ↓] theorem zIR {α:Type}{a:α}{l m:List α}:a::l++m=a::(l++m):=rfl
@[simp ↓] theorem zJB {α:Type}{m:List α}:[]++m=m:=rfl
@[simp ↓] theorem zIL {α β:Type}{a:α}{b:β}{l:List α}{m:List β}:(a::l).zip (b::m)=(a,b)::l.zip m:=rfl
@[simp ↓] theorem zJv {α β:Type}{m:List β}:([]:List α).zip m=[]:=rfl
@[simp ↓] theorem zJI:T1.glob[0]?=some ((ag "len":aN),(.bi .len:D)):=rfl
@[simp ↓] theorem zJK:T1.glob[1]?=some ((ag "isinstance":aN),(.bi .isinst:D)):=rfl
@[simp ↓] theorem zJq:T1.glob[2]?=some ((ag "abs":aN),(.bi .abs:D)):=rfl
@[simp ↓] theorem zIu:T1.glob[3]?=some ((ag "max":aN),(.bi .max:D)):=rfl
@[simp ↓] theorem zIV:T1.glob[4]?=some ((ag "min":aN),(.bi .min:D)):=rfl
@[simp ↓] theorem zJJ:T1.glob[5]?=some ((ag "sum":aN),(.bi .sum:D)):=rfl
@[simp ↓] theorem zIC:T1.glob[6]?=some ((ag "sorted":aN),(.bi .sorted:D)):=rfl
@[simp ↓] theorem zIF:T1.glob[8]?=some ((ag "tuple":aN),(.bi .tuple:D)):=rfl
@[simp ↓] theorem zJ0:T1.glob[9]?=some ((ag "list":aN),(.bi .list:D)):=rfl
@[simp ↓] theorem zIm:T1.glob[10]?=some ((ag "int":aN),(.bi .int:D)):=rfl
@[simp ↓] theorem zIa:T1.glob[11]?=some ((ag "bool":aN),(.bi .bool:D)):=rfl
@[simp ↓] theorem zIk:T1.glob[12]?=some ((ag "dict":aN),(.bi .dict:D)):=rfl
@[simp ↓] theorem zHF:T1.glob[13]?=some ((ag "set":aN),(.bi .set:D)):=rfl
@[simp ↓] theorem zHB:T1.glob[14]?=some ((ag "range":aN),(.bi .range:D)):=rfl
@[simp ↓] theorem zHw:T1.glob[15]?=some ((ag "MOST_SHOWN":aN),(.p (.int 1000):D)):=rfl
@[simp ↓] theorem zIc:T1.glob[16]?=some ((ag "range_of":aN),(.fn 28:D)):=rfl
@[simp ↓] theorem zIg:T1.glob[17]?=some ((ag "least":aN),(.fn 49:D)):=rfl
@[simp ↓] theorem zIo:T1.glob[18]?=some ((ag "greatest":aN),(.fn 56:D)):=rfl
@[simp ↓] theorem zHZ:T1.glob[19]?=some ((ag "within_figures":aN),(.fn 200:D)):=rfl
@[simp ↓] theorem zIe:T1.glob[20]?=some ((ag "is_made":aN),(.fn 209:D)):=rfl
@[simp ↓] theorem zHL:T1.glob[21]?=some ((ag "sum_of":aN),(.fn 228:D)):=rfl
@[simp ↓] theorem zHI:T1.glob[22]?=some ((ag "plus":aN),(.fn 233:D)):=rfl
@[simp ↓] theorem zIb:T1.glob[23]?=some ((ag "Functions":aN),(.fn 510:D)):=rfl
@[simp ↓] theorem zHA:T1.glob[24]?=some ((ag "Flat":aN),(.fn 182:D)):=rfl
@[simp ↓] theorem zHU:T1.glob[25]?=some ((ag "_law_next":aN),(.fn 519:D)):=rfl
@[simp ↓] theorem zIi:T1.glob[26]?=some ((ag "TRUTHS":aN),(.p (.tuple [.tuple [.int 0,.int 1]]):D)):=rfl
@[simp ↓] theorem zI1:T1.glob[27]?=some ((ag "put_behind":aN),(.fn 35:D)):=rfl
@[simp ↓] theorem zIj:T1.glob[28]?=some ((ag "from_values":aN),(.fn 42:D)):=rfl
@[simp ↓] theorem zHv:T1.glob[29]?=some ((ag "is_array":aN),(.fn 193:D)):=rfl
@[simp ↓] theorem zI2:T1.glob[30]?=some ((ag "is_truth":aN),(.fn 216:D)):=rfl
@[simp ↓] theorem zHV:T1.glob[31]?=some ((ag "is_known":aN),(.fn 221:D)):=rfl
@[simp ↓] theorem zI3:T1.glob[32]?=some ((ag "contrary":aN),(.fn 240:D)):=rfl
@[simp ↓] theorem zHM:T1.glob[34]?=some ((ag "_law_things":aN),(.fn 526:D)):=rfl
@[simp ↓] theorem zHC:T1.glob[35]?=some ((ag "_law_is_truth":aN),(.fn 533:D)):=rfl
@[simp ↓] theorem zHQ:T1.glob[36]?=some ((ag "_law_worth":aN),(.fn 538:D)):=rfl
@[simp ↓] theorem zIf:T1.glob[37]?=some ((ag "_law_about":aN),(.fn 545:D)):=rfl
@[simp ↓] theorem zHX:T1.glob[38]?=some ((ag "_law_holds":aN),(.fn 550:D)):=rfl
@[simp ↓] theorem zI0:T1.glob[39]?=some ((ag "_law_ways":aN),(.fn 555:D)):=rfl
@[simp ↓] theorem zHz:T1.glob[40]?=some ((ag "_law_index":aN),(.fn 562:D)):=rfl
@[simp ↓] theorem zHS:T1.glob[41]?=some ((ag "_law_chosen":aN),(.fn 569:D)):=rfl
@[simp ↓] theorem zGA:zY 182 6 T1.meth=none:=rfl
@[simp ↓] theorem zGN:zY 182 7 T1.meth=none:=rfl
@[simp ↓] theorem zGr:zY 182 8 T1.meth=none:=rfl
@[simp ↓] theorem zGx:zY 182 9 T1.meth=none:=rfl
@[simp ↓] theorem zGb:zY 510 10 T1.meth=none:=rfl
@[simp ↓] theorem zFV:zY 510 11 T1.meth=none:=rfl
@[simp ↓] theorem zGa:zY 182 16 T1.meth=some 158:=rfl
@[simp ↓] theorem zG8:zY 182 17 T1.meth=some 165:=rfl
@[simp ↓] theorem zFT:zY 182 18 T1.meth=some 172:=rfl
@[simp ↓] theorem zG1:zY 182 19 T1.meth=some 179:=rfl
@[simp ↓] theorem zG6:zY 510 20 T1.meth=some 268:=rfl
@[simp ↓] theorem zFW:zY 510 21 T1.meth=some 275:=rfl
@[simp ↓] theorem zG2:zY 510 22 T1.meth=some 280:=rfl
@[simp ↓] theorem zFY:zY 510 23 T1.meth=some 285:=rfl
@[simp ↓] theorem zG9:zY 510 31 T1.meth=some 314:=rfl
@[simp ↓] theorem zG5:zY 510 32 T1.meth=some 319:=rfl
@[simp ↓] theorem zFS:zY 510 27 T1.meth=some 331:=rfl
@[simp ↓] theorem zG3:zY 510 25 T1.meth=some 375:=rfl
@[simp ↓] theorem zG0:zY 510 38 T1.meth=some 430:=rfl
@[simp ↓] theorem zFZ:zY 510 39 T1.meth=some 437:=rfl
@[simp ↓] theorem zJh {pt:D}{made:List (Ky×D)}:(zE fd pt vars tolds made++τ)[0]?=some fd:=rfl
@[simp ↓] theorem zIK {pt:D}{made:List (Ky×D)}:(zE fd pt vars tolds made++τ)[1]?=some (.sdict [(10,.obj 4),(11,.obj 7),(12,pt)]):=rfl
@[simp ↓] theorem zJd {pt:D}{made:List (Ky×D)}:(zE fd pt vars tolds made++τ)[2]?=some (.inst 510 1):=rfl
@[simp ↓] theorem zIN {pt:D}{made:List (Ky×D)}:(zE fd pt vars tolds made++τ)[3]?=some (.sdict [(6,.obj 5),(7,.obj 6),(8,XS),(9,.p (.tuple []))]):=rfl
@[simp ↓] theorem zJg {pt:D}{made:List (Ky×D)}:(zE fd pt vars tolds made++τ)[4]?=some (.inst 182 3):=rfl
@[simp ↓] theorem zIW {pt:D}{made:List (Ky×D)}:(zE fd pt vars tolds made++τ)[5]?=some (.lst vars):=rfl
@[simp ↓] theorem zJA {pt:D}{made:List (Ky×D)}:(zE fd pt vars tolds made++τ)[6]?=some (.lst tolds):=rfl
@[simp ↓] theorem zJD {pt:D}{made:List (Ky×D)}:(zE fd pt vars tolds made++τ)[7]?=some (.tdict made):=rfl
@[simp ↓] theorem zJc {pt:D}{made:List (Ky×D)}{x:MO}:(zE fd pt vars tolds made++τ).set 0 x=zE x pt vars tolds made++τ:=rfl
@[simp ↓] theorem zJ5 {pt:D}{made:List (Ky×D)}{v:List ab}:(zE fd pt vars tolds made++τ).set 5 (.lst v)=zE fd pt v tolds made++τ:=rfl
@[simp ↓] theorem zJ9 {pt:D}{made:List (Ky×D)}{v:List ab}:(zE fd pt vars tolds made++τ).set 6 (.lst v)=zE fd pt vars v made++τ:=rfl
@[simp ↓] theorem zIH {pt:D}{made:List (Ky×D)}{m:List (Ky×D)}:(zE fd pt vars tolds made++τ).set 7 (.tdict m)=zE fd pt vars tolds m++τ:=rfl
theorem Zg {Q:D->zA->Prop}{fl:Fl}(h:uS fl=some (.p x))(q:Q (.p x) σ):ZR σ Q fl (σ++τ) :=
 ⟨.p x,σ,h,by
  have:=Kp.cut (σ:=σ) (σ':=σ++τ) (d:=.p x) σ.length (bn _) rfl λ i mo hi e=>.inl (by rwa [aB hi] at e)
  rwa [List.take_left] at this,q⟩
theorem zD {σ':zA}{Q:D->zA->Prop}{fl:Fl}{d:D}(h:uS fl=some d)(q:Q d σ'):ZR σ Q fl σ':=⟨d,σ',h,.all,q⟩
theorem ZN {i:Int}(h:-1000000<=i/\i<=1000000):Fit i:=cg (XN (n:=1000000) h.1 h.2) (cw (show 1000000<2 ^ 20 from of_decide_eq_true rfl) (iG (oD9 rfl) (oD9 rfl)))
theorem Xi {i:Int}(h:0<i/\i<=1000000):Nz i:=⟨cN h.1,cg (XN (n:=1000000) (ck (ml (oD9 rfl) h.1)) h.2) (cw (show 1000000<2 ^ 20 from of_decide_eq_true rfl) (iG (oD9 rfl) (oD9 rfl)))⟩
theorem zFi:Pw 10 1000:=⟨by decide,by decide +kernel⟩
theorem zE0 {i:Int}(h:i<=1000000):¬ (10:Int) ^ (1000:Int).toNat<=i:=by
 have:(1000001:Int)<=10 ^ (1000:Int).toNat:=by
  have h1:(1000:Int).toNat=7 + 993:=rfl
  (erw [h1];erw [Int.pow_add])
  have h2:(0:Int)<10 ^ 993:=Int.pow_pos (by decide)
  have h3:(10:Int) ^ 7=10000000:=by decide
  erw [h3]
  omega
 omega
theorem qo {α:Type}(σ:List α)(x y:α):(σ++[x]).set σ.length y=σ++[y]:=by
 (erw [io _ _ (bn _)];erw [ki]);rfl
theorem zDv {p:Prop}[Decidable p]{Q:Prop}(h1:p->P)(h2:¬ p->Q):Br (decide p) P Q:=by
 by_cases h:p
 ·erw [decide_eq_true h];exact h1 h
 ·erw [decide_eq_false h];exact h2 h
theorem YC {Q:Prop}(h1:b=true->P)(h2:b=false->Q):Br b P Q:=by
 cases b with
 | true=>exact h1 rfl
 | false=>exact h2 rfl
theorem Wt {p:Prop}[Decidable p]{P Q:Prop}:Br (decide p) P Q=((p->P)/\(¬ p->Q)):=propext ⟨λ h=>⟨λ q=>h.t (decide_eq_true q),λ q=>h.f (decide_eq_false q)⟩,λ h=>zDv h.1 h.2⟩
theorem zHb {Q:Prop}:Br b P Q=((b=true->P)/\(b=false->Q)):=propext ⟨λ h=>⟨h.t,h.f⟩,λ h=>YC h.1 h.2⟩
theorem YX (h:zAZ y=true):Sh x y:=by
 have:y.depth=0:=by cases y <;> first | rfl | exact bd h
 show min _ _<=64
 (erw [this];erw [Nat.min_zero]);exact bO _
theorem yE (h:zAZ x=true):Sh x y:=by
 have:x.depth=0:=by cases x <;> first | rfl | exact bd h
 show min _ _<=64
 (erw [this];erw [Nat.zero_min]);exact bO _
theorem sh1 {y:ab}:Sh .none y=True:=eq_true (yE rfl)
theorem sh2 {b:Bool}{y:ab}:Sh (.bool b) y=True:=eq_true (yE rfl)
theorem sh3 {b:Int}{y:ab}:Sh (.int b) y=True:=eq_true (yE rfl)
theorem sh4 {b:aN}{y:ab}:Sh (.str b) y=True:=eq_true (yE rfl)
theorem sh5 {y:ab}:Sh y .none=True:=eq_true (YX rfl)
theorem sh6 {b:Bool}{y:ab}:Sh y (.bool b)=True:=eq_true (YX rfl)
theorem sh7 {b:Int}{y:ab}:Sh y (.int b)=True:=eq_true (YX rfl)
theorem sh8 {b:aN}{y:ab}:Sh y (.str b)=True:=eq_true (YX rfl)
theorem sh9 {y:ab}:Sh (.tuple []) y=True:=eq_true (ae (hU _ _) (by decide))
theorem zEE {y:ab}:Sh y (.tuple [])=True:=eq_true (ae (dG _ _) (by decide))
theorem zEa {y:ab}:Sh (.list []) y=True:=eq_true (ae (hU _ _) (by decide))
theorem zEl {y:ab}:Sh y (.list [])=True:=eq_true (ae (dG _ _) (by decide))
theorem Jm:bu "clause"=true:=by decide +kernel
theorem Wz:bu "and"=true:=by decide +kernel
theorem zAH:bu "or"=true:=by decide +kernel
theorem Jy:bu "elemen"=true:=by decide +kernel
theorem Jw:bu "linear"=true:=by decide +kernel
theorem Jq:(ag "clause").cps.size<=100000:=by decide +kernel
theorem vF:(ag "and").cps.size<=100000:=by decide +kernel
theorem zAT:(ag "or").cps.size<=100000:=by decide +kernel
theorem jw:(ag "element").cps.size<=100000:=by decide +kernel
theorem yh:(ag "element_of").cps.size<=100000:=by decide +kernel
theorem yw:(ag "linear_eq").cps.size<=100000:=by decide +kernel
theorem YR:(ag "linear_le").cps.size<=100000:=by decide +kernel
theorem zG {s:St}{ss:List St}(h:wpS C T n s ρ σ λ fl sL σ'=>jv fl (wpSs C T n ss sL σ' S) (S fl sL σ')):wpSs C T n (s::ss) ρ σ S:=h
theorem zq {α:Type}{step:ab->α->(α->Prop)->Prop}{a:α}{K:α->Prop}(h:step x a λ a'=>zH step xs a' K):zH step (x::xs) a K:=h
theorem ZZ {α:Type}{step:ab->α->(α->Prop)->Prop}{a:α}{K:α->Prop}(h:K a):zH step [] a K:=h
theorem ZY {pt:D}{made:List (Ky×D)}:(zE fd pt vars tolds made++τ).length=8 + τ.length:=fk τ.length 8
theorem JJ :idx n (j:Int)=some j:=rfl
theorem SXL:(type_of% @Wt)/\(type_of% @sh1)/\(type_of% @sh2)/\(type_of% @sh3)/\(type_of% @sh4)/\(type_of% @sh5)/\(type_of% @sh6)/\(type_of% @sh7)/\(type_of% @sh8)/\(type_of% @sh9)/\(type_of% @zEE)/\(type_of% @zEa)/\(type_of% @zEl)/\(type_of% @Jw)/\(type_of% @Jm)/\(type_of% @Wz)/\(type_of% @zAH)/\(type_of% @Jy)/\(type_of% @Jq)/\(type_of% @vF)/\(type_of% @zAT)/\(type_of% @jw)/\(type_of% @yh)/\(type_of% @yw)/\(type_of% @YR)/\(type_of% @decide_true)/\(type_of% @decide_false)/\(type_of% @true_and)/\(type_of% @and_true)/\(type_of% @aX.{0})/\(type_of% @qo)/\(type_of% @aP.{0})/\(type_of% @beq_self_eq_true.{0})/\(type_of% @dB)/\(type_of% @f8)/\(type_of% @bO)/\(type_of% @oI.{0})/\(type_of% @pc)/\(type_of% @pp) :=
 ⟨@Wt,@sh1,@sh2,@sh3,@sh4,@sh5,@sh6,@sh7,@sh8,@sh9,@zEE,@zEa,@zEl,@Jw,@Jm,@Wz,@zAH,@Jy,@Jq,@vF,@zAT,@jw,@yh,@yw,@YR,@decide_true,@decide_false,@true_and,@and_true,@aX.{0},@qo,@aP.{0},@beq_self_eq_true.{0},@dB,@f8,@bO,@oI.{0},@pc,@pp⟩
theorem zDx {a b:Nat}(h:a + (b + 1)<=90000):a<=90000:=ae (aH a (b + 1)) h
theorem zDt {α:Type}{l:List α}{x:α}{b:Nat}(h:l.length + (b + 1)<=90000):(l++[x]).length + b<=90000:=by
 (erw [ak];erw [gC];erw [fk _ b]);exact h
theorem few {a:Nat}(h:a<=90000):a<=100000:=ae h (nB9 rfl)
section
variable {α:Type}{step:ab->List ab×zA->(List ab×zA->Prop)->Prop}{f:α->ab}{p:α->Bool}{h:α->ab}{σ:zA}{K:List ab×zA->Prop}
theorem qX (xs:List α):∀ (acc:List ab),acc.length + xs.length<=90000->(∀ x,x∈xs->∀ (acc:List ab) (K:List ab×zA->Prop),acc.length<=100000->K (acc++[h x],σ)->step (f x) (acc,σ) K)->K (acc++xs.map h,σ)->zH step (xs.map f) (acc,σ) K:=by
 induction xs with
 | nil=>intro acc _ _ k;rw [bW,aP] at k;exact k
 | cons x xs ih=>exact λ acc hl hs k=>hs x (.head _) acc _ (few (zDx hl)) (ih _ (zDt hl) (λ y m=>hs y (.tail _ m)) (by erw [au];exact k))
theorem yU (xs:List α):∀ (acc:List ab),acc.length + xs.length<=90000->(∀ x,x∈xs->∀ (acc:List ab) (K:List ab×zA->Prop),acc.length<=100000->(p x=true->K (acc++[h x],σ))->(p x=false->K (acc,σ))->step (f x) (acc,σ) K)->K (acc++(xs.filter p).map h,σ)->zH step (xs.map f) (acc,σ) K:=by
 induction xs with
 | nil=>intro acc _ _ k;rw [ii,bW,aP] at k;exact k
 | cons x xs ih =>
  intro acc hl hs k
  rw [cq] at k
  refine hs x (.head _) acc _ (few (zDx hl)) (λ e=>?_) (λ e=>?_)
  ·rw [e] at k
   exact ih _ (zDt hl) (λ y m=>hs y (.tail _ m)) (by erw [au];exact k)
  ·rw [e] at k
   exact ih _ (ae (dE (dj _) _) hl) (λ y m=>hs y (.tail _ m)) k
end
local macro_rules | `(tactic| walk_at "ds")=>`(tactic| dsimp [Qg,zEp,zEO,wh,Xr,-Int.reducePow])
local macro_rules | `(tactic| walk_at "sx")=>`(tactic| simp only [SXL,Sm,Few,Lt64,Rg,Int.reduceLE,Int.reduceLT,Int.reduceNeg,Int.reduceToNat,Nat.reduceLeDiff,Nat.reduceLT,↓reduceIte,reduceCtorEq])
local macro_rules | `(tactic| walk_at "st")=>`(tactic| ((try walk_at "ds");(try walk_at "ds");repeat (walk_at "sx";(try walk_at "ds");try walk_at "ds")))
local macro_rules | `(tactic| walk_at "go")=>`(tactic| (walk_at "st";repeat (refine zG ?_;walk_at "st")))
section
variable {C:Cx}{n:Nat}{σ:zA}{Q:D->zA->Prop}
@[elab_as_elim] theorem zZ {α:Type}{a x:α}{motive:α->Prop}(m:x∈[a])(h:motive a):motive x:=by cases aG.mp m;exact h
@[elab_as_elim] theorem ZA {α:Type}{a x:α}{l:List α}{motive:α->Prop}(m:x∈a::l)(h:motive a)(k:x∈l->motive x):motive x:=by
 rcases aJ.mp m with rfl | m
 ·exact h
 ·exact k m
theorem jl (L:Law1 C)(q:Q (.p (.tuple (if lo<=hi then [.tuple [.int lo,.int hi]] else []))) σ):SatCall C T1 (n + 1) 28 [.p (.int lo),.p (.int hi)] σ Q:=by
 refine zL L.Y L.TT L.range_of rfl ?_
 unfold yY
 walk_at "go"
 exact ⟨λ h=>zD rfl (by simpa [h] using q),λ h=>zD rfl (by simpa [h] using q)⟩
theorem zBF (L:Law1 C){r:List ab}(q:Q (.p (.int lo)) σ):SatCall C T1 (n + 1) 49 [.p (.tuple (.tuple [.int lo,.int hi]::r))] σ Q:=by
 refine zL L.Y L.TT L.least rfl ?_
 unfold Je
 walk_at "go"
 exact zD rfl q
theorem XR (L:Law1 C){r:List ab}(q:Q (.p (.int hi)) σ):SatCall C T1 (n + 1) 56 [.p (.tuple (r++[.tuple [.int lo,.int hi]]))] σ Q:=by
 refine zL L.Y L.TT L.greatest rfl ?_
 unfold yJ
 walk_at "go"
 simp only [ak,aE,lg,fV,ixm,cB,aX]
 walk_at "go"
 exact zD rfl q
theorem jJ (L:Law1 C){i:Int}(h:-1000000<=i/\i<=1000000)(q:Q (.p (.int i)) σ):SatCall C T1 (n + 1) 200 [.p (.int i)] σ Q:=by
 refine zL L.Y L.TT L.within_figures rfl ?_
 unfold Z3
 walk_at "go"
 exact ⟨zFi,λ hh=>absurd hh (zE0 (by lia)),λ _=>zD rfl q⟩
theorem uG (L:Law1 C){i:Int}{k:aN}(q:Q (.p (.bool false)) σ):SatCall C T1 (n + 1) 209 [.p (.int i),.p (.str k)] σ Q:=by
 refine zL L.Y L.TT L.is_made rfl ?_
 unfold qa
 walk_at "go"
 exact zD rfl q
theorem JL (L:Law1 C){i:Bool}{k:aN}(q:Q (.p (.bool false)) σ):SatCall C T1 (n + 1) 209 [.p (.bool i),.p (.str k)] σ Q:=by
 refine zL L.Y L.TT L.is_made rfl ?_
 unfold qa
 walk_at "go"
 exact zD rfl q
theorem yl (L:Law1 C){j k:aN}{a b:ab}(q:Q (.p (.bool (j==k))) σ):SatCall C T1 (n + 1) 209 [.p (.tuple [.str j,a,b]),.p (.str k)] σ Q:=by
 refine zL L.Y L.TT L.is_made rfl ?_
 unfold qa
 walk_at "go"
 exact zD rfl q
end
inductive Th where
 | tru (b:Bool)
 | num (i:Int)
 | bit (x:Int) (s:Bool)
 | sum (ps:List (Int×Int)) (c:Int)
variable {ts pool:List Th}{u two:Th}
noncomputable def zO (ps:List (Int×Int)):List ab:=ps.map λ p=>.tuple [.int p.1,.int p.2]
noncomputable def qQ (ps:List (Int×Int))(c:Int):ab:=.tuple [.str "sum",.tuple (zO ps),.int c]
noncomputable def enc:Th->ab
 | .tru b=>.bool b
 | .num i=>.int i
 | .bit x s=>.tuple [.str "bit",.int x,.bool s]
 | .sum ps c=>qQ ps c
noncomputable def zd:Th->List (Int×Int)
 | .tru _=>[]
 | .num _=>[]
 | .bit x s=>if s then [(x,1)] else [(x,-1)]
 | .sum ps _=>ps
noncomputable def cOf:Th->Int
 | .tru b=>if b then 1 else 0
 | .num i=>i
 | .bit _ s=>if s then 0 else 1
 | .sum _ c=>c
noncomputable def isT:Th->Bool
 | .tru _=>true
 | .num _=>false
 | .bit _ _=>true
 | .sum _ _=>false
noncomputable def isK:Th->Bool
 | .tru _=>true
 | .num _=>true
 | .bit _ _=>false
 | .sum _ _=>false
noncomputable def neg:Th->Th
 | .tru b=>.tru (!b)
 | .bit x s=>.bit x (!s)
 | t=>t
section
variable {C:Cx}{n:Nat}{σ:zA}{Q:D->zA->Prop}
theorem XO (L:Law1 C){t:Th}(q:Q (.p (.bool false)) σ):SatCall C T1 (n + 1) 193 [.p (enc t)] σ Q:=by
 refine zL L.Y L.TT L.is_array rfl ?_
 unfold yH
 cases t with
 | sum ps c=>unfold enc qQ;walk_at "go";exact zD rfl q
 | _=>unfold enc;walk_at "go";exact zD rfl q
theorem ub (L:Law1 C){t:Th}(q:Q (.p (.bool (match t with | .tru _=>false | .num _=>false | .bit _ _=>b | .sum _ _=>!b))) σ):SatCall C T1 (n + 1) 209 [.p (enc t),.p (.str (bif b then ag "bit" else ag "sum"))] σ Q:=by
 cases t with
 | tru b=>exact JL L q
 | num i=>exact uG L q
 | bit x s=>cases b <;> exact yl L q
 | sum ps c=>cases b <;> exact yl L q
theorem Zm (L:Law1 C){t:Th}(q:Q (.p (.bool (match t with | .bit _ _=>true | _=>false))) σ):SatCall C T1 (n + 1) 209 [.p (enc t),.p (.str "bit")] σ Q:=ub L (b:=true) (by cases t <;> exact q)
theorem xU (L:Law1 C){t:Th}(q:Q (.p (.bool (match t with | .sum _ _=>true | _=>false))) σ):SatCall C T1 (n + 1) 209 [.p (enc t),.p (.str "sum")] σ Q:=ub L (b:=false) (by cases t <;> exact q)
theorem Q3 (L:Law1 C){t:Th}(q:Q (.p (.bool (isT t))) σ):SatCall C T1 (n + 2) 216 [.p (enc t)] σ Q:=by
 refine zL L.Y L.TT L.is_truth rfl ?_
 unfold Q5
 cases t with
 | tru b=>unfold enc;walk_at "go";exact zD rfl q
 | num i=>unfold enc;walk_at "go";refine Zm L (t:=.num i) ?_;walk_at "go";exact zD rfl q
 | bit x s=>unfold enc;walk_at "go";refine Zm L (t:=.bit x s) ?_;walk_at "go";exact zD rfl q
 | sum ps c=>unfold enc qQ;walk_at "go";refine Zm L (t:=.sum ps c) ?_;walk_at "go";exact zD rfl q
theorem yd (L:Law1 C){t:Th}(q:Q (.p (.bool (isK t))) σ):SatCall C T1 (n + 2) 221 [.p (enc t)] σ Q:=by
 refine zL L.Y L.TT L.is_known rfl ?_
 unfold yO
 walk_at "go"
 refine XO L ?_
 walk_at "go"
 refine xU L ?_
 cases t with
 | tru b=>walk_at "go";refine Zm L ?_;walk_at "go";exact zD rfl q
 | num i=>walk_at "go";refine Zm L ?_;walk_at "go";exact zD rfl q
 | bit x s=>walk_at "go";refine Zm L ?_;walk_at "go";exact zD rfl q
 | sum ps c=>walk_at "go";exact zD rfl q
theorem ZL (L:Law1 C){t:Th}(h:isT t=true)(q:Q (.p (enc (neg t))) σ):SatCall C T1 (n + 1) 240 [.p (enc t)] σ Q:=by
 refine zL L.Y L.TT L.contrary rfl ?_
 unfold yG
 cases t with
 | tru b=>unfold enc;walk_at "go";exact zD rfl q
 | bit x s=>unfold enc;walk_at "go";exact zD rfl q
 | num i=>cases h
 | sum ps c=>cases h
theorem Q8 (L:Law1 C){t:Th}(q:Q (.p (qQ (zd t) (cOf t))) σ):SatCall C T1 (n + 2) 228 [.p (enc t)] σ Q:=by
 refine zL L.Y L.TT L.sum_of rfl ?_
 unfold jL
 walk_at "st"
 refine zG ?_
 walk_at "st"
 refine xU L ?_
 cases t with
 | tru b =>
  walk_at "go"
  refine Zm L ?_
  unfold enc
  walk_at "go"
  cases b <;> exact zD rfl q
 | num i =>
  walk_at "go"
  refine Zm L ?_
  unfold enc
  walk_at "go"
  exact zD rfl q
 | bit x s =>
  walk_at "go"
  refine Zm L ?_
  unfold enc
  cases s <;> walk_at "go" <;> exact zD rfl q
 | sum ps c =>
  walk_at "go"
  exact zD rfl q
end
noncomputable def qc (x k c:Int):Th:=if k=0 then .num c else .sum [(x,k)] c
section
variable {C:Cx}{n:Nat}{σ:zA}{Q:D->zA->Prop}
theorem WX (L:Law1 C){t1 t2:Th}{x a k:Int}(h1:zd t1=[])(h2:zd t2=[(x,a)])(hx:0<=x/\x<=10000)(hk:-1000<=k/\k<=1000)(ha:-1000<=a/\a<=1000)(hc:-1000<=cOf t2/\cOf t2<=1000)(hs:-1000000<=cOf t1 + k * cOf t2/\cOf t1 + k * cOf t2<=1000000)(hp:-1000000<=k * a/\k * a<=1000000)
  (q:Q (.p (enc (qc x (k * a) (cOf t1 + k * cOf t2)))) σ):SatCall C T1 (n + 3) 233 [.p (enc t1),.p (enc t2),.p (.int k)] σ Q:=by
 refine zL L.Y L.TT L.plus rfl ?_
 unfold UY
 walk_at "go"
 refine Q8 L ?_
 walk_at "go"
 refine Q8 L ?_
 (erw [h1];erw [h2])
 unfold qQ zO
 have e0:qJ []=some []:=rfl
 have hf:∀ {i:Int},-1000<=i/\i<=1000->Fit i:=λ h=>ZN ⟨ai (by decide) h.1,ai h.2 (by decide)⟩
 walk_at "go"
 erw [e0]
 walk_at "st"
 refine ⟨f9,hf hk,hf hc,jJ L hs ?_⟩
 have l0:zP x []=none:=rfl
 have p0:Qc x (.p (.int (k * a))) []=[(x,.p (.int (k * a)))]:=rfl
 have s1:ZF [x]=[x]:=rfl
 have l1:zP x [(x,D.p (.int (k * a)))]=some (.p (.int (k * a))):=by
  show (dz _ _).map _=_
  (erw [bX];erw [decide_eq_true rfl]);rfl
 have D7:-9223372036854775808<=x/\x<9223372036854775808:=⟨ai (by decide) hx.1,gf hx.2 (by decide)⟩
 walk_at "go"
 refine ⟨hf hk,hf ha,?_⟩
 simp only [l0,kL]
 walk_at "st"
 refine jJ L (by erw [df];exact hp) ?_
 erw [df]
 walk_at "st"
 erw [p0]
 refine ZZ ?_
 walk_at "go"
 refine .inl ?_
 walk_at "st"
 erw [s1]
 refine ⟨(by decide:1<=100000),?_⟩
 show zM _ _ _ _ _ _ _ _ _ (be x) _ (λ a'=>zH _ [] a' _)
 walk_at "st"
 erw [l1]
 walk_at "st"
 unfold qc at q
 by_cases h0:k * a=0
 ·rw [if_pos h0] at q
  have hb:(k * a==0)=true:=beq_iff_eq.mpr h0
  erw [hb]
  walk_at "st"
  refine ZZ ?_
  unfold zW
  walk_at "go"
  exact Zg rfl q
 ·rw [if_neg h0] at q
  have hb:(k * a==0)=false:=beq_eq_false_iff_ne.mpr h0
  erw [hb]
  walk_at "st"
  refine ZZ ?_
  unfold zW
  walk_at "go"
  exact Zg rfl q
end
section
variable {C:Cx}{n:Nat}{fd:MO}{pt:D}{vars tolds:List ab}{made:List (Ky×D)}{τ:zA}{Q:D->zA->Prop}
theorem QR (L:Law1 C)(h:vars.length<=10000)(q:Q (.p (.int vars.length)) (zE fd pt (vars++[.tuple [nm,dom]]) tolds made++τ)):SatCall C T1 (n + 1) 158 [.obj 4,.p nm,.p dom] (zE fd pt vars tolds made++τ) Q:=by
 refine zL L.Y L.TT L.new_var rfl ?_
 unfold yx
 walk_at "go"
 refine ⟨by exact ae h (nB9 rfl),?_⟩
 walk_at "go"
 refine ⟨by simp;exact ae h (nB9 rfl),zD rfl ?_⟩
 simpa using q
theorem YO (L:Law1 C){AX:ab}(h:tolds.length<=10000)(q:Q (.p .none) (zE fd pt vars (tolds++[AX]) made++τ)):SatCall C T1 (n + 1) 165 [.obj 4,.p AX] (zE fd pt vars tolds made++τ) Q:=by
 refine zL L.Y L.TT L.post rfl ?_
 unfold Ui
 walk_at "go"
 exact ⟨by exact ae h (nB9 rfl),zD rfl q⟩
theorem WH (L:Law1 C)(h:vars.length<=10000)(q:Q (.p (.int vars.length)) (zE fd pt vars tolds made++τ)):SatCall C T1 (n + 1) 172 [.obj 4] (zE fd pt vars tolds made++τ) Q:=by
 refine zL L.Y L.TT L.size rfl ?_
 unfold uh
 walk_at "go"
 exact ⟨by exact ae h (nB9 rfl),zD rfl q⟩
theorem Qf (L:Law1 C){x:Nat}(hx:x<=10000)(h:vars[x]?=some (.tuple [nm,dom]))(q:Q (.p dom) (zE fd pt vars tolds made++τ)):SatCall C T1 (n + 1) 179 [.obj 4,.p (.int x)] (zE fd pt vars tolds made++τ) Q:=by
 refine zL L.Y L.TT L.domain_of rfl ?_
 unfold Qi
 walk_at "go"
 simp only [cB,h]
 walk_at "go"
 exact ⟨⟨by exact of_decide_eq_true rfl,by lia⟩,zD rfl q⟩
end
noncomputable def y9 (k:Nat):ab:=.str (ag "#"++ag (toString (k:Int)))
noncomputable def ZE (rs:List (Int×Int)):ab:=.tuple (zO rs)
theorem Xp {q:Ky}{d:D}{es:List (Ky×D)}(h:zw q es=none):zw q (es++[(q,d)])=some d:=by
 unfold zw at *
 rw [hH] at h
 (erw [oJ];erw [h])
 simp
def sm3 (i:Int):Prop:=-1000<=i/\i<=1000
theorem zE8 {a:Int}(h:sm3 a):-1000000<=(a.natAbs:Int)/\(a.natAbs:Int)<=1000000:=⟨ai (oD9 rfl) (az _),ew.mpr (XN (n:=1000000) (ai (oD9 rfl) h.1) (ai h.2 (oD9 rfl)))⟩
theorem zFB {a b:Int}(ha:sm3 a)(hb:sm3 b):-1000000<=ze (a.natAbs:Int) [(b.natAbs:Int)]/\ze (a.natAbs:Int) [(b.natAbs:Int)]<=1000000:=by
 simp only [JG,jR]
 split
 ·exact zE8 hb
 ·exact zE8 ha
theorem zf (ps:List (Int×Int)):(zO ps).length=ps.length:=aj ..
theorem zEF (h:k<=10000):-9223372036854775808<=(k:Int)/\(k:Int)<9223372036854775808:=⟨ai (oD9 rfl) (az k),gf (ew.mpr h) (oD9 rfl)⟩
section
variable {C:Cx}{n:Nat}{fd:MO}{pt:D}{vars tolds:List ab}{made:List (Ky×D)}{τ:zA}{Q:D->zA->Prop}
theorem Xg (L:Law1 C){k:List ab}{q:Ky}{dom:ab}{j:Int}(hd:Kd (.tuple k))(hq:keyDs k=some q)(h:zw q made=some (.p (.int j)))(hQ:Q (.p (.tuple [.int j,.bool false])) (zE fd pt vars tolds made++τ)) :
  SatCall C T1 (n + 2) 268 [.obj 2,.p (.tuple k),.p dom] (zE fd pt vars tolds made++τ) Q:=by
 refine zL L.Y L.TT L.once rfl ?_
 unfold jY
 walk_at "go"
 simp only [hq,h,Option.isSome_some]
 refine ⟨hd,?_⟩
 walk_at "go"
 simp only [hq,h]
 walk_at "go"
 exact ⟨hd,zD rfl hQ⟩
theorem Ve (L:Law1 C){d0 d1 d2 d3:Option D}{S:Fl->Rho->zA->Prop}{K:Rho×zA->Prop}:∀ (rs:List (Int×Int)) (u4 u5:Option D),(∀ p,p∈rs->sm3 p.1/\sm3 p.2)->(∀ v4 v5,K ([d0,d1,d2,d3,v4,v5],σ)) ->
  zH (zK C T1 (n + 1) (.tup [(.nm 4),(.nm 5)]) [(.expr (.call false (.gl 19) [(.call false (.gl 3) [(.call false (.gl 2) [(.nm 4)]),(.call false (.gl 2) [(.nm 5)])])]))] none S) (zO rs) ([d0,d1,d2,d3,u4,u5],σ) K:=by
 intro rs
 induction rs with
 | nil=>exact λ u4 u5 _ h=>h u4 u5
 | cons p rs ih =>
  intro u4 u5 hr h
  have hp:=hr p (.head _)
  show zK _ _ _ _ _ _ _ (bE [.int p.1,.int p.2]) _ (λ a'=>zH _ (zO rs) a' K)
  walk_at "go"
  refine jJ L (zFB hp.1 hp.2) ?_
  walk_at "go"
  exact ih _ _ (λ p m=>hr p (.tail _ m)) h
theorem Xk (L:Law1 C){k:List ab}{q:Ky}(hr:rs.length<=1000/\∀ p,p∈rs->sm3 p.1/\sm3 p.2)(hv:vars.length<=10000)(hm:made.length<=10000)(hd:Kd (.tuple k))(hq:keyDs k=some q)(h:zw q made=none)
  (hQ:Q (.p (.tuple [.int vars.length,.bool true])) (zE fd pt (vars++[.tuple [y9 vars.length,ZE rs]]) tolds (made++[(q,.p (.int vars.length))])++τ)) :
  SatCall C T1 (n + 2) 268 [.obj 2,.p (.tuple k),.p (ZE rs)] (zE fd pt vars tolds made++τ) Q:=by
 refine zL L.Y L.TT L.once rfl ?_
 unfold jY ZE at *
 walk_at "go"
 simp only [hq,h,Option.isSome_none]
 refine ⟨hd,?_⟩
 walk_at "go"
 refine ⟨by erw [zf];exact ae hr.1 (by decide),Ve L rs _ _ hr.2 λ v4 v5=>?_⟩
 walk_at "go"
 refine WH L hv ?_
 walk_at "go"
 refine ⟨zEF hv,QR L hv ?_⟩
 walk_at "go"
 simp only [hq,h]
 refine ⟨hd,ae hm (nB9 rfl),?_⟩
 walk_at "go"
 simp only [hq,Xp h]
 refine ⟨hd,?_⟩
 walk_at "go"
 exact zD rfl hQ
end
noncomputable def hull (rs:List (Int×Int)):Int×Int:=((rs.headD (0,0)).1,(rs.getLastD (0,0)).2)
noncomputable def bnd (B:Int->Int×Int):List (Int×Int)->Int×Int->Int×Int
 | [],p=>p
 | (x,a)::ps,(l,h)=>bnd B ps (l + zm (a * (B x).1) [a * (B x).2],h + ze (a * (B x).1) [a * (B x).2])
theorem zFI {p:Int×Int}:bnd B [] p=p:=rfl
theorem zFv {x a l h:Int}:bnd B ((x,a)::ps) (l,h)=bnd B ps (l + zm (a * (B x).1) [a * (B x).2],h + ze (a * (B x).1) [a * (B x).2]):=rfl
def zEm (vars:List ab)(x:Int)(rs:List (Int×Int)):Prop:=0<=x/\x<=10000/\rs≠[]/\∃ nm,vars[x.toNat]?=some (.tuple [nm,ZE rs])
def BOk (vars:List ab)(B:Int->Int×Int)(ps:List (Int×Int)):Prop:=∀ p,p∈ps->(∃ rs,zEm vars p.1 rs/\B p.1=hull rs)/\sm3 p.2/\sm3 (B p.1).1/\sm3 (B p.1).2
theorem XK {i:Int}(h:sm3 i):Fit i:=ZN ⟨ai (by decide) h.1,ai h.2 (by decide)⟩
section
variable {C:Cx}{n:Nat}{fd:MO}{pt:D}{vars tolds:List ab}{made:List (Ky×D)}{τ:zA}{Q:D->zA->Prop}
theorem zDl (L:Law1 C)(h:rs≠[]):(∀ {Q:D->zA->Prop},Q (.p (.int (hull rs).1)) σ->SatCall C T1 (n + 1) 49 [.p (ZE rs)] σ Q)/\∀ {Q:D->zA->Prop},Q (.p (.int (hull rs).2)) σ->SatCall C T1 (n + 1) 56 [.p (ZE rs)] σ Q:=by
 constructor
 ·intro Q q
  cases rs with
  | nil=>exact absurd rfl h
  | cons p r=>exact zBF L q
 ·intro Q q
  have e:=List.dropLast_concat_getLast h
  have e2:hull rs=((rs.headD (0,0)).1,(rs.getLast h).2):=by unfold hull;(erw [lJ];erw [kS h]);rfl
  have e3:ZE rs=.tuple (zO rs.dropLast++[.tuple [.int (rs.getLast h).1,.int (rs.getLast h).2]]):=by
   unfold ZE zO
   (refine rwS (dP (f:=λ p:Int×Int=>bE [.int p.1,.int p.2])) ?_;refine rwS aT ?_;erw [e];rfl)
  erw [e3]
  rw [e2] at q
  exact XR L q
theorem zAn (L:Law1 C){d1 d2:Option D}{S:Fl->Rho->zA->Prop}{K:Rho×zA->Prop}:∀ (ps:List (Int×Int)) (l h:Int) (u5 u6 u7:Option D),BOk vars B ps ->
  (∀ v5 v6 v7,K ([some (.obj 2),d1,d2,some (.p (.int (bnd B ps (l,h)).1)),some (.p (.int (bnd B ps (l,h)).2)),v5,v6,v7],zE fd pt vars tolds made++τ)) ->
  zH (zK C T1 (n + 1) (.tup [(.nm 5),(.nm 6)]) [(.asg (.pt (.nm 7)) (.tup [(.bin .Mult (.nm 6) (.call false (.gl 17) [(.meth (.attr (.nm 0) 10) 19 [(.nm 5)])])),(.bin .Mult (.nm 6) (.call false (.gl 18) [(.meth (.attr (.nm 0) 10) 19 [(.nm 5)])]))])),(.asg (.tup [(.pt (.nm 3)),(.pt (.nm 4))]) (.tup [(.bin .Add (.nm 3) (.call false (.gl 4) [(.nm 7)])),(.bin .Add (.nm 4) (.call false (.gl 3) [(.nm 7)]))]))] none S) (zO ps)
   ([some (.obj 2),d1,d2,some (.p (.int l)),some (.p (.int h)),u5,u6,u7],zE fd pt vars tolds made++τ) K:=by
 intro ps
 induction ps with
 | nil =>
  intro l h u5 u6 u7 _ hk
  exact hk u5 u6 u7
 | cons p ps ih =>
  intro l h u5 u6 u7 hb hk
  (refine Z0 (hb p (.head _)) λ t7=>?_;(refine Eea (t7) λ rs BQ=>?_;try clear t7;obtain ⟨x0,x1,tq,nm,e1⟩:=BQ;intro e3);intro sa sl sh)
  rw [e3] at sl sh
  obtain ⟨x,a⟩:=p
  dsimp only at *
  (refine Ee (bS x0) λ k CW=>?_;obtain rfl:=CW)
  rw [bq] at e1
  have Im:k<=10000:=ew.mp x1
  have ce:=zDl (n:=n) (σ:=zE fd pt vars tolds made++τ) L tq
  show zK _ _ _ _ _ _ _ (bE [.int k,.int a]) _ (λ a'=>zH _ (zO ps) a' K)
  walk_at "go"
  refine Qf L Im e1 ?_
  walk_at "go"
  refine ce.1 ?_
  walk_at "go"
  refine ⟨XK sa,XK sl,Qf L Im e1 ?_⟩
  walk_at "go"
  refine ce.2 ?_
  walk_at "go"
  refine ⟨XK sa,XK sh,?_⟩
  walk_at "go"
  refine ih _ _ _ _ _ (λ q m=>hb q (.tail _ m)) λ v5 v6 v7=>?_
  have:=hk v5 v6 v7
  simpa only [zFI,zFv,e3] using this
noncomputable def bounds (B:Int->Int×Int)(t:Th):Int×Int:=bnd B (zd t) (cOf t,cOf t)
theorem Uj (L:Law1 C){t:Th}(hb:BOk vars B (zd t))(hl:(zd t).length<=100)(q:Q (.p (.tuple [.int (bounds B t).1,.int (bounds B t).2])) (zE fd pt vars tolds made++τ)) :
  SatCall C T1 (n + 3) 275 [.obj 2,.p (enc t)] (zE fd pt vars tolds made++τ) Q:=by
 refine zL L.Y L.TT L.bounds rfl ?_
 unfold Yy
 walk_at "go"
 refine Q8 L ?_
 unfold qQ
 walk_at "go"
 refine ⟨by erw [zf];exact ae hl (nB9 rfl),zAn L _ _ _ _ _ _ hb λ v5 v6 v7=>?_⟩
 walk_at "go"
 exact zD rfl q
end
def Asc (rs:List (Int×Int)):Prop:=(∀ p,p∈rs->p.1<=p.2)/\rs.Pairwise λ p q=>p.2<q.1
noncomputable def rng (lo hi:Int):List Int:=(gX (hi + 1 - lo).toNat).map λ (j:Nat)=>lo + j
theorem zDA (h:j<(hi + 1 - lo).toNat):lo + j<=hi:=by have h:=rz.mp h;exact liZ [_] [_,_] (.a (.v 0) (.c (.v 0))) (.v 1) [(1,.L (.a (.c (.v 0)) (.k 1)) (.s (.a (.v 1) (.k 1)) (.v 0)))] tT9 h
theorem zDM (h0:lo<=w)(h:w<=hi):(w - lo).toNat<(hi + 1 - lo).toNat:=rz.mpr (by erw [bH (iL h0)];exact liZ [] [_,_,_] (.a (.s (.v 0) (.v 1)) (.k 1)) (.s (.a (.v 2) (.k 1)) (.v 1)) [(1,.L (.v 0) (.v 2))] tT9 h)
theorem xg (h0:-100<=lo)(h:hi<=100):(rng lo hi).length<=201:=by unfold rng;(erw [aj];erw [gr]);omega
theorem rng_mem :w∈rng lo hi ↔ lo<=w/\w<=hi:=by
 unfold rng
 constructor
 ·intro m
  refine Eea (aU.mp m) λ j hj e=>?_
  have hj:=iw.mp hj
  refine rwS e ?_
  exact ⟨Int.le_add_of_nonneg_right (az j),zDA hj⟩
 ·intro h
  exact aU.mpr ⟨(w - lo).toNat,iw.mpr (zDM h.1 h.2),by (erw [bH (iL h.1)];erw [fY];erw [gg];rfl)⟩
noncomputable def vals (rs:List (Int×Int)):List Int:=rs.flatMap λ p=>rng p.1 p.2
theorem vals_mem :w∈vals rs ↔ ∃ p,p∈rs/\p.1<=w/\w<=p.2:=by
 unfold vals
 rw [List.mem_flatMap]
 exact ⟨λ ⟨p,m,h⟩=>⟨p,m,rng_mem.mp h⟩,λ ⟨p,m,h⟩=>⟨p,m,rng_mem.mpr h⟩⟩
noncomputable def pb (rs:List (Int×Int))(v:Int):List (Int×Int):=match rs.getLast? with
 | none=>[(v,v)]
 | some p=>if v<=p.2 + 1 then (if p.2<v then rs.dropLast++[(p.1,v)] else rs) else rs++[(v,v)]
section
variable {C:Cx}{n:Nat}{σ:zA}{Q:D->zA->Prop}
theorem UX (L:Law1 C)(hl:rs.length<=1000)(q:Q (.p .none) (σ++[.lst (zO (pb rs v))])):SatCall C T1 (n + 1) 35 [.obj σ.length,.p (.int v),.p (.int v)] (σ++[.lst (zO rs)]) Q:=by
 refine zL L.Y L.TT L.put_behind rfl ?_
 unfold QG
 have hlen:(zO rs).length<=100000:=by erw [zf];exact ae hl (by decide)
 unfold pb at q
 rcases iq rs with e | ⟨r,p,e⟩
 ·subst e
  have e0:(zO []:List ab)=[]:=rfl
  rw [oK] at q
  erw [e0]
  walk_at "go"
  refine ⟨λ h=>h.elim,λ _=>?_⟩
  walk_at "go"
  exact zD rfl q
 ·rw [ir] at e
  subst e
  rw [nj,nq] at q
  dsimp only at q
  have e1:∀ p:Int×Int,zO (r++[p])=zO r++[.tuple [.int p.1,.int p.2]]:=λ _=>aT
  rw [e1] at hlen ⊢
  have hi:∀ x:ab,(idx (zO r++[x]).length (-1)).bind (λ j=>(zO r++[x])[j]?)=some x:=λ x=>by
   (erw [ak];erw [aC];erw [ixm];erw [zGe];erw [aX];rfl)
  have hx:∀ x:ab,idx (zO r++[x]).length (-1)=some (zO r).length:=λ x=>by
   (erw [ak];erw [aC];erw [ixm];rfl)
  have Au:(0:Int)<(zO r++[bE [.int p.1,.int p.2]]).length:=by (erw [ak];erw [aC]);exact liZ [_] [] (.a (.k 0) (.k 1)) (.c (.a (.v 0) (.k 1))) [] tT9
  walk_at "go"
  erw [hi]
  walk_at "st"
  refine ⟨hlen,λ _=>⟨λ h1=>?_,λ h1=>?_⟩,λ h=>absurd Au h⟩
  ·rw [if_pos h1] at q
   refine zG ?_
   walk_at "st"
   erw [hi]
   walk_at "st"
   refine ⟨λ h2=>?_,λ h2=>?_⟩
   ·rw [if_pos h2] at q
    refine zG ?_
    walk_at "st"
    erw [hi]
    walk_at "st"
    erw [hx]
    walk_at "st"
    refine zD rfl ?_
    rw [e1] at q;exact q
   ·rw [if_neg h2] at q
    walk_at "st"
    refine zD rfl ?_
    rw [e1] at q;exact q
  ·rw [if_neg h1] at q
   walk_at "go"
   refine ⟨hlen,zD rfl ?_⟩
   have e2:zO (r++[p]++[(v,v)])=zO (r++[p])++[.tuple [.int v,.int v]]:=aT
   rw [e2,e1] at q;exact q
end
theorem zCd (ha:Asc rs)(hv:∀ p,p∈rs->p.2<=v)(hl:∀ p,p∈rs->lo<=p.1)(h0:lo<=v) :
  Asc (pb rs v)/\(∀ p,p∈pb rs v->p.2<=v)/\(∀ p,p∈pb rs v->lo<=p.1)/\v∈vals (pb rs v)/\(∀ w,w∈vals rs->w∈vals (pb rs v))/\pb rs v≠[]/\(pb rs v).length<=rs.length + 1:=by
 unfold pb
 rcases iq rs with e | ⟨r,p,e⟩
 ·subst e
  erw [oK]
  refine ⟨⟨λ p m=>?_,dL ..⟩,λ p m=>?_,λ p m=>?_,vals_mem.mpr ⟨_,.head _,aV _,aV _⟩,λ w m=>?_,cW _ _,bn _⟩
  ·refine zZ m ?_;exact aV _
  ·refine zZ m ?_;exact aV _
  ·refine zZ m ?_;exact h0
  ·cases m
 ·rw [ir] at e
  subst e
  (erw [nj];erw [nq])
  dsimp only
  have hp:=hv p (bg _ (.head _))
  have BX:=ha.1 p (bg _ (.head _))
  refine Eaa (di.mp ha.2) λ a1 a2 a3=>?_
  by_cases h1:v<=p.2 + 1
  ·erw [if_pos h1]
   by_cases h2:p.2<v
   ·erw [if_pos h2]
    have sp:∀ {P:Int×Int->Prop},(∀ q,q∈r->P q)->P (p.1,v)->∀ q,q∈r++[(p.1,v)]->P q:=λ h1 h2 q m=>(bB.mp m).elim (h1 q) λ m=>by refine zZ m ?_;exact h2
    have hin:∀ w,w∈vals (r++[p])->w∈vals (r++[(p.1,v)]):=λ w m=>by
     refine Eeaa (vals_mem.mp m) λ q mq h3 h4=>?_
     rcases bB.mp mq with mq | mq
     ·exact vals_mem.mpr ⟨q,bK _ mq,h3,h4⟩
     ·cases aG.mp mq
      exact vals_mem.mpr ⟨(p.1,v),bg _ (.head _),h3,ai h4 hp⟩
    refine ⟨⟨sp (λ q m=>ha.1 q (bK _ m)) (by show p.1<=v;exact liZ [] [_,_,_] (.v 0) (.v 1) [(1,.L (.v 2) (.v 1)),(1,.L (.v 0) (.v 2))] tT9 hp BX),di.mpr ⟨a1,dL ..,λ a ma b mb=>?_⟩⟩,sp (λ q m=>hv q (bK _ m)) (aV _),sp (λ q m=>hl q (bK _ m)) (hl p (bg _ (.head _))),
     vals_mem.mpr ⟨(p.1,v),bg _ (.head _),by show p.1<=v;exact liZ [] [_,_,_] (.v 0) (.v 1) [(1,.L (.v 2) (.v 1)),(1,.L (.v 0) (.v 2))] tT9 hp BX,aV _⟩,hin,by simp,by simp⟩
    refine zZ mb ?_
    exact a3 a ma p (.head _)
   ·erw [if_neg h2]
    have e:v=p.2:=by exact aO ((cy.mp h2)) (hp)
    exact ⟨ha,hv,hl,vals_mem.mpr ⟨p,bg _ (.head _),by exact liZ [] [_,_,_] (.v 0) (.v 1) [(1,.L (.v 2) (.v 1)),(1,.L (.v 0) (.v 2))] tT9 hp BX,eH e⟩,λ w m=>m,by simp,dj _⟩
  ·erw [if_neg h1]
   have sp:∀ {P:Int×Int->Prop},(∀ q,q∈r++[p]->P q)->P (v,v)->∀ q,q∈r++[p]++[(v,v)]->P q:=λ h1 h2 q m=>(bB.mp m).elim (h1 q) λ m=>by refine zZ m ?_;exact h2
   refine ⟨⟨sp ha.1 (aV _),di.mpr ⟨ha.2,dL ..,λ a ma b mb=>?_⟩⟩,sp hv (aV _),sp hl h0,vals_mem.mpr ⟨(v,v),bg _ (.head _),aV _,aV _⟩,λ w m=>?_,by simp,by simp⟩
   ·refine zZ mb ?_
    have:=hv a ma
    rcases bB.mp ma with ma | ma
    ·have h3:=a3 a ma p (.head _);show a.2<v;exact liZ [] [_,_,_,_] (.a (.v 0) (.k 1)) (.v 1) [(1,.L (.v 2) (.v 1)),(1,.L (.v 3) (.v 2)),(1,.L (.a (.v 0) (.k 1)) (.v 3))] tT9 hp BX h3
    ·refine zZ ma ?_;show p.2<v;exact ck (nQ.mp h1)
   ·refine Eea (vals_mem.mp m) λ q mq h3=>?_
    exact vals_mem.mpr ⟨q,bK _ mq,h3⟩
structure Nice (rs:List (Int×Int))(lo hi:Int):Prop where
 asc:Asc rs
 ne:rs≠[]
 lo:∀ p,p∈rs->lo<=p.1
 hi:∀ p,p∈rs->p.2<=hi
 len:rs.length<=100
theorem zB5 :∀ (l:List Int) (rs:List (Int×Int)),l.Pairwise (·<=·)->Asc rs->(∀ v,v∈l->lo<=v/\v<=hi/\∀ p,p∈rs->p.2<=v)->(∀ p,p∈rs->lo<=p.1/\p.2<=hi)->(l≠[]∨rs≠[])->rs.length + l.length<=100 ->
  Nice (l.foldl pb rs) lo hi/\(∀ v,v∈l->v∈vals (l.foldl pb rs))/\∀ v,v∈vals rs->v∈vals (l.foldl pb rs):=by
 intro l
 induction l with
 | nil =>
  intro rs _ ha _ hb tq hl
  exact ⟨⟨ha,tq.resolve_left λ h=>h rfl,λ p m=>(hb p m).1,λ p m=>(hb p m).2,by simpa using hl⟩,(λ _ m=>nomatch m),λ _ m=>m⟩
 | cons v l ih =>
  intro rs hs ha hv hb tq hl
  refine Ea (b9.mp hs) λ s1 s2=>?_
  refine Eaa (hv v (.head _)) λ v1 v2 v3=>?_
  (refine Eaa (zCd ha v3 (λ p m=>(hb p m).1) v1) λ b1 b2 tM=>?_;refine uO tM λ b3 b4 b5 b6 b7=>?_)
  rw [aE] at hl
  refine Eaa (ih (pb rs v) s2 b1 (λ w m=>⟨(hv w (.tail _ m)).1,(hv w (.tail _ m)).2.1,λ p mp=>ai (b2 p mp) (s1 w m)⟩) (λ p m=>⟨b3 p m,ai (b2 p m) v2⟩) (.inr b6) (lin [_,_,_] [] (.a (.v 0) (.v 1)) (.k 100) [(1,.l (.a (.v 2) (.a (.v 1) (.k 1))) (.k 100)),(1,.l (.v 0) (.a (.v 2) (.k 1)))] tT9 hl b7)) λ g1 g2 g3=>?_
  refine ⟨g1,λ w m=>?_,λ w m=>g3 w (b5 w m)⟩
  refine ZA m ?_ λ m=>?_
  ·exact g3 _ b4
  ·exact g2 w m
theorem mem_sortI {x:Int}{l:List Int}:x∈ZF l ↔ x∈l:=(Z9 l).mem_iff
noncomputable def YT (ns:List Int):List (Int×Int):=(ZF ns).foldl pb []
theorem Xu (tq:ns≠[])(hl:ns.length<=100)(hb:∀ v,v∈ns->lo<=v/\v<=hi):Nice (YT ns) lo hi/\∀ v,v∈ns->v∈vals (YT ns):=by
 have hlen:=(Z9 ns).length_eq
 obtain ⟨g1,g2,_⟩:=zB5 (ZF ns) [] (lo:=lo) (hi:=hi) (QL ns) ⟨(λ _ m=>nomatch m),.nil⟩ (λ v m=>⟨(hb v (mem_sortI.mp m)).1,(hb v (mem_sortI.mp m)).2,λ _ m=>nomatch m⟩) (λ _ m=>nomatch m)
  (.inl λ h=>tq (lV.mp (by (refine rwS hlen ?_;erw [h]);rfl))) (by erw [hlen];simpa using hl)
 exact ⟨g1,λ v m=>g2 v (mem_sortI.mpr m)⟩
theorem ZV:∀ l:List Int,ints? (l.map .int)=some l
 | []=>rfl
 | x::r=>by simp only [aY,zEQ,zEN,ZV r];rfl
section
variable {C:Cx}{n:Nat}{σ:zA}{Q:D->zA->Prop}
theorem vU (L:Law1 C){d0:Option D}{S:Fl->Rho->zA->Prop}{K:Rho×zA->Prop}:∀ (l:List Int) (rs:List (Int×Int)) (u2:Option D),rs.length + l.length<=100->(∀ v2,K ([d0,some (.obj σ.length),v2],σ++[.lst (zO (l.foldl pb rs))])) ->
  zH (zK C T1 (n + 1) (.nm 2) [(.expr (.call false (.gl 27) [(.nm 1),(.nm 2),(.nm 2)]))] none S) (l.map .int) ([d0,some (.obj σ.length),u2],σ++[.lst (zO rs)]) K:=by
 intro l
 induction l with
 | nil=>exact λ rs u2 _ h=>h u2
 | cons v l ih =>
  intro rs u2 hl h
  rw [aE] at hl
  show zK _ _ _ _ _ _ _ (be v) _ (λ a'=>zH _ (l.map .int) a' K)
  walk_at "go"
  refine UX L (lin [_,_] [] (.v 0) (.k 1000) [(1,.l (.a (.v 0) (.a (.v 1) (.k 1))) (.k 100))] tT9 hl) ?_
  walk_at "go"
  have hp:(pb rs v).length<=rs.length + 1:=by
   unfold pb
   split
   ·simp
   ·split
    ·split
     ·(erw [ak];erw [List.length_dropLast];erw [aC]);exact dH (Nat.sub_le _ _)
     ·exact dj _
    ·simp
  exact ih _ _ (lin [_,_,_] [] (.a (.v 0) (.v 1)) (.k 100) [(1,.l (.a (.v 2) (.a (.v 1) (.k 1))) (.k 100)),(1,.l (.v 0) (.a (.v 2) (.k 1)))] tT9 hl hp) h
theorem uC (L:Law1 C)(hl:ns.length<=60)(hf:(YT ns).length<=1000)(q:Q (.p (ZE (YT ns))) σ):SatCall C T1 (n + 2) 42 [.p (.tuple (ns.map .int))] σ Q:=by
 refine zL L.Y L.TT L.from_values rfl ?_
 unfold qh
 have hlen:=(Z9 ns).length_eq
 walk_at "go"
 refine .inl ?_
 erw [ZV]
 walk_at "st"
 refine ⟨by exact lin [_] [] (.a (.v 0) (.k 1)) (.k 64) [(1,.l (.v 0) (.k 60))] tT9 hl,by erw [aj];exact lin [_,_] [] (.v 0) (.k 100000) [(1,.l (.v 1) (.k 60)),(1,.e (.v 0) (.v 1))] tT9 hl hlen,?_⟩
 have e0:([]:List ab)=zO []:=rfl
 erw [e0]
 refine vU L (ZF ns) [] _ (by simp;exact lin [_,_] [] (.v 0) (.k 100) [(1,.l (.v 1) (.k 60)),(1,.e (.v 0) (.v 1))] tT9 hl hlen) λ v2=>?_
 walk_at "go"
 refine ⟨by erw [zf];exact ae hf (by decide),?_⟩
 exact Zg rfl q
end
inductive Df where
 | lin (ps:List (Int×Int)) (c:Int)
 | elof (i:Int) (ns:List Int)
 | el (i:Int) (vs:List Int)
 | or (a b:Int)
 | all (a:Int) (s:Bool) (b:Int) (t:Bool)
variable {d:Df}
structure Dd where
 d:Df
 dom:List (Int×Int)
variable {ds sU Bl:List Dd}
noncomputable def Q9:Df->List ab
 | .lin ps c=>[.str "sum",.tuple (zO ps),.int c]
 | .elof i ns=>[.str "element_of",.int i,.tuple (ns.map .int)]
 | .el i vs=>[.str "element",.int i,.tuple (vs.map .int)]
 | .or a b=>[.str "or",.tuple [.int a,.int b]]
 | .all a s b t=>[.str "all",.tuple [zI (a,s),zI (b,t)]]
noncomputable def JO:List (Int×Int)->Ky
 | []=>.nil
 | p::ps=>.cons (.cons (.int p.1) (.cons (.int p.2) .nil)) (JO ps)
noncomputable def qZ:List Int->Ky
 | []=>.nil
 | x::r=>.cons (.int x) (qZ r)
noncomputable def zAP (a:Int)(s:Bool):Ky:=.cons (.str "bit") (.cons (.int a) (.cons (.int (cond s 1 0)) .nil))
noncomputable def Za:Df->Ky
 | .lin ps c=>.cons (.str "sum") (.cons (JO ps) (.cons (.int c) .nil))
 | .elof i ns=>.cons (.str "element_of") (.cons (.int i) (.cons (qZ ns) .nil))
 | .el i vs=>.cons (.str "element") (.cons (.int i) (.cons (qZ vs) .nil))
 | .or a b=>.cons (.str "or") (.cons (.cons (.int a) (.cons (.int b) .nil)) .nil)
 | .all a s b t=>.cons (.str "all") (.cons (.cons (zAP a s) (.cons (zAP b t) .nil)) .nil)
theorem zAX:∀ ps:List (Int×Int),keyDs (zO ps)=some (JO ps)
 | []=>rfl
 | p::ps=>by
  show keyDs (_::zO ps)=_
  (erw [Zs];erw [zAX ps]);rfl
theorem JP:∀ vs:List Int,keyDs (vs.map .int)=some (qZ vs)
 | []=>rfl
 | x::r=>by (erw [aY];erw [Zs];erw [JP r]);rfl
theorem Wg (d:Df):keyDs (Q9 d)=some (Za d):=by
 cases d with
 | lin ps c=>show keyDs [_,_,_]=_;(erw [Zs];erw [Zs];erw [Xy];erw [zAX]);rfl
 | elof i ns=>show keyDs [_,_,_]=_;(erw [Zs];erw [Zs];erw [Zs];erw [Xy];erw [JP]);rfl
 | el i ns=>show keyDs [_,_,_]=_;(erw [Zs];erw [Zs];erw [Zs];erw [Xy];erw [JP]);rfl
 | or a b=>rfl
 | all a s b t=>rfl
theorem xZ:∀ ps:List (Int×Int),bp (zO ps)<=1
 | []=>bO _
 | p::ps=>by
  have ih:=xZ ps
  show max (kn (.tuple [.int p.1,.int p.2])) (bp (zO ps))<=1
  exact i8.mpr ⟨bn _,ih⟩
theorem YH:∀ vs:List Int,bp (vs.map .int)=0
 | []=>rfl
 | x::r=>by
  show max 0 (bp (r.map .int))=0
  erw [YH r];rfl
theorem zAM (d:Df):Kd (.tuple (Q9 d)):=by
 show kn _<=6
 cases d with
 | lin ps c =>
  have:=xZ ps
  show max 0 (max (bp (zO ps) + 1) (max 0 0)) + 1<=6
  exact dH (i8.mpr ⟨bO _,i8.mpr ⟨lin [_] [] (.a (.v 0) (.k 1)) (.k 5) [(1,.l (.v 0) (.k 1))] tT9 this,i8.mpr ⟨bO _,bO _⟩⟩⟩)
 | elof i ns=>show max 0 (max 0 (max (bp (ns.map .int) + 1) 0)) + 1<=6;erw [YH];decide
 | el i ns=>show max 0 (max 0 (max (bp (ns.map .int) + 1) 0)) + 1<=6;erw [YH];decide
 | or a b=>show max 0 (max (max 0 (max 0 0) + 1) 0) + 1<=6;decide
 | all a s b t=>show max 0 (max (max (max 0 (max 0 (max 0 0)) + 1) (max (max 0 (max 0 (max 0 0)) + 1) 0) + 1) 0) + 1<=6;decide
noncomputable def Yl (k:Ky):Option Int:=match k with
 | .int i=>some i
 | _=>none
noncomputable def unC (k:Ky):Option (Ky×Ky):=match k with
 | .cons a r=>some (a,r)
 | _=>none
noncomputable def QJ:Ky->List Int
 | .cons a r=>((Yl a).getD 0)::QJ r
 | _=>[]
noncomputable def un2 (k:Ky):Int×Int:=((unC k).map λ p=>((Yl p.1).getD 0,(((unC p.2).map λ q=>(Yl q.1).getD 0).getD 0))).getD (0,0)
noncomputable def Us:Ky->List (Int×Int)
 | .cons a r=>un2 a::Us r
 | _=>[]
noncomputable def uP (k:Ky):Int×Bool:=((unC k).map λ p=>((un2 p.2).1,decide ((un2 p.2).2=1))).getD (0,false)
noncomputable def hdK (k:Ky):Ky:=((unC k).map (·.1)).getD .nil
noncomputable def tlK (k:Ky):Ky:=((unC k).map (·.2)).getD .nil
noncomputable def zER (k:Ky):Df :=
 bif decide (hdK k=.str "sum") then .lin (Us (hdK (tlK k))) ((Yl (hdK (tlK (tlK k)))).getD 0)
 else bif decide (hdK k=.str "element_of") then .elof ((Yl (hdK (tlK k))).getD 0) (QJ (hdK (tlK (tlK k))))
 else bif decide (hdK k=.str "element") then .el ((Yl (hdK (tlK k))).getD 0) (QJ (hdK (tlK (tlK k))))
 else bif decide (hdK k=.str "or") then .or (un2 (hdK (tlK k))).1 (un2 (hdK (tlK k))).2
 else .all (uP (hdK (hdK (tlK k)))).1 (uP (hdK (hdK (tlK k)))).2 (uP (hdK (tlK (hdK (tlK k))))).1 (uP (hdK (tlK (hdK (tlK k))))).2
theorem XC:∀ ps:List (Int×Int),Us (JO ps)=ps
 | []=>rfl
 | p::ps=>by show un2 _::Us (JO ps)=_;erw [XC ps];rfl
theorem yp:∀ vs:List Int,QJ (qZ vs)=vs
 | []=>rfl
 | p::ps=>by show _::QJ (qZ ps)=_;erw [yp ps];rfl
theorem Zr {a b:String}(h:(ag a==ag b)=false):decide (Ky.str (ag a)=Ky.str (ag b))=false :=
 decide_eq_false λ e=>by have:ag a=ag b:=congrArg (λ k=>match k with | Ky.str s=>s | _=>default) e;rw [this,beq_self_eq_true] at h;exact bd h
theorem XA (d:Df):zER (Za d)=d:=by
 unfold zER
 cases d with
 | lin ps c=>(refine rwE (show hdK (Za (.lin ps c))=.str "sum" from rfl) ?_;erw [decide_eq_true rfl]);show Df.lin (Us (JO ps)) c=_;(erw [XC];rfl)
 | elof i ns=>(refine rwE (show hdK (Za (.elof i ns))=.str "element_of" from rfl) ?_;erw [Zr rfl];erw [decide_eq_true rfl]);show Df.elof i (QJ (qZ ns))=_;(erw [yp];rfl)
 | el i ns=>rw [show hdK (Za (.el i ns))=.str "element" from rfl,Zr rfl,Zr rfl,decide_eq_true rfl];show Df.el i (QJ (qZ ns))=_;(erw [yp];rfl)
 | or a b=>rw [show hdK (Za (.or a b))=.str "or" from rfl,Zr rfl,Zr rfl,Zr rfl,decide_eq_true rfl];rfl
 | all a s b t=>rw [show hdK (Za (.all a s b t))=.str "all" from rfl,Zr rfl,Zr rfl,Zr rfl,Zr rfl];cases s <;> cases t <;> rfl
theorem zEK {d':Df}(h:Za d=Za d'):d=d':=by (refine rwS (XA d) ?_;erw [h];erw [XA];rfl)
inductive Td where
 | lin (zs:List (Int×Int)) (r:Int)
 | elof (i:Int) (ns:List Int) (z:Int)
 | el (i:Int) (vs:List Int) (z:Int)
 | bo (mx:Bool) (a b z:Int)
 | cl (l:List (Int×Bool))
variable {tl:List Td}
noncomputable def ZG (l:List (Int×Bool)):List Int:=(l.filter (·.2)).map (·.1)
noncomputable def zr (l:List (Int×Bool)):List Int:=(l.filter λ p=>!p.2).map (·.1)
noncomputable def zJ:Td->ab
 | .lin zs r=>.tuple [.str "linear_eq",.tuple (zs.map λ z=>.int z.1),.tuple (zs.map λ z=>.int z.2),.int r]
 | .elof i ns z=>.tuple [.str "element_of",.int i,.tuple (ns.map .int),.int z]
 | .el i vs z=>.tuple [.str "element",.int i,.tuple (vs.map .int),.int z]
 | .bo mx a b z=>.tuple [.str (if mx then ag "or" else ag "and"),.tuple [.int a,.int b],.int z]
 | .cl l=>.tuple [.str "clause",.tuple ((ZG l).map .int),.tuple ((zr l).map .int)]
noncomputable def za (j:Int):Df->List Td
 | .lin ps c=>if ps=[] then [] else [.lin ((ps.map λ p=>(p.2,p.1))++[(-1,j)]) (-c)]
 | .elof i ns=>[.elof i ns j]
 | .el i vs=>[.el i vs j]
 | .or a b=>[.bo true a b j]
 | .all a s b t=>if s=true/\t=true then [.bo false a b j] else [.cl [(a,s),(j,false)],.cl [(b,t),(j,false)],.cl [(a,!s),(b,!t),(j,true)]]
noncomputable def zR:Nat->List Dd->List ab
 | _,[]=>[]
 | k,d::r=>.tuple [y9 k,ZE d.dom]::zR (k + 1) r
noncomputable def zN:Nat->List Dd->List Td
 | _,[]=>[]
 | k,d::r=>za k d.d++zN (k + 1) r
noncomputable def zT:Nat->List Dd->List (Ky×D)
 | _,[]=>[]
 | k,d::r=>(Za d.d,.p (.int k))::zT (k + 1) r
theorem Q6 :k + 1 + n=k + (n + 1):=by exact bl (lin [_,_] [] (.a (.a (.v 0) (.k 1)) (.v 1)) (.a (.v 0) (.a (.v 1) (.k 1))) [] tT9) (lin [_,_] [] (.a (.v 0) (.a (.v 1) (.k 1))) (.a (.a (.v 0) (.k 1)) (.v 1)) [] tT9)
theorem wE:∀ (ds:List Dd) (k:Nat) (d:Dd),zR k (ds++[d])=zR k ds++[.tuple [y9 (k + ds.length),ZE d.dom]]:=by
 intro ds
 induction ds with
 | nil=>exact λ _ _=>rfl
 | cons e r ih=>intro k d;show _::zR (k + 1) (r++[d])=_;(erw [ih];erw [Q6]);rfl
theorem qV:∀ (ds:List Dd) (k:Nat) (d:Dd),zN k (ds++[d])=zN k ds++za ((k + ds.length:Nat):Int) d.d:=by
 intro ds
 induction ds with
 | nil=>intro k d;show za k d.d++[]=_;erw [aP];rfl
 | cons e r ih=>intro k d;show _++zN (k + 1) (r++[d])=(_++_)++_;(erw [ih];erw [Q6];erw [au]);rfl
theorem wZ:∀ (ds:List Dd) (k:Nat) (d:Dd),zT k (ds++[d])=zT k ds++[(Za d.d,.p (.int ((k + ds.length:Nat):Int)))]:=by
 intro ds
 induction ds with
 | nil=>exact λ _ _=>rfl
 | cons e r ih=>intro k d;show _::zT (k + 1) (r++[d])=_;(erw [ih];erw [Q6]);rfl
theorem QO:∀ (ds:List Dd) (k:Nat),(zR k ds).length=ds.length:=by
 intro ds
 induction ds with
 | nil=>exact λ _=>rfl
 | cons _ r ih=>exact λ k=>congrArg (· + 1) (ih (k + 1))
theorem ut:∀ (ds:List Dd) (k:Nat),(zT k ds).length=ds.length:=by
 intro ds
 induction ds with
 | nil=>exact λ _=>rfl
 | cons _ r ih=>exact λ k=>congrArg (· + 1) (ih (k + 1))
theorem yT (j:Int)(d:Df):(za j d).length<=3:=by
 cases d with
 | lin ps c =>
  show (if ps=[] then [] else [_]:List Td).length<=3
  by_cases h:ps=[]
  ·erw [if_pos h];exact bO _
  ·erw [if_neg h];exact (by decide:1<=3)
 | all a s b t =>
  show (if s=true/\t=true then [_] else [_,_,_]:List Td).length<=3
  by_cases h:s=true/\t=true
  ·erw [if_pos h];exact (by decide:1<=3)
  ·erw [if_neg h];exact bn _
 | _=>exact (by decide:1<=3)
theorem qi:∀ (ds:List Dd) (k:Nat),(zN k ds).length<=3 * ds.length:=by
 intro ds
 induction ds with
 | nil=>exact λ _=>bn _
 | cons d r ih =>
  intro k
  have h1:=ih (k + 1)
  have h2:=yT k d.d
  show (za k d.d++zN (k + 1) r).length<=3 * (r.length + 1)
  erw [ak];exact lin [_,_,_] [] (.a (.v 0) (.v 1)) (.m 3 (.a (.v 2) (.k 1))) [(1,.l (.v 1) (.m 3 (.v 2))),(1,.l (.v 0) (.k 3))] tT9 h1 h2
noncomputable def jp (q:Ky):Nat->List Dd->Option Nat
 | _,[]=>none
 | k,d::r=>if Za d.d=q then some k else jp q (k + 1) r
theorem wm (q:Ky):∀ (ds:List Dd) (k:Nat),zw q (zT k ds)=(jp q k ds).map λ j=>D.p (.int (j:Nat)):=by
 intro ds
 induction ds with
 | nil=>exact λ _=>rfl
 | cons d r ih =>
  intro k
  have:=ih (k + 1)
  unfold zw at *
  show (dz _ (_::zT (k + 1) r)).map _=(if _ then _ else _:Option Nat).map _
  erw [bX]
  by_cases h:Za d.d=q
  ·(erw [decide_eq_true h];erw [if_pos h]);rfl
  ·(erw [decide_eq_false h];erw [if_neg h]);exact this
theorem JE :∀ {ds:List Dd} {k j:Nat},jp (Za d) k ds=some j->∃ i e,j=k + i/\ds[i]?=some e/\e.d=d
 | [],_,_,h=>nn h
 | e::r,k,j,h=>by
  unfold jp at h
  by_cases q:Za e.d=Za d
  ·rw [if_pos q] at h
   exact ⟨0,e,(so h).symm,rfl,zEK q⟩
  ·rw [if_neg q] at h
   refine Eeeaa (JE h) λ i e' h1 h2 h3=>?_
   exact ⟨i + 1,e',by (erw [h1];erw [gC];rewrite [fk 1];rfl),h2,h3⟩
noncomputable def stt (fd:MO)(pt:D)(vb:List ab)(ds:List Dd):zA:=zE fd pt (vb++zR 3 ds) ((zN 3 ds).map zJ) (zT 3 ds)
@[simp ↓] theorem wX {pt:D}{vb:List ab}:stt fd pt vb ds=zE fd pt (vb++zR 3 ds) ((zN 3 ds).map zJ) (zT 3 ds):=rfl
section
variable {C:Cx}{n:Nat}{fd:MO}{pt:D}{vb:List ab}{ds:List Dd}{τ:zA}{Q:D->zA->Prop}
theorem zDC (L:Law1 C){d:Df}(h3:vb.length=3)(tn:ds.length<=1000)(hr:rs.length<=1000/\∀ p,p∈rs->sm3 p.1/\sm3 p.2)
  (old:∀ i e,ds[i]?=some e->e.d=d->Q (.p (.tuple [.int ((3 + i:Nat):Int),.bool false])) (stt fd pt vb ds++τ))
  (new:Q (.p (.tuple [.int ((3 + ds.length:Nat):Int),.bool true])) (zE fd pt (vb++zR 3 (ds++[⟨d,rs⟩])) ((zN 3 ds).map zJ) (zT 3 (ds++[⟨d,rs⟩]))++τ)) :
  SatCall C T1 (n + 2) 268 [.obj 2,.p (.tuple (Q9 d)),.p (ZE rs)] (stt fd pt vb ds++τ) Q:=by
 have AA:(vb++zR 3 ds).length=3 + ds.length:=by (erw [ak];erw [QO];erw [h3];rfl)
 have Ej:=wm (Za d) ds 3
 unfold stt at *
 cases hf:jp (Za d) 3 ds with
 | some j =>
  rw [hf] at Ej
  refine Eeeaa (JE hf) λ i e hj he hd=>?_
  refine Xg L (zAM d) (Wg d) Ej ?_
  erw [hj];exact old i e he hd
 | none =>
  rw [hf] at Ej
  refine Xk L hr (lin [_,_] [] (.v 0) (.k 10000) [(1,.l (.v 1) (.k 1000)),(1,.e (.v 0) (.a (.k 3) (.v 1)))] tT9 tn AA) (by erw [ut];exact ae tn (nB9 rfl)) (zAM d) (Wg d) Ej ?_
  erw [AA]
  rw [wE,wZ,<- au] at new
  exact new
end
noncomputable def zB (row:List Int)(p:Int):Int:=row.getD p.toNat 0
theorem zo {row:List Int}(h:0<=p/\p<row.length):zB (row++X) p=zB row p:=by
 unfold zB
 have:p.toNat<row.length:=by exact lin [p.toNat,row.length] [p] (.a (.v 0) (.k 1)) (.v 1) [(1,.L (.a (.v 0) (.k 1)) (.c (.v 1))),(1,.E (.c (.v 0)) (.v 0))] tT9 h.2 (bH h.1)
 (erw [aA];erw [aB this];erw [aA];rfl)
theorem jz {row:List Int}(h:k=row.length):zB (row++[v]) k=v:=by
 unfold zB
 (erw [bq];erw [h];erw [aA];erw [aX]);rfl
noncomputable def Z2 (row:List Int):List (Int×Int)->List Int
 | []=>[]
 | p::r=>p.2 * zB row p.1::Z2 row r
noncomputable def zC (row:List Int)(t:Th):Int:=cOf t + (Z2 row (zd t)).sum
def In (k:Nat)(vs:List Int):Prop:=∀ v,v∈vs->0<=v/\v<(k:Int)
theorem Y2 {row:List Int}:∀ {ps:List (Int×Int)},In row.length (ps.map (·.1))->Z2 (row++X) ps=Z2 row ps
 | [],_=>rfl
 | p::r,h=>by
  show _::_=_::_
  (erw [zo (h p.1 (.head _))];erw [Y2 λ v m=>h v (.tail _ m)];rfl)
theorem Wk {row:List Int}{t:Th}(h:In row.length ((zd t).map (·.1))):zC (row++X) t=zC row t:=by unfold zC;(erw [Y2 h];rfl)
noncomputable def zQ (l:List Int)(i:Int):Option Int:=if 1<=i then l[(i - 1).toNat]? else none
theorem qr {f:Int->Int}{l:List Int}{i:Int}:zQ (l.map f) i=(zQ l i).map f:=by
 unfold zQ;split
 ·exact a6
 ·rfl
noncomputable def bw (row:List Int)(a:Int)(s:Bool):Int:=if s then zB row a else 1 - zB row a
noncomputable def val (row:List Int):Df->Option Int
 | .lin ps c=>some (c + (Z2 row ps).sum)
 | .elof i ns=>zQ ns (zB row i)
 | .el i vs=>(zQ vs (zB row i)).map (zB row)
 | .or a b=>some (max (zB row a) (zB row b))
 | .all a s b t=>some (min (bw row a s) (bw row b t))
noncomputable def YL:Df->List Int
 | .lin ps _=>ps.map (·.1)
 | .elof i _=>[i]
 | .el i vs=>i::vs
 | .or a b=>[a,b]
 | .all a _ b _=>[a,b]
theorem zCj {row:List Int}(h:In row.length (YL d)):val (row++X) d=val row d:=by
 cases d with
 | lin ps c=>exact congrArg (λ l:List Int=>some (c + l.sum)) (Y2 h)
 | elof i ns=>exact congrArg (zQ ns) (zo (h i (.head _)))
 | el i vs =>
  show (zQ vs (zB (row++X) i)).map (zB (row++X))=(zQ vs (zB row i)).map (zB row)
  erw [zo (h i (.head _))]
  unfold zQ
  split
  ·cases e:vs[(zB row i - 1).toNat]? with
   | none=>rfl
   | some v=>exact congrArg some (zo (h v (.tail _ (nu e))))
  ·rfl
 | or a b=>show some (max _ _)=some (max _ _);(erw [zo (h a (.head _))];erw [zo (h b (.tail _ (.head _)))];rfl)
 | all a s b t=>show some (min (bw _ _ _) (bw _ _ _))=some (min (bw _ _ _) (bw _ _ _));unfold bw;(erw [zo (h a (.head _))];erw [zo (h b (.tail _ (.head _)))];rfl)
noncomputable def run:List Int->List Dd->Option (List Int)
 | row,[]=>some row
 | row,d::r=>(val row d.d).bind λ v=>run (row++[v]) r
theorem qy {X:List Dd}:∀ {row:List Int},run row (ds++X)=(run row ds).bind λ l=>run l X:=by
 induction ds with
 | nil=>exact rfl
 | cons d r ih =>
  intro row
  show (val row d.d).bind _=((val row d.d).bind _).bind _
  cases val row d.d with
  | none=>rfl
  | some v=>exact ih
theorem YV :∀ {row l:List Int},run row ds=some l->l.length=row.length + ds.length/\∃ Y,l=row++Y:=by
 induction ds with
 | nil=>intro row l h;obtain rfl:=so h;exact ⟨rfl,[],(aP _).symm⟩
 | cons d r ih =>
  intro row l h
  refine Eea (ob h) λ v _ h=>?_
  (refine Ea (ih h) λ h1 tM=>?_;refine Ee tM λ Y h2=>?_)
  refine ⟨by (erw [h1];erw [ak]);show row.length + 1 + r.length=row.length + (r.length + 1);exact bl (lin [_,_] [] (.a (.a (.v 0) (.k 1)) (.v 1)) (.a (.v 0) (.a (.v 1) (.k 1))) [] tT9) (lin [_,_] [] (.a (.v 0) (.a (.v 1) (.k 1))) (.a (.a (.v 0) (.k 1)) (.v 1)) [] tT9),[v]++Y,by (erw [h2];erw [au];rfl)⟩
def B01 (i:Int):Prop:=i=0∨i=1
structure DdS (k:Nat)(d:Dd):Prop where
 refs:In k (YL d.d)
 few:(YL d.d).length<=10
 nice:Nice d.dom (-100) 100
 near:(∃ ps c,d.d=.lin ps c/\∀ p,p∈ps->-10<=p.2/\p.2<=10)∨Nice d.dom (-3) 4
 ns:∀ i ns,d.d=.elof i ns->ns.length<=10
 one:∀ c,d.d=.lin [] c->d.dom=[(c,c)]
 two:∀ a s b t,d.d=.all a s b t->d.dom=[(0,1)]
 cos:∀ ps c,d.d=.lin ps c->∀ p,p∈ps->-10<=p.2/\p.2<=10
noncomputable def P01 (row:List Int):Df->Prop
 | .or a b=>B01 (zB row a)/\B01 (zB row b)
 | .all a _ b _=>B01 (zB row a)/\B01 (zB row b)
 | _=>True
structure DdP (row:List Int)(d:Dd):Prop where
 dom:∀ v,val row d.d=some v->v∈vals d.dom
 b01:P01 row d.d
noncomputable def All:List Int->List Dd->Prop
 | _,[]=>True
 | row,d::r=>DdP row d/\∀ v,val row d.d=some v->All (row++[v]) r
theorem All.snoc {d:Dd}:∀ {row:List Int},All row ds->(∀ l,run row ds=some l->DdP l d)->All row (ds++[d]):=by
 induction ds with
 | nil=>intro row _ h;exact ⟨h row rfl,λ _ _=>trivial⟩
 | cons e r ih=>intro row ha h;exact ⟨ha.1,λ v hv=>ih (ha.2 v hv) λ l hl=>h l (by show (val row e.d).bind _=_;erw [hv];exact hl)⟩
noncomputable def xv (g:Nat):List Int:=match g with
 | 0=>[1,2,3]
 | 1=>[0,1,2]
 | 2=>[0,1,3]
 | _=>[0,2,3]
noncomputable def xd (g:Nat):List (Int×Int):=match g with
 | 0=>[(1,3)]
 | 1=>[(0,2)]
 | 2=>[(0,1),(3,3)]
 | _=>[(0,0),(2,3)]
structure BR (g:Nat)(row:List Int):Prop where
 h:∃ p q r,row=[p,q,r]/\p∈xv g/\(q=1∨q=2)/\(r=0∨r=1)
theorem BR.len {row:List Int}(h:BR g row):row.length=3:=by (refine Eeeea (h.h) λ p q r Ao=>?_;obtain rfl:=Ao;intro _);rfl
noncomputable def uJ (g:Nat):List (List (Int×Int)):=[xd g,[(1,2)],[(0,1)]]
noncomputable def UP (g:Nat)(ds:List Dd):List (List (Int×Int)):=uJ g++ds.map (·.dom)
noncomputable def ZB (g:Nat)(ds:List Dd)(x:Int):List (Int×Int):=(UP g ds).getD x.toNat []
noncomputable def Bd (g:Nat)(ds:List Dd)(x:Int):Int×Int:=hull (ZB g ds x)
theorem JN (g:Nat):Nice (xd g) (-3) 4:=by
 match g with
 | 0=>exact ⟨⟨by decide,by decide⟩,by decide,by decide,by decide,by decide⟩
 | 1=>exact ⟨⟨by decide,by decide⟩,by decide,by decide,by decide,by decide⟩
 | 2=>exact ⟨⟨by decide,by decide⟩,by decide,by decide,by decide,by decide⟩
 | g + 3=>exact ⟨⟨by show ∀ p,p∈[((0:Int),(0:Int)),(2,3)]->_;decide,by show List.Pairwise _ [((0:Int),(0:Int)),(2,3)];decide⟩,by show [((0:Int),(0:Int)),(2,3)]≠[];decide,by show ∀ p,p∈[((0:Int),(0:Int)),(2,3)]->_;decide,by show ∀ p,p∈[((0:Int),(0:Int)),(2,3)]->_;decide,by show [((0:Int),(0:Int)),(2,3)].length<=_;decide⟩
structure Inv (g:Nat)(ds:List Dd):Prop where
 st:∀ i d,ds[i]?=some d->DdS (3 + i) d
 all:∀ row,BR g row->All row ds
theorem Inv.nil :Inv g []:=⟨λ i d h=>by simp at h,λ _ _=>trivial⟩
theorem Inv.snoc {d:Dd}(I:Inv g ds)(h:DdS (3 + ds.length) d)(k:∀ row,BR g row->∀ l,run row ds=some l->DdP l d):Inv g (ds++[d]):=by
 refine ⟨λ i e he=>?_,λ row hr=>(I.all row hr).snoc (k row hr)⟩
 rcases Zu ds he with he | ⟨rfl,rfl⟩
 ·exact I.st i e he
 ·exact h
theorem Ur (h:Asc rs)(m:v∈vals rs):(hull rs).1<=v/\v<=(hull rs).2:=by
 refine Eeaa (vals_mem.mp m) λ p mp h1 h2=>?_
 constructor
 ·cases rs with
  | nil=>cases mp
  | cons q r =>
   show q.1<=v
   rcases aJ.mp mp with rfl | mp
   ·exact h1
   ·exact ai (h.1 q (.head _)) (ai (ck ((b9.mp h.2).1 p mp)) h1)
 ·rcases iq rs with e | ⟨r,q,e⟩
  ·subst e;cases mp
  ·rw [ir] at e
   subst e
   have e2:(hull (r++[q])).2=q.2:=by unfold hull;(erw [List.getLastD_concat];rfl)
   erw [e2]
   rcases bB.mp mp with mp | mp
   ·exact ai h2 (ai (ck ((di.mp h.2).2.2 p mp q (.head _))) (h.1 q (bg _ (.head _))))
   ·cases aG.mp mp;exact h2
theorem Nice.hull (h:Nice rs lo hi):lo<=(hull rs).1/\(Mine.Internal.hull rs).1<=(Mine.Internal.hull rs).2/\(Mine.Internal.hull rs).2<=hi:=by
 cases rs with
 | nil=>exact absurd rfl h.ne
 | cons p r =>
  have hp:p.1∈vals (p::r):=vals_mem.mpr ⟨p,.head _,aV _,h.asc.1 p (.head _)⟩
  have h1:=Ur h.asc hp
  refine ⟨h.lo p (.head _),ai h1.1 h1.2,?_⟩
  have:(Mine.Internal.hull (p::r)).2=((p::r).getLast (cW _ _)).2:=by unfold Mine.Internal.hull;(erw [lJ];erw [kS (cW p r)]);rfl
  erw [this]
  exact h.hi _ (List.getLast_mem _)
theorem Nice.wide {Io BY:Int}(h:Nice rs lo hi)(h1:Io<=lo)(h2:hi<=BY):Nice rs Io BY:=⟨h.asc,h.ne,λ p m=>ai h1 (h.lo p m),λ p m=>ai (h.hi p m) h2,h.len⟩
theorem zE1:Nice [((1:Int),(2:Int))] (-3) 4:=⟨⟨by decide,by decide⟩,by decide,by decide,by decide,by decide⟩
theorem zDf:Nice [((0:Int),(1:Int))] (-3) 4:=⟨⟨by decide,by decide⟩,by decide,by decide,by decide,by decide⟩
theorem uq {x:Int}(h:0<=x/\x<((3 + ds.length:Nat):Int)):(x<3/\Nice (ZB g ds x) (-3) 4)∨∃ i d,x=((3 + i:Nat):Int)/\ds[i]?=some d/\ZB g ds x=d.dom:=by
 (refine Ee (bS h.1) λ k BQ=>?_;obtain rfl:=BQ)
 unfold ZB UP
 erw [bq]
 match k with
 | 0=>exact .inl ⟨by exact az _,JN g⟩
 | 1=>exact .inl ⟨by exact az _,zE1⟩
 | 2=>exact .inl ⟨by exact aV _,zDf⟩
 | k + 3 =>
  have hk:k<ds.length:=by exact lin [_,_] [] (.a (.v 0) (.k 1)) (.v 1) [(1,.L (.a (.c (.a (.v 0) (.k 3))) (.k 1)) (.c (.a (.k 3) (.v 1))))] tT9 h.2
  refine .inr ⟨k,ds[k],by exact aO (liZ [_] [] (.c (.a (.v 0) (.k 3))) (.c (.a (.k 3) (.v 0))) [] tT9) (liZ [_] [] (.c (.a (.k 3) (.v 0))) (.c (.a (.v 0) (.k 3))) [] tT9),aw hk,?_⟩
  show (ds.map (·.dom)).getD k []=_
  (erw [aA];erw [a6];erw [aw hk]);rfl
theorem Inv.nice (I:Inv g ds){x:Int}(h:0<=x/\x<((3 + ds.length:Nat):Int)):Nice (ZB g ds x) (-100) 100:=by
 rcases uq (g:=g) h with ⟨_,h⟩ | ⟨i,d,_,hd,e⟩
 ·exact h.wide (by decide) (by decide)
 ·erw [e];exact (I.st i d hd).nice
theorem WC {X:List Dd}{x:Int}(h:0<=x/\x<((3 + ds.length:Nat):Int)):ZB g (ds++X) x=ZB g ds x:=by
 unfold ZB UP
 have:x.toNat<(uJ g++ds.map (·.dom)).length:=by (erw [ak];erw [aj]);show x.toNat<3 + ds.length;exact lin [x.toNat,ds.length] [x] (.a (.v 0) (.k 1)) (.a (.k 3) (.v 1)) [(1,.L (.a (.v 0) (.k 1)) (.c (.a (.k 3) (.v 1)))),(1,.E (.c (.v 0)) (.v 0))] tT9 h.2 (bH h.1)
 (erw [aT];refine rwS (au ..) ?_;erw [aA];erw [aB this];erw [aA];rfl)
theorem yr {α:Type}{l X:List α}{d:α}(h:k<l.length):(l++X).getD k d=l.getD k d:=by
 (erw [aA];erw [aB h];erw [aA];rfl)
theorem Qa {α:Type}{l:List α}{x d:α}(h:k=l.length):(l++[x]).getD k d=x:=by
 (erw [h];erw [aA];erw [aX]);rfl
theorem XI {D:List (List (Int×Int))}:∀ {ds:List Dd} {row l:List Int},All row ds->run row ds=some l->row.length=D.length->(∀ x,x<row.length->row.getD x 0∈vals (D.getD x [])) ->
  ∀ x,x<l.length->l.getD x 0∈vals ((D++ds.map (·.dom)).getD x [])
 | [],row,l,_,h,_,hb=>by obtain rfl:=so h;(erw [bW];erw [aP]);exact hb
 | d::ds,row,l,ha,h,hl,hb=>by
  refine Eea (ob h) λ v hv h=>?_
  have:=XI (D:=D++[d.dom]) (ha.2 v hv) h (by (erw [ak];erw [ak];erw [hl]);rfl) λ x hx=>?_
  ·rw [au] at this;exact this
  ·rw [ak,aC] at hx
   rcases eY (fi hx) with q | q
   ·(erw [yr q];erw [yr (hl▸q)])
    exact hb x q
   ·(erw [Qa q];erw [Qa (q.trans hl)])
    exact ha.1.dom v hv
theorem zBT {row:List Int}(h:BR g row):∀ x,x<row.length->row.getD x 0∈vals ((uJ g).getD x []):=by
 (refine Eeeeaaa (h.h) λ p q r Bu=>?_;obtain rfl:=Bu;intro hp hq hr)
 have hx:∀ g,∀ p,p∈xv g->p∈vals (xd g):=λ g=>by
  match g with
  | 0=>decide
  | 1=>decide
  | 2=>decide
  | g + 3=>show ∀ p,p∈[(0:Int),2,3]->p∈vals [((0:Int),(0:Int)),(2,3)];decide
 intro x h
 match x,h with
 | 0,_=>exact hx g p hp
 | 1,_=>exact hq.elim (λ e=>vals_mem.mpr ⟨(1,2),.head _,e▸aV 1,e▸(by decide:(1:Int)<=2)⟩) λ e=>vals_mem.mpr ⟨(1,2),.head _,e▸(by decide:(1:Int)<=2),e▸aV 2⟩
 | 2,_=>exact hr.elim (λ e=>vals_mem.mpr ⟨(0,1),.head _,e▸aV 0,e▸(by decide:(0:Int)<=1)⟩) λ e=>vals_mem.mpr ⟨(0,1),.head _,e▸(by decide:(0:Int)<=1),e▸aV 1⟩
theorem Inv.at (I:Inv g ds){row l:List Int}(hr:BR g row)(hl:run row ds=some l):l.length=3 + ds.length/\∀ x,0<=x/\x<((3 + ds.length:Nat):Int)->zB l x∈vals (ZB g ds x)/\(Bd g ds x).1<=zB l x/\zB l x<=(Bd g ds x).2:=by
 have h1:=(YV hl).1
 rw [hr.len] at h1
 refine ⟨h1,λ x hx=>?_⟩
 have h2:=XI (D:=uJ g) (I.all row hr) hl hr.len (zBT hr) x.toNat (lin [x.toNat,l.length,ds.length] [x] (.a (.v 0) (.k 1)) (.v 1) [(-1,.e (.v 1) (.a (.k 3) (.v 2))),(1,.L (.a (.v 0) (.k 1)) (.c (.a (.k 3) (.v 2)))),(1,.E (.c (.v 0)) (.v 0))] (by kernel_rfl) h1 hx.2 (bH hx.1))
 exact ⟨h2,Ur (I.nice hx).asc h2⟩
theorem mn2 (x y:Int):zm x [y]=min x y:=by
 (erw [UQ];erw [UH])
 rcases hM x y with h | h
 ·(erw [fT h];erw [if_neg (cy.mpr h)];rfl)
 ·erw [gU h];split
  ·rfl
  ·exact aO (cy.mp ‹_›) h
theorem mx2 (x y:Int):ze x [y]=max x y:=by
 (erw [jR];erw [JG])
 rcases hM x y with h | h
 ·erw [fK h];split
  ·rfl
  ·exact aO h (cy.mp ‹_›)
 ·(erw [ij h];erw [if_neg (cy.mpr h)];rfl)
theorem zAc (c x y lo hi:Int):(lo<=c + zm x [y]/\c + ze x [y]<=hi) ↔ (lo<=c + x/\c + x<=hi)/\lo<=c + y/\c + y<=hi:=by
 (erw [mn2];erw [mx2])
 rcases hM x y with h | h
 ·(erw [fT h];erw [fK h])
  have h:=nF h c
  exact ⟨λ q=>⟨⟨q.1,ai h q.2⟩,ai q.1 h,q.2⟩,λ q=>⟨q.1.1,q.2.2⟩⟩
 ·(erw [gU h];erw [ij h])
  have h:=nF h c
  exact ⟨λ q=>⟨⟨ai q.1 h,q.2⟩,q.1,ai h q.2⟩,λ q=>⟨q.2.1,q.1.2⟩⟩
theorem W4 {a:Int}(h1:lo<=v)(h2:v<=hi):zm (a * lo) [a * hi]<=a * v/\a * v<=ze (a * lo) [a * hi]:=by
 (erw [mn2];erw [mx2])
 rcases hM 0 a with h | h
 ·exact ⟨ai (Int.min_le_left ..) (kT h1 h),ai (kT h2 h) (Int.le_max_right ..)⟩
 ·exact ⟨ai (Int.min_le_right ..) (kU h h2),ai (kU h h1) (Int.le_max_left ..)⟩
theorem Wp {l:List Int}:∀ {ps:List (Int×Int)} {lo hi c:Int},(∀ p,p∈ps->(B p.1).1<=zB l p.1/\zB l p.1<=(B p.1).2)->lo<=c/\c<=hi->(bnd B ps (lo,hi)).1<=c + (Z2 l ps).sum/\c + (Z2 l ps).sum<=(bnd B ps (lo,hi)).2
 | [],lo,hi,c,_,hc=>by show lo<=c + 0/\c + 0<=hi;exact ⟨liZ [] [_,_] (.v 0) (.a (.v 1) (.k 0)) [(1,.L (.v 0) (.v 1))] tT9 hc.1,liZ [] [_,_] (.a (.v 0) (.k 0)) (.v 1) [(1,.L (.v 0) (.v 1))] tT9 hc.2⟩
 | (x,a)::ps,lo,hi,c,h,hc=>by
  have h1:=h (x,a) (.head _)
  have h2:=W4 (a:=a) h1.1 h1.2
  have h3:=Wp (ps:=ps) (lo:=lo + zm (a * (B x).1) [a * (B x).2]) (hi:=hi + ze (a * (B x).1) [a * (B x).2]) (c:=c + a * zB l x) (λ p m=>h p (.tail _ m)) ⟨pT hc.1 h2.1,pT hc.2 h2.2⟩
  show (bnd B ps _).1<=c + (a * zB l x::Z2 l ps).sum/\c + (a * zB l x::Z2 l ps).sum<=(bnd B ps _).2
  (erw [List.sum_cons];refine rwS (eN ..) ?_);exact h3
theorem WE :∀ {ps:List (Int×Int)} {lo hi:Int},(∀ p,p∈ps->(B p.1).1<=(B p.1).2)->lo<=hi->(bnd B ps (lo,hi)).1<=(bnd B ps (lo,hi)).2
 | [],_,_,_,h=>h
 | (x,a)::ps,lo,hi,hb,h=>by
  have:=W4 (a:=a) (aV (B x).1) (hb (x,a) (.head _))
  dsimp only at this
  exact WE (ps:=ps) (λ p m=>hb p (.tail _ m)) (liZ [] [lo,zm (a * (B x).fst) [a * (B x).snd],hi,ze (a * (B x).fst) [a * (B x).snd],a * (B x).fst] (.a (.v 0) (.v 1)) (.a (.v 2) (.v 3)) [(1,.L (.v 0) (.v 2)),(1,.L (.v 1) (.v 4)),(1,.L (.v 4) (.v 3))] tT9 h this.1 this.2)
theorem Ji {B':Int->Int×Int}:∀ {ps:List (Int×Int)} {z:Int×Int},(∀ p,p∈ps->B p.1=B' p.1)->bnd B ps z=bnd B' ps z
 | [],_,_=>rfl
 | (x,a)::ps,(lo,hi),h=>by
  show bnd B ps _=bnd B' ps _
  (erw [h (x,a) (.head _)];erw [Ji λ p m=>h p (.tail _ m)];rfl)
structure TG (g:Nat)(ds:List Dd)(t:Th):Prop where
 len:(zd t).length<=2
 mem:∀ p,p∈zd t->(0<=p.1/\p.1<((3 + ds.length:Nat):Int))/\-10<=p.2/\p.2<=10
 lo:-100<=(bounds (Bd g ds) t).1
 hi:(bounds (Bd g ds) t).2<=100
theorem TG.refs {t:Th}(h:TG g ds t):In (3 + ds.length) ((zd t).map (·.1)):=λ v m=>by (refine Eea (aU.mp m) λ p mp CW=>?_;obtain rfl:=CW);exact (h.mem p mp).1
theorem TG.same {X:List Dd}{t:Th}(h:TG g ds t):bounds (Bd g (ds++X)) t=bounds (Bd g ds) t:=Ji λ p m=>by unfold Bd;(erw [WC (h.mem p m).1];rfl)
theorem TG.app {X:List Dd}{t:Th}(h:TG g ds t):TG g (ds++X) t :=
 ⟨h.len,λ p m=>by have:=h.mem p m;erw [ak];exact ⟨⟨this.1.1,liZ [_,_] [_] (.a (.v 0) (.k 1)) (.c (.a (.k 3) (.a (.v 0) (.v 1)))) [(1,.L (.a (.v 0) (.k 1)) (.c (.a (.k 3) (.v 0))))] tT9 this.1.2⟩,⟨this.2.1,this.2.2⟩⟩,by erw [h.same];exact h.lo,by erw [h.same];exact h.hi⟩
theorem TG.in {t:Th}(I:Inv g ds)(h:TG g ds t){row l:List Int}(hr:BR g row)(hl:run row ds=some l):(bounds (Bd g ds) t).1<=zC l t/\zC l t<=(bounds (Bd g ds) t).2 :=
 Wp (λ p m=>((I.at hr hl).2 p.1 (h.mem p m).1).2) ⟨aV _,aV _⟩
theorem TG.le {t:Th}(I:Inv g ds)(h:TG g ds t):(bounds (Bd g ds) t).1<=(bounds (Bd g ds) t).2 :=
 WE (λ p m=>(I.nice (h.mem p m).1).hull.2.1) (aV _)
theorem TG.app_worth {t:Th}(h:TG g ds t){l Y:List Int}(hl:l.length=3 + ds.length):zC (l++Y) t=zC l t:=Wk (hl▸h.refs)
noncomputable def vb0 (g:Nat):List ab:=[.tuple [.str "x",ZE (xd g)],.tuple [.str "y",ZE [(1,2)]],.tuple [.str "b",ZE [(0,1)]]]
theorem YQ:∀ (ds:List Dd) (k i:Nat) (d:Dd),ds[i]?=some d->(zR k ds)[i]?=some (.tuple [y9 (k + i),ZE d.dom])
 | [],k,i,d,h=>by simp at h
 | e::ds,k,0,d,h=>by obtain rfl:=so h;rfl
 | e::ds,k,i + 1,d,h=>by
  have:=YQ ds (k + 1) i d h
  rw [Q6] at this
  exact this
theorem zB7 {x:Int}(h:0<=x/\x<((3 + ds.length:Nat):Int)):∃ nm,(vb0 g++zR 3 ds)[x.toNat]?=some (.tuple [nm,ZE (ZB g ds x)]):=by
 (refine Ee (bS h.1) λ k Bt=>?_;obtain rfl:=Bt)
 erw [bq]
 match k with
 | 0=>exact ⟨_,rfl⟩
 | 1=>exact ⟨_,rfl⟩
 | 2=>exact ⟨_,rfl⟩
 | k + 3 =>
  have hk:k<ds.length:=by exact lin [_,_] [] (.a (.v 0) (.k 1)) (.v 1) [(1,.L (.a (.c (.a (.v 0) (.k 3))) (.k 1)) (.c (.a (.k 3) (.v 1))))] tT9 h.2
  have h1:=YQ ds 3 k ds[k] (aw hk)
  have h2:ZB g ds ((k + 3:Nat):Int)=ds[k].dom:=by
   unfold ZB UP
   show (ds.map (·.dom)).getD k []=_
   (erw [aA];erw [a6];erw [aw hk]);rfl
  erw [h2]
  exact ⟨_,h1⟩
theorem TG.ok {t:Th}(I:Inv g ds)(h:TG g ds t)(hl:ds.length<=1000):BOk (vb0 g++zR 3 ds) (Bd g ds) (zd t):=λ p m=>by
 refine Ea (h.mem p m) λ h1 h2=>?_
 have hn:=I.nice h1
 have hh:=hn.hull
 refine ⟨⟨ZB g ds p.1,⟨h1.1,by exact liZ [_] [_] (.v 0) (.k 10000) [(1,.l (.v 0) (.k 1000)),(1,.L (.a (.v 0) (.k 1)) (.c (.a (.k 3) (.v 0))))] tT9 hl h1.2,hn.ne,zB7 h1⟩,rfl⟩,by unfold sm3;exact ⟨ai (oD9 rfl) h2.1,ai h2.2 (oD9 rfl)⟩,?_,?_⟩
 ·show sm3 (hull _).1;unfold sm3;exact ⟨ai (oD9 rfl) hh.1,liZ [] [_,_] (.v 0) (.k 1000) [(1,.L (.v 0) (.v 1)),(1,.L (.v 1) (.k 100))] tT9 hh.2.1 hh.2.2⟩
 ·show sm3 (hull _).2;unfold sm3;exact ⟨liZ [] [_,_] (.k (-1000)) (.v 0) [(1,.L (.k (-100)) (.v 1)),(1,.L (.v 1) (.v 0))] (by kernel_rfl) hh.1 hh.2.1,ai hh.2.2 (oD9 rfl)⟩
structure Yld (g:Nat)(ds sU:List Dd)(m:Nat)(f:List Int->Option Int)(t:Th):Prop where
 inv:Inv g sU
 pre:∃ X,sU=ds++X
 len:sU.length<=ds.length + m
 tg:TG g sU t
 run:∀ row,BR g row->∀ l,run row ds=some l->(∀ w,f l=some w->∃ Y,Mine.Internal.run row sU=some (l++Y)/\zC (l++Y) t=w)/\(f l=none->Mine.Internal.run row sU=none)
theorem Yld.here {f:List Int->Option Int}{t:Th}(m:Nat)(I:Inv g ds)(h:TG g ds t)(hf:∀ row,BR g row->∀ l,Mine.Internal.run row ds=some l->f l=some (zC l t)):Yld g ds ds m f t :=
 ⟨I,⟨[],(aP _).symm⟩,aH _ _,h,λ row hr l hl=>⟨λ w hw=>⟨[],by erw [aP];exact hl,by erw [aP];exact so ((hf row hr l hl).symm.trans hw)⟩,λ hn=>nn (hn.symm.trans (hf row hr l hl))⟩⟩
theorem Yld.back {m:Nat}{f:List Int->Option Int}{t:Th}(o:Yld g ds sU m f t){row l':List Int}(hr:BR g row)(h:Mine.Internal.run row sU=some l'):∃ l Y,Mine.Internal.run row ds=some l/\l'=l++Y/\f l=some (zC l' t):=by
 refine Ee (o.pre) λ X e=>?_
 rw [e,qy] at h
 refine Eea (ob h) λ l h1 h2=>?_
 refine Ea (o.run row hr l h1) λ h3 h4=>?_
 have hx:Mine.Internal.run row sU=some l':=by (erw [e];erw [qy];erw [h1]);exact h2
 cases hf:f l with
 | none=>exact nn ((h4 hf).symm.trans hx)
 | some w =>
  refine Eea (h3 w hf) λ Y h5 h6=>?_
  obtain rfl:=so (hx.symm.trans h5)
  exact ⟨l,Y,h1,rfl,by (erw [hf];erw [h6];rfl)⟩
theorem Yld.up {m m':Nat}{f:List Int->Option Int}{t:Th}(o:Yld g ds sU m f t)(h:m<=m'):Yld g ds sU m' f t:=⟨o.inv,o.pre,by have:=o.len;exact lin [_,_,_,_] [] (.v 0) (.a (.v 1) (.v 2)) [(1,.l (.v 3) (.v 2)),(1,.l (.v 0) (.a (.v 1) (.v 3)))] tT9 h this,o.tg,o.run⟩
theorem Yld.old {m:Nat}{f:List Int->Option Int}{t:Th}(o:Yld g ds sU m f t)(h:TG g ds u):TG g sU u:=by (refine Ee (o.pre) λ X Bu=>?_;obtain rfl:=Bu);exact h.app
noncomputable def vz (k:Nat):Th:=.sum [((k:Int),1)] 0
theorem ZU {l:List Int}:zC l (vz k)=zB l k:=by show 0 + (1 * zB l k + 0)=_;exact aO (liZ [] [_] (.a (.k 0) (.a (.m 1 (.v 0)) (.k 0))) (.v 0) [] tT9) (liZ [] [zB l ↑k] (.v 0) (.a (.k 0) (.a (.m 1 (.v 0)) (.k 0))) [] tT9)
theorem zDG :bounds (Bd g ds) (vz k)=(zm (Bd g ds k).1 [(Bd g ds k).2],ze (Bd g ds k).1 [(Bd g ds k).2]):=by
 show ((0 + zm (1 * (Bd g ds k).1) [1 * (Bd g ds k).2],0 + ze (1 * (Bd g ds k).1) [1 * (Bd g ds k).2]):Int×Int)=_
 (erw [dh];erw [dh];erw [df];erw [df];rfl)
theorem QS (hk:k<3 + ds.length)(hn:Nice (ZB g ds k) lo hi)(h1:-100<=lo)(h2:hi<=100):TG g ds (vz k)/\lo<=(bounds (Bd g ds) (vz k)).1/\(bounds (Bd g ds) (vz k)).2<=hi:=by
 have hh:=hn.hull
 have hb:lo<=(bounds (Bd g ds) (vz k)).1/\(bounds (Bd g ds) (vz k)).2<=hi:=by
  erw [zDG]
  show lo<=zm (hull _).1 [(hull _).2]/\ze (hull _).1 [(hull _).2]<=hi
  (erw [mn2];erw [mx2];erw [fT hh.2.1];erw [fK hh.2.1])
  exact ⟨hh.1,hh.2.2⟩
 refine ⟨⟨dj 1,λ p m=>?_,by exact liZ [] [_,_] (.k (-100)) (.v 0) [(1,.L (.k (-100)) (.v 1)),(1,.L (.v 1) (.v 0))] (by kernel_rfl) h1 hb.1,by exact liZ [] [_,_] (.v 0) (.k 100) [(1,.L (.v 1) (.k 100)),(1,.L (.v 0) (.v 1))] tT9 h2 hb.2⟩,hb⟩
 refine zZ m ?_
 exact ⟨by dsimp only;exact ⟨az _,liZ [_,_] [] (.a (.c (.v 0)) (.k 1)) (.c (.a (.k 3) (.v 1))) [(1,.l (.a (.v 0) (.k 1)) (.a (.k 3) (.v 1)))] tT9 hk⟩,(by decide:(-10:Int)<=1),(by decide:(1:Int)<=10)⟩
noncomputable def YK:Df->Prop
 | .lin _ _=>False
 | _=>True
theorem DdS.tg {d:Dd}(hk:k<3 + ds.length)(S:DdS k d)(e:ZB g ds k=d.dom):TG g ds (vz k)/\(YK d.d->-3<=(bounds (Bd g ds) (vz k)).1/\(bounds (Bd g ds) (vz k)).2<=4) :=
 ⟨(QS hk (e▸S.nice) (aV _) (aV _)).1,λ hn=>(QS hk (lo:=-3) (hi:=4) (e▸S.near.resolve_left λ ⟨ps,c,h,_⟩=>by rw [h] at hn;exact hn) (by decide) (by decide)).2⟩
theorem zDB :∀ {row l:List Int} {i:Nat} {e:Dd},run row ds=some l->ds[i]?=some e->∃ r X,l=r++X/\r.length=row.length + i/\val r e.d=some (l.getD (row.length + i) 0):=by
 induction ds with
 | nil=>intro row l i e _ h;simp at h
 | cons d ds ih =>
  intro row l i e h hi
  refine Eea (ob h) λ v hv h=>?_
  cases i with
  | zero =>
   obtain rfl:=so hi
   obtain ⟨_,Y,rfl⟩:=YV h
   refine ⟨row,v::Y,by erw [au];rfl,rfl,?_⟩
   rw [hv,yr (by rw [ak,aC];exact aZ _)];exact congrArg some (Qa rfl).symm
  | succ i =>
   refine Eeeaa (ih h hi) λ r X h1 h2 h3=>?_
   rw [ak,aC] at h2 h3
   have e2:row.length + 1 + i=row.length + (i + 1):=by exact bl (lin [_,_] [] (.a (.a (.v 0) (.k 1)) (.v 1)) (.a (.v 0) (.a (.v 1) (.k 1))) [] tT9) (lin [_,_] [] (.a (.v 0) (.a (.v 1) (.k 1))) (.a (.a (.v 0) (.k 1)) (.v 1)) [] tT9)
   rw [e2] at h2 h3
   exact ⟨r,X,h1,h2,h3⟩
theorem zB9 {e:Dd}(I:Inv g ds)(hi:ds[i]?=some e)(he:e.d=d):Yld g ds ds 1 (λ l=>val l d) (vz (3 + i)):=by
 have s3:i<ds.length:=QY hi
 have S:=I.st i e hi
 have hd:ZB g ds ((3 + i:Nat):Int)=e.dom:=by
  rcases uq (g:=g) (ds:=ds) (x:=((3 + i:Nat):Int)) (by exact ⟨az _,liZ [_,_] [] (.a (.c (.a (.k 3) (.v 0))) (.k 1)) (.c (.a (.k 3) (.v 1))) [(1,.l (.a (.v 0) (.k 1)) (.v 1))] tT9 s3⟩) with ⟨h,_⟩ | ⟨j,e',h1,h2,h3⟩
  ·exact absurd (du.mp h) (f7.mpr (aH _ _))
  ·have:j=i:=(nG (lS h1)).symm
   subst this
   obtain rfl:=so (hi.symm.trans h2);exact h3
 refine Yld.here 1 I (S.tg (by exact lin [_,_] [] (.a (.a (.k 3) (.v 0)) (.k 1)) (.a (.k 3) (.v 1)) [(1,.l (.a (.v 0) (.k 1)) (.v 1))] tT9 s3) hd).1 λ row hr l hl=>?_
 refine Eeeaa (zDB hl hi) λ r X h1 h2 h3=>?_
 rw [hr.len] at h2 h3
 have:val l d=val r d:=by erw [h1];exact zCj (by (erw [h2];refine rwS he ?_);exact S.refs)
 (erw [this];refine rwS he ?_;erw [h3];erw [ZU])
 unfold zB
 (erw [bq];rfl)
theorem zBl {d:Dd}(I:Inv g ds)(S:DdS (3 + ds.length) d)(P:∀ row,BR g row->∀ l,run row ds=some l->DdP l d):Yld g ds (ds++[d]) 1 (λ l=>val l d.d) (vz (3 + ds.length)):=by
 have hd:ZB g (ds++[d]) ((3 + ds.length:Nat):Int)=d.dom:=by
  unfold ZB UP
  (erw [bq];erw [aT];refine rwS (au ..) ?_)
  exact Qa (by (erw [ak];erw [aj]);rfl)
 refine ⟨I.snoc S P,⟨_,rfl⟩,by erw [ak];exact bn _,(S.tg (by (erw [ak];erw [aC]);exact aZ _) hd).1,λ row hr l hl=>?_⟩
 have e:run row (ds++[d])=(val l d.d).bind λ v=>some (l++[v]):=by (erw [qy];erw [hl]);rfl
 refine ⟨λ w hw=>⟨[w],?_,?_⟩,λ hn=>?_⟩
 ·(erw [e];refine rwE (show val l d.d=some w from hw) ?_);rfl
 ·erw [ZU];exact jz (by (erw [(I.at hr hl).1];rfl))
 ·(erw [e];refine rwE (show val l d.d=none from hn) ?_);rfl
theorem xq (I:Inv g ds)(hk:3<=k){e:Dd}(he:ds[k - 3]?=some e)(hd:e.d=d)(hn:YK d):-3<=(bounds (Bd g ds) (vz k)).1/\(bounds (Bd g ds) (vz k)).2<=4:=by
 have s3:=QY he
 have h3:3 + (k - 3)=k:=Nat.add_sub_cancel' hk
 have Dn:k<3 + ds.length:=by refine rwS h3 ?_;exact Nat.add_lt_add_left s3 3
 have S:=I.st _ e he
 rw [h3] at S
 have Kt:ZB g ds (k:Int)=e.dom:=by
  rcases uq (g:=g) (ds:=ds) (x:=(k:Int)) (by exact ⟨az _,liZ [_,_,_] [] (.a (.c (.v 0)) (.k 1)) (.c (.a (.k 3) (.v 1))) [(1,.l (.a (.v 2) (.k 1)) (.v 1)),(-1,.e (.a (.k 3) (.v 2)) (.v 0))] (by kernel_rfl) s3 h3⟩) with ⟨h,_⟩ | ⟨j,e',h1,h2,h4⟩
  ·exact absurd (du.mp h) (f7.mpr hk)
  ·have:j=k - 3:=by rw [<- h3] at h1;exact (nG (lS h1)).symm
   subst this
   obtain rfl:=so (he.symm.trans h2);exact h4
 exact (S.tg (by exact lin [_,_,_] [] (.a (.v 0) (.k 1)) (.a (.k 3) (.v 1)) [(1,.l (.a (.v 2) (.k 1)) (.v 1)),(-1,.e (.a (.k 3) (.v 2)) (.v 0))] (by kernel_rfl) s3 h3) Kt).2 (by erw [hd];exact hn)
theorem elD (hd:(∃ i ns,d=.elof i ns)∨∃ i vs,d=.el i vs)(k:Int):YK d/\(Q9 d).length<=99999/\∃ t,za k d=[t]/\zJ t=.tuple (Q9 d++[.int k]):=by
 rcases hd with ⟨i,ns,rfl⟩ | ⟨i,ns,rfl⟩ <;> exact ⟨trivial,(by decide:3<=99999),_,rfl,rfl⟩
section
variable {C:Cx}{n g:Nat}{fd:MO}{pt:D}{ds:List Dd}{τ:zA}{Q:D->zA->Prop}
theorem Nice.sm (h:Nice rs (-100) 100):rs.length<=1000/\∀ p,p∈rs->sm3 p.1/\sm3 p.2 :=
 ⟨ae h.len (by decide),λ p m=>have l:=h.lo p m;have u:=h.hi p m;have a:=h.asc.1 p m;⟨⟨ai (by decide) l,ai a (ai u (by decide))⟩,ai (by decide) (ai l a),ai u (by decide)⟩⟩
theorem JA {ds:List Dd}(h:ds.length<=1000):((zN 3 ds).map zJ).length<=10000:=by erw [aj];have:=qi ds 3;exact lin [_,_] [] (.v 0) (.k 10000) [(3,.l (.v 1) (.k 1000)),(1,.l (.v 0) (.m 3 (.v 1)))] tT9 h this
theorem Yb (L:Law1 C)(I:Inv g ds)(tn:ds.length<=900)(S:DdS (3 + ds.length) ⟨d,rs⟩)(P:∀ row,BR g row->∀ l,run row ds=some l->DdP l ⟨d,rs⟩)
  (old:∀ k,3<=k->Yld g ds ds 1 (λ l=>val l d) (vz k)->(YK d->-3<=(bounds (Bd g ds) (vz k)).1/\(bounds (Bd g ds) (vz k)).2<=4)->Q (.p (.tuple [.int (k:Nat),.bool false])) (stt fd pt (vb0 g) ds++τ))
  (new:Yld g ds (ds++[⟨d,rs⟩]) 1 (λ l=>val l d) (vz (3 + ds.length))->(YK d->-3<=(bounds (Bd g (ds++[⟨d,rs⟩])) (vz (3 + ds.length))).1/\(bounds (Bd g (ds++[⟨d,rs⟩])) (vz (3 + ds.length))).2<=4) ->
   Q (.p (.tuple [.int ((3 + ds.length:Nat):Int),.bool true])) (zE fd pt (vb0 g++zR 3 (ds++[⟨d,rs⟩])) ((zN 3 ds).map zJ) (zT 3 (ds++[⟨d,rs⟩]))++τ)) :
  SatCall C T1 (n + 2) 268 [.obj 2,.p (.tuple (Q9 d)),.p (ZE rs)] (stt fd pt (vb0 g) ds++τ) Q:=by
 refine zDC L rfl (by exact ae tn (nB9 rfl)) S.nice.sm (λ i e hi he=>?_) ?_
 ·exact old (3 + i) (aH _ _) (zB9 I hi he) λ hn=>xq I (aH _ _) (by erw [fh];exact hi) he hn
 ·have o:=zBl I S P
  exact new o λ hn=>xq o.inv (aH _ _) (e:=⟨d,rs⟩) (by (erw [fh];erw [aX];rfl)) rfl hn
theorem vE (L:Law1 C)(hd:(∃ i ns,d=.elof i ns)∨∃ i vs,d=.el i vs)(I:Inv g ds)(tn:ds.length<=900)(S:DdS (3 + ds.length) ⟨d,rs⟩)(P:∀ row,BR g row->∀ l,run row ds=some l->DdP l ⟨d,rs⟩)
  (q:∀ k sU,Yld g ds sU 1 (λ l=>val l d) (vz k)->-3<=(bounds (Bd g sU) (vz k)).1/\(bounds (Bd g sU) (vz k)).2<=4->Q (.p (enc (vz k))) (stt fd pt (vb0 g) sU++τ)) :
  SatCall C T1 (n + 3) 375 [.obj 2,.p (.tuple (Q9 d)),.p (ZE rs)] (stt fd pt (vb0 g) ds++τ) Q:=by
 refine Eaa (elD hd ((3 + ds.length:Nat):Int)) λ HU hk ht=>?_
 refine Eea ht λ t ht he=>?_
 refine zL L.Y L.TT L.made_number rfl ?_
 unfold qf
 have tu:∀ ds,(stt fd pt (vb0 g) ds++τ)=zE fd pt (vb0 g++zR 3 ds) ((zN 3 ds).map zJ) (zT 3 ds)++τ:=λ _=>rfl
 walk_at "go"
 refine Yb L I tn S P (λ k _ o b=>?_) λ o b=>?_
 ·walk_at "go"
  exact zD rfl (q k ds o (b HU))
 ·have tH:=q _ _ o (b HU)
  rw [wX,qV,ht,aT,dP,he] at tH
  walk_at "go"
  refine ⟨hk,YO L (JA (by exact ae tn (nB9 rfl))) ?_⟩
  walk_at "go"
  exact zD rfl tH
end
section
variable {C:Cx}{n g:Nat}{fd:MO}{pt:D}{ds:List Dd}{vars tolds:List ab}{made:List (Ky×D)}{τ:zA}{Q:D->zA->Prop}
theorem Vx (L:Law1 C){t:Th}(hl:(zd t).length<=100)(same:∀ x,zd t=[(x,1)]->cOf t=0->Q (.p (.int x)) (zE fd pt vars tolds made++τ))
  (h:(∀ x,¬ (zd t=[(x,1)]/\cOf t=0))->wpSs C T1 (n + 3) (b_var_of.drop 2) [some (.obj 2),some (.p (enc t)),some (.p (qQ (zd t) (cOf t))),none,none,none,none,none,none] (zE fd pt vars tolds made++τ) λ fl _ σ'=>ZR (zE fd pt vars tolds made++τ) Q fl σ') :
  SatCall C T1 (n + 4) 280 [.obj 2,.p (enc t)] (zE fd pt vars tolds made++τ) Q:=by
 refine zL L.Y L.TT L.var_of rfl ?_
 unfold b_var_of at *
 walk_at "go"
 refine Q8 L ?_
 simp only [cF] at h
 unfold qQ at *
 walk_at "go"
 refine ⟨by erw [zf];exact ae hl (nB9 rfl),YC (λ e=>?_) λ e=>h λ x hx=>?_⟩
 ·have e1:(zd t).length=1:=by
   have:((zO (zd t)).length:Int)=1:=by simpa using e
   rw [zf] at this;exact lS this
  refine Ee (List.length_eq_one_iff.mp e1) λ p hp=>?_
  obtain ⟨x,a⟩:=p
  rw [hp] at h same ⊢
  simp only [zO,aY,bW] at h ⊢
  walk_at "go"
  by_cases ha:a=1
  ·subst ha
   by_cases hc:cOf t=0
   ·have hb:(cOf t==0)=true:=beq_iff_eq.mpr hc
    erw [hb]
    walk_at "go"
    exact zD rfl (same x rfl hc)
   ·have hb:(cOf t==0)=false:=beq_eq_false_iff_ne.mpr hc
    erw [hb]
    walk_at "st"
    exact h λ y hy=>hc hy.2
  ·have hb:(a==1)=false:=beq_eq_false_iff_ne.mpr ha
   erw [hb]
   walk_at "st"
   exact h λ y hy=>ha (by cases hy.1;rfl)
 ·rw [hx.1] at e;exact bd e
theorem zBI {d0 d1 d2 d3 d4 d5 d6 d7 d8:Option D}{K:List ab×zA->Prop}:∀ (ps:List (Int×Int)) (acc:List ab),acc.length + ps.length<=1000->K (acc++ps.map λ p=>.int p.2,σ) ->
  zH (zM C T1 n (elW C T1 n (.nm 11)) (.tup [(.nm 10),(.nm 11)]) [] [] [d0,d1,d2,d3,d4,d5,d6,d7,d8,none,none,none] none) (zO ps) (acc,σ) K:=by
 intro ps
 induction ps with
 | nil =>
  intro acc _ h
  rw [bW,aP] at h;exact h
 | cons p ps ih =>
  intro acc hl h
  rw [aE] at hl
  show zM _ _ _ _ _ _ _ _ _ (bE [.int p.1,.int p.2]) _ (λ a'=>zH _ (zO ps) a' K)
  walk_at "go"
  exact ⟨by exact lin [_,_] [] (.v 0) (.k 100000) [(1,.l (.a (.v 0) (.a (.v 1) (.k 1))) (.k 1000))] tT9 hl,ih _ (by (erw [ak];erw [aC]);exact lin [_,_] [] (.a (.a (.v 0) (.k 1)) (.v 1)) (.k 1000) [(1,.l (.a (.v 0) (.a (.v 1) (.k 1))) (.k 1000))] tT9 hl) (by erw [au];exact h)⟩
theorem zCi {d0 d1 d2 d3 d4 d5 d6 d7 d8:Option D}{K:List ab×zA->Prop}:∀ (ps:List (Int×Int)) (acc:List ab),acc.length + ps.length<=1000->K (acc++ps.map λ p=>.int p.1,σ) ->
  zH (zM C T1 n (elW C T1 n (.nm 10)) (.tup [(.nm 10),(.nm 11)]) [] [] [d0,d1,d2,d3,d4,d5,d6,d7,d8,none,none,none] none) (zO ps) (acc,σ) K:=by
 intro ps
 induction ps with
 | nil =>
  intro acc _ h
  rw [bW,aP] at h;exact h
 | cons p ps ih =>
  intro acc hl h
  rw [aE] at hl
  show zM _ _ _ _ _ _ _ _ _ (bE [.int p.1,.int p.2]) _ (λ a'=>zH _ (zO ps) a' K)
  walk_at "go"
  exact ⟨by exact lin [_,_] [] (.v 0) (.k 100000) [(1,.l (.a (.v 0) (.a (.v 1) (.k 1))) (.k 1000))] tT9 hl,ih _ (by (erw [ak];erw [aC]);exact lin [_,_] [] (.a (.a (.v 0) (.k 1)) (.v 1)) (.k 1000) [(1,.l (.a (.v 0) (.a (.v 1) (.k 1))) (.k 1000))] tT9 hl) (by erw [au];exact h)⟩
theorem zAf {j:Int}:zJ (.lin ((ps.map λ p=>(p.2,p.1))++[(-1,j)]) (-c))=.tuple [.str "linear_eq",.tuple (ps.map (λ p=>.int p.2)++[.int (-1)]),.tuple (ps.map (λ p=>.int p.1)++[.int j]),.int (-c)]:=by
 show bE [_,.tuple (fO (λ z:Int×Int=>be z.1) _),.tuple (fO (λ z:Int×Int=>be z.2) _),_]=_
 (erw [aT];erw [aT];erw [bF];erw [bF]);rfl
theorem zEu {t:Th}(I:Inv g ds)(h:TG g ds t):DdS (3 + ds.length) ⟨.lin (zd t) (cOf t),[((bounds (Bd g ds) t).1,(bounds (Bd g ds) t).2)]⟩/\∀ row,BR g row->∀ l,run row ds=some l->DdP l ⟨.lin (zd t) (cOf t),[((bounds (Bd g ds) t).1,(bounds (Bd g ds) t).2)]⟩:=by
 have AM:=h.le I
 refine ⟨⟨h.refs,?_,⟨⟨λ p m=>?_,dL ..⟩,cW _ _,λ p m=>?_,λ p m=>?_,(by decide:1<=100)⟩,.inl ⟨_,_,rfl,λ p m=>(h.mem p m).2⟩,λ i ns e=>(nomatch e),λ c e=>?_,λ a s b t e=>(nomatch e),λ ps c e p m=>?_⟩,λ row hr l hl=>⟨λ v hv=>?_,trivial⟩⟩
 ·show ((zd t).map (·.1)).length<=10
  erw [aj];have:=h.len;exact ae this (nB9 rfl)
 ·refine zZ m ?_;exact AM
 ·refine zZ m ?_;exact h.lo
 ·refine zZ m ?_;exact h.hi
 ·have e:Df.lin (zd t) (cOf t)=.lin [] c:=e
  injection e with e1 e2
  have hb:bounds (Bd g ds) t=(cOf t,cOf t):=by unfold bounds;erw [e1];rfl
  dsimp only
  (erw [hb];erw [e2];rfl)
 ·have e:Df.lin (zd t) (cOf t)=.lin ps c:=e
  injection e with e1 e2
  rw [<- e1] at m
  exact (h.mem p m).2
 ·obtain rfl:=so hv
  have:=h.in I hr hl
  exact vals_mem.mpr ⟨_,.head _,this.1,this.2⟩
theorem Y3 (L:Law1 C){t:Th}(I:Inv g ds)(tn:ds.length<=900)(h:TG g ds t)(q:∀ k sU,Yld g ds sU 1 (λ l=>some (zC l t)) (vz k)->Q (.p (.int (k:Nat))) (stt fd pt (vb0 g) sU++τ)) :
  SatCall C T1 (n + 4) 280 [.obj 2,.p (enc t)] (stt fd pt (vb0 g) ds++τ) Q:=by
 have hlen:(zd t).length<=100:=ae h.len (by decide)
 refine Vx L hlen (λ x h1 h2=>?_) λ hA=>?_
 ·have hx:=(h.mem (x,1) (by erw [h1];exact .head _)).1
  (refine Ee (bS hx.1) λ k Ao=>?_;obtain rfl:=Ao)
  refine q k ds (Yld.here 1 I (QS (du.mp hx.2) (I.nice hx) (aV _) (aV _)).1 λ row hr l hl=>?_)
  erw [ZU]
  unfold zC
  (erw [h1];erw [h2])
  show some (0 + (1 * zB l k + 0))=_
  congr 1;exact aO (liZ [] [_] (.a (.k 0) (.a (.m 1 (.v 0)) (.k 0))) (.v 0) [] tT9) (liZ [] [zB l ↑k] (.v 0) (.a (.k 0) (.a (.m 1 (.v 0)) (.k 0))) [] tT9)
 ·refine Ea (zEu I h) λ S P=>?_
  have AM:=h.le I
  unfold b_var_of
  simp only [cF]
  refine zG ?_
  walk_at "st"
  have hok:=h.ok I (ae tn (nB9 rfl))
  refine Uj L (t:=.sum (zd t) (cOf t)) hok hlen ?_
  walk_at "go"
  refine jl L ?_
  have hb:bounds (Bd g ds) (.sum (zd t) (cOf t))=bounds (Bd g ds) t:=rfl
  (erw [hb];erw [if_pos AM])
  have tu:∀ ds,zE fd pt (vb0 g++zR 3 ds) ((zN 3 ds).map zJ) (zT 3 ds)++τ=(stt fd pt (vb0 g) ds++τ):=λ _=>rfl
  refine Yb L (d:=.lin (zd t) (cOf t)) (rs:=[((bounds (Bd g ds) t).1,(bounds (Bd g ds) t).2)]) I tn S P (λ k _ o _=>?_) λ o _=>?_
  ·walk_at "go"
   exact zD rfl (q k ds o)
  ·have tH:=q _ _ o
   rw [<- tu,qV] at tH
   walk_at "go"
   by_cases tq:zd t=[]
   ·have ht:za ((3 + ds.length:Nat):Int) (.lin (zd t) (cOf t))=[]:=if_pos tq
    rw [ht,aP] at tH
    erw [tq]
    unfold qQ zO
    walk_at "go"
    rw [tq] at tH
    exact zD rfl tH
   ·have ht:za ((3 + ds.length:Nat):Int) (.lin (zd t) (cOf t))=[_]:=if_neg tq
    rw [ht,aT,dP,zAf] at tH
    have IR:bY (zO (zd t)) []=false:=by
     cases hp:zd t with
     | nil=>exact absurd hp tq
     | cons p ps=>rfl
    unfold qQ
    walk_at "st"
    erw [IR]
    walk_at "go"
    refine ⟨by erw [zf];exact ae hlen (nB9 rfl),zBI _ [] (by simp;exact ae hlen (nB9 rfl)) ?_⟩
    unfold zW
    walk_at "go"
    refine ⟨by simp;exact ae hlen (nB9 rfl),by erw [zf];exact ae hlen (nB9 rfl),zCi _ [] (by simp;exact ae hlen (nB9 rfl)) ?_⟩
    walk_at "go"
    refine ⟨by simp;exact ae hlen (nB9 rfl),?_⟩
    walk_at "go"
    refine ⟨by simp;exact ae hlen (nB9 rfl),by simp;exact ae hlen (nB9 rfl),YO L (JA (ae tn (nB9 rfl))) ?_⟩
    walk_at "go"
    exact zD rfl tH
end
structure Yls (g:Nat)(ds sU:List Dd)(ts:List Th)(ks:List Int):Prop where
 inv:Inv g sU
 pre:∃ X,sU=ds++X
 len:sU.length<=ds.length + ts.length
 klen:ks.length=ts.length
 refs:In (3 + sU.length) ks
 run:∀ row,BR g row->∀ l,Mine.Internal.run row ds=some l->∃ Y,Mine.Internal.run row sU=some (l++Y)/\ks.map (zB (l++Y))=ts.map (zC l)
theorem Yls.cons {BS:List Dd}{t:Th}{ks:List Int}(I:Inv g ds)(ht:∀ u,u∈ts->TG g ds u)(a:Yld g ds Bl 1 (λ l=>some (zC l t)) (vz k))(b:Yls g Bl BS ts ks):Yls g ds BS (t::ts) ((k:Int)::ks):=by
 refine Ee (a.pre) λ X e=>?_
 refine Ee (b.pre) λ Y e'=>?_
 have hlen:=a.len
 refine ⟨b.inv,⟨X++Y,by (erw [e'];erw [e];erw [au];rfl)⟩,by have:=b.len;erw [aE];exact lin [_,_,_,_] [] (.v 0) (.a (.v 1) (.a (.v 2) (.k 1))) [(1,.l (.v 3) (.a (.v 1) (.k 1))),(1,.l (.v 0) (.a (.v 3) (.v 2)))] tT9 hlen this,congrArg (· + 1) b.klen,λ v m=>?_,λ row hr l hl=>?_⟩
 ·rcases aJ.mp m with rfl | m
  ·have:=(a.tg.mem (k,1) (.head _)).1
   (erw [e'];erw [ak]);dsimp only at this;exact ⟨az _,liZ [_,_,_] [] (.a (.c (.v 0)) (.k 1)) (.c (.a (.k 3) (.a (.v 1) (.v 2)))) [(1,.L (.a (.c (.v 0)) (.k 1)) (.c (.a (.k 3) (.v 1))))] tT9 this.2⟩
  ·exact b.refs v m
 ·refine Eea ((a.run row hr l hl).1 _ rfl) λ Z h1 h2=>?_
  refine Eea (b.run row hr _ h1) λ W h3 h4=>?_
  have hz:=(a.inv.at hr h1).1
  have x7:=(I.at hr hl).1
  refine ⟨Z++W,by refine rwS (au ..) ?_;exact h3,?_⟩
  (refine rwS (au ..) ?_;erw [aY];erw [aY];erw [h4])
  have hk:zB (l++Z++W) k=zC l t:=by rw [zo (by have:=(a.tg.mem (k,1) (.head _)).1;rw [hz];exact this),<- ZU];exact h2
  erw [hk]
  congr 1
  exact bZ λ u m=>(ht u m).app_worth x7
section
variable {C:Cx}{n g:Nat}{fd:MO}{pt:D}{ds:List Dd}{τ:zA}{Q:D->zA->Prop}
theorem vO (L:Law1 C){d1:Option D}{K:List ab×zA->Prop}:∀ (ts:List Th) (ds:List Dd) (acc:List ab),Inv g ds->ds.length + ts.length<=900->acc.length + ts.length<=900->(∀ t,t∈ts->TG g ds t) ->
  (∀ ks sU,Yls g ds sU ts ks->K (acc++ks.map .int,stt fd pt (vb0 g) sU++τ)) ->
  zH (zM C T1 (n + 4) (elW C T1 (n + 4) (.meth (.nm 0) 22 [(.nm 3)])) (.nm 3) [] [] [some (.obj 2),d1,none,none] none) (ts.map enc) (acc,stt fd pt (vb0 g) ds++τ) K:=by
 intro ts
 induction ts with
 | nil =>
  intro ds acc I _ _ _ h
  have:=h [] ds ⟨I,⟨[],(aP _).symm⟩,bn _,rfl,λ _ m=>(nomatch m),λ row hr l hl=>⟨[],by erw [aP];exact hl,rfl⟩⟩
  rw [bW,aP] at this
  exact this
 | cons t ts ih =>
  intro ds acc I hl ha hg h
  rw [aE] at hl ha
  show zM _ _ _ _ _ _ _ _ _ (enc t) _ (λ a'=>zH _ (ts.map enc) a' K)
  have go:SatCall C T1 (n + 4) 280 [.obj 2,.p (enc t)] (stt fd pt (vb0 g) ds++τ) λ d σ'=>uI d acc λ tm=>zH (zM C T1 (n + 4) (elW C T1 (n + 4) (.meth (.nm 0) 22 [(.nm 3)])) (.nm 3) [] [] [some (.obj 2),d1,none,none] none) (ts.map enc) (tm,σ') K:=by
   refine Y3 L I (ae (aH _ _) hl) (hg t (.head _)) λ k Bl o=>?_
   have:=o.len
   refine ⟨(lin [_,_] [] (.v 0) (.k 100000) [(1,.l (.a (.v 0) (.a (.v 1) (.k 1))) (.k 900))] tT9 ha:acc.length<=100000),ih Bl _ o.inv (lin [_,_,_] [] (.a (.v 0) (.v 1)) (.k 900) [(1,.l (.a (.v 2) (.a (.v 1) (.k 1))) (.k 900)),(1,.l (.v 0) (.a (.v 2) (.k 1)))] tT9 hl this) (by (erw [ak];erw [aC]);exact lin [_,_] [] (.a (.a (.v 0) (.k 1)) (.v 1)) (.k 900) [(1,.l (.a (.v 0) (.a (.v 1) (.k 1))) (.k 900))] tT9 ha) (λ u m=>o.old (hg u (.tail _ m))) λ ks BS y=>?_⟩
   have h2:=h _ BS (Yls.cons I (λ u m=>hg u (.tail _ m)) o y)
   erw [au];exact h2
  unfold stt at go ⊢
  walk_at "go"
  exact go
theorem w9 (L:Law1 C)(I:Inv g ds)(hl:ds.length + ts.length<=900)(hg:∀ t,t∈ts->TG g ds t)
  (q:∀ ks sU,Yls g ds sU ts ks->Q (.p (.tuple (ks.map .int))) (stt fd pt (vb0 g) sU++τ)):SatCall C T1 (n + 5) 285 [.obj 2,.p (.list (ts.map enc))] (stt fd pt (vb0 g) ds++τ) Q:=by
 refine zL L.Y L.TT L.vars_of rfl ?_
 unfold yv
 walk_at "go"
 refine ⟨by erw [aj];exact lin [_,_] [] (.v 0) (.k 100000) [(1,.l (.a (.v 1) (.v 0)) (.k 900))] tT9 hl,vO L ts ds [] I hl (by simp;exact ae (eT _ _) hl) hg λ ks sU y=>?_⟩
 unfold zW
 walk_at "go"
 have:=y.klen
 refine ⟨by erw [aj];exact lin [_,_,_] [] (.v 0) (.k 100000) [(1,.l (.a (.v 1) (.v 2)) (.k 900)),(1,.e (.v 0) (.v 2))] tT9 hl this,?_⟩
 exact zD rfl (q ks sU y)
end
theorem JY {F:Th->Bool}:∀ {ts:List Th},bY ((ts.filter λ t=>!F t).map enc) []=ts.all F
 | []=>rfl
 | t::ts=>by
  (erw [cq];erw [lT])
  cases F t with
  | true=>exact JY (ts:=ts)
  | false=>rfl
theorem W3 {l:List Int}{a:Int}:(zm a l<=a/\∀ x,x∈l->zm a l<=x)/\(zm a l=a∨zm a l∈l):=have h:=UM l a;⟨⟨h.2 a (.head _),λ x m=>h.2 x (.tail _ m)⟩,aJ.mp h.1⟩
theorem Jr {l:List Int}{a:Int}:(a<=ze a l/\∀ x,x∈l->x<=ze a l)/\(ze a l=a∨ze a l∈l):=have h:=UF l a;⟨⟨h.2 a (.head _),λ x m=>h.2 x (.tail _ m)⟩,aJ.mp h.1⟩
structure Near (g:Nat)(ds:List Dd)(t:Th):Prop where
 tg:TG g ds t
 lo:-3<=(bounds (Bd g ds) t).1
 hi:(bounds (Bd g ds) t).2<=4
theorem qP {t:Th}(h:isK t=true):zd t=[]:=by
 cases t with
 | tru b=>rfl
 | num i=>rfl
 | bit x s=>cases h
 | sum ps c=>cases h
theorem qv {l:List Int}{i:Int}(h:zQ l i=some v):v∈l:=by
 unfold zQ at h;split at h
 ·exact nu h
 ·exact nn h
theorem Qj {t:Th}(h:isK t=true){l:List Int}:zC l t=cOf t:=by
 unfold zC;erw [qP h];exact bJ _
theorem Qk {t:Th}(h:isK t=true):je (enc t)=some (cOf t):=by
 cases t with
 | tru b=>cases b <;> rfl
 | num i=>rfl
 | bit x s=>cases h
 | sum ps c=>cases h
section
variable {g k:Nat}{ds:List Dd}{ts:List Th}
theorem VO (I:Inv g ds)(hk:k<3 + ds.length)(tq:ts≠[])(hl:ts.length<=4)(hK:∀ t,t∈ts->isK t=true)(hN:∀ t,t∈ts->Near g ds t) :
  DdS (3 + ds.length) ⟨.elof k (ts.map cOf),YT (ts.map cOf)⟩/\∀ row,BR g row->∀ l,run row ds=some l->DdP l ⟨.elof k (ts.map cOf),YT (ts.map cOf)⟩:=by
 have hb:∀ v,v∈ts.map cOf->-3<=v/\v<=4:=λ v m=>by
  (refine Eea (aU.mp m) λ t mt t7=>?_;obtain rfl:=t7)
  have h:=hN t mt
  have e:bounds (Bd g ds) t=(cOf t,cOf t):=by unfold bounds;erw [qP (hK t mt)];rfl
  have h1:=h.lo
  have h2:=h.hi
  rw [e] at h1 h2
  exact ⟨h1,h2⟩
 refine Ea (Xu (ns:=ts.map cOf) (λ h=>tq (List.map_eq_nil_iff.mp h)) (by erw [aj];exact ae hl (nB9 rfl)) hb) λ f1 f2=>?_
 refine ⟨⟨λ v m=>?_,(by decide:1<=10),f1.wide (by decide) (by decide),.inr f1,λ i ns e=>?_,λ c e=>(nomatch e),λ a s b t e=>(nomatch e),λ ps c e=>nomatch e⟩,λ row hr l hl=>⟨λ v hv=>f2 v (qv hv),trivial⟩⟩
 ·refine zZ m ?_;exact ⟨az _,liZ [_,_] [] (.a (.c (.v 0)) (.k 1)) (.c (.a (.k 3) (.v 1))) [(1,.l (.a (.v 0) (.k 1)) (.a (.k 3) (.v 1)))] tT9 hk⟩
 ·cases e;erw [aj];exact ae hl (nB9 rfl)
theorem zFP {ks:List Int}{t:Th}{ts:List Th}(I:Inv g ds)(hk:k<3 + ds.length)(hl:(t::ts).length<=4)(hN:∀ u,u∈t::ts->Near g ds u)(y:Yls g ds Bl (t::ts) ks) :
  let lo:=zm (bounds (Bd g ds) t).1 (ts.map ((λ x=>x.1) ∘ bounds (Bd g ds)))
  let hi:=ze (bounds (Bd g ds) t).2 (ts.map ((λ x=>x.2) ∘ bounds (Bd g ds)))
  lo<=hi/\DdS (3 + Bl.length) ⟨.el k ks,[(lo,hi)]⟩/\∀ row,BR g row->∀ l,run row Bl=some l->DdP l ⟨.el k ks,[(lo,hi)]⟩:=by
 intro lo hi
 have h1:=W3 (l:=ts.map ((λ x=>x.1) ∘ bounds (Bd g ds))) (a:=(bounds (Bd g ds) t).1)
 have h2:=Jr (l:=ts.map ((λ x=>x.2) ∘ bounds (Bd g ds))) (a:=(bounds (Bd g ds) t).2)
 have AM:lo<=hi:=ai h1.1.1 (ai ((hN t (.head _)).tg.le I) h2.1.1)
 have Fy:-3<=lo:=by
  rcases h1.2 with e | m
  ·exact ai (hN t (.head _)).lo (eH e.symm)
  ·refine Eea (aU.mp m) λ u mu e=>?_
   exact ai (hN u (.tail _ mu)).lo (eH e)
 have HV:hi<=4:=by
  rcases h2.2 with e | m
  ·exact ai (eH e) (hN t (.head _)).hi
  ·refine Eea (aU.mp m) λ u mu e=>?_
   exact ai (eH e.symm) (hN u (.tail _ mu)).hi
 have B5:∀ u,u∈t::ts->lo<=(bounds (Bd g ds) u).1/\(bounds (Bd g ds) u).2<=hi:=λ u m=>by
  refine ZA m ?_ λ m=>?_
  ·exact ⟨h1.1.1,h2.1.1⟩
  ·exact ⟨h1.1.2 _ (aU.mpr ⟨u,m,rfl⟩),h2.1.2 _ (aU.mpr ⟨u,m,rfl⟩)⟩
 have nice:∀ a b,a<=lo->hi<=b->Nice [(lo,hi)] a b:=λ a b ha hb=>⟨⟨λ p m=>by refine zZ m ?_;exact AM,dL ..⟩,cW _ _,λ p m=>by refine zZ m ?_;exact ha,λ p m=>by refine zZ m ?_;exact hb,(by decide:1<=100)⟩
 refine Ee (y.pre) λ X e=>?_
 have hlen:ds.length<=Bl.length:=by (erw [e];erw [ak]);exact aH _ _
 refine ⟨AM,⟨λ v m=>?_,?_,nice _ _ (ai (oD9 rfl) Fy) (ai HV (oD9 rfl)),.inr (nice _ _ Fy HV),λ i ns e=>(nomatch e),λ c e=>(nomatch e),λ a s b t e=>(nomatch e),λ ps c e=>nomatch e⟩,λ row hr l1 x7=>⟨λ v hv=>?_,trivial⟩⟩
 ·refine ZA m ?_ λ m=>?_
  ·exact ⟨az _,liZ [_,_,_] [] (.a (.c (.v 0)) (.k 1)) (.c (.a (.k 3) (.v 1))) [(1,.l (.a (.v 0) (.k 1)) (.a (.k 3) (.v 2))),(1,.l (.v 2) (.v 1))] tT9 hk hlen⟩
  ·exact y.refs v m
 ·show (ks.length + 1)<=10
  erw [y.klen];exact lin [_] [] (.a (.a (.v 0) (.k 1)) (.k 1)) (.k 10) [(1,.l (.a (.v 0) (.k 1)) (.k 4))] tT9 hl
 ·rw [e,qy] at x7
  refine Eea (ob x7) λ l Ef hX=>?_
  refine Eea (y.run row hr l Ef) λ Y h3 h4=>?_
  rw [e,qy,Ef] at h3
  obtain rfl:=so (hX.symm.trans h3)
  have hv:(zQ ks (zB (l++Y) k)).map (zB (l++Y))=some v:=hv
  rw [<- qr,h4] at hv
  refine Eea (aU.mp (qv hv)) λ u mu e=>?_
  have hi:=(hN u mu).tg.in I hr Ef
  have ha:=B5 u mu
  exact vals_mem.mpr ⟨_,.head _,by dsimp only;exact liZ [] [_,_,_,_] (.v 0) (.v 1) [(1,.E (.v 2) (.v 1)),(1,.L (.v 3) (.v 2)),(1,.L (.v 0) (.v 3))] tT9 e hi.1 ha.1,by dsimp only;omega⟩
end
theorem Yld.bit {m:Nat}{f:List Int->Option Int}(o:Yld g ds sU m f (vz k)):Yld g ds sU m f (.bit k true):=⟨o.inv,o.pre,o.len,⟨o.tg.len,o.tg.mem,o.tg.lo,o.tg.hi⟩,o.run⟩
section
variable {C:Cx}{n g:Nat}{fd:MO}{pt:D}{ds:List Dd}{τ:zA}{Q:D->zA->Prop}
theorem wU (L:Law1 C){σ0:zA}{d0 d1 d3 d5 d6:Option D}(hl:ts.length<=4)(h:ZR σ0 Q (.ret (.p (enc (if ts.all isT=true then .bit k true else vz k)))) σ) :
  wpSs C T1 (n + 2) (b_chosen_of.drop 1) [d0,d1,some (.p (.list (ts.map enc))),d3,some (.p (enc (vz k))),d5,d6] σ λ fl _ σ'=>ZR σ0 Q fl σ':=by
 unfold b_chosen_of
 simp only [cF]
 refine zG ?_
 walk_at "st"
 refine ⟨by erw [aj];exact ae hl (nB9 rfl),yU (f:=enc) (h:=enc) (p:=λ t=>!isT t) ts [] (by simp;exact ae hl (nB9 rfl)) (λ t _ acc K ha k1 k0=>?_) ?_⟩
 ·walk_at "st"
  refine Q3 L ?_
  cases hb:isT t with
  | true=>walk_at "st";exact k0 (by erw [hb];rfl)
  | false=>walk_at "st";exact ⟨ha,k1 (by erw [hb];rfl)⟩
 unfold zW
 walk_at "st"
 erw [JY]
 cases hT:ts.all isT with
 | true =>
  rw [hT] at h
  unfold vz enc qQ zO
  walk_at "go"
  exact h
 | false =>
  rw [hT] at h
  walk_at "go"
  exact h
theorem Uq (L:Law1 C)(I:Inv g ds)(tn:ds.length<=800)(hk:k<3 + ds.length)(tq:ts≠[])(hl:ts.length<=4)(hN:∀ t,t∈ts->Near g ds t)
  (q:∀ t' sU,Yld g ds sU 5 (λ l=>zQ (ts.map (zC l)) (zB l k)) t'->isT t'=ts.all isT->Near g sU t'->Q (.p (enc t')) (stt fd pt (vb0 g) sU++τ)) :
  SatCall C T1 (n + 6) 430 [.obj 2,.p (.int (k:Nat)),.p (.list (ts.map enc))] (stt fd pt (vb0 g) ds++τ) Q:=by
 have fin:∀ k' sU,Yld g ds sU 5 (λ l=>zQ (ts.map (zC l)) (zB l k)) (vz k')->-3<=(bounds (Bd g sU) (vz k')).1/\(bounds (Bd g sU) (vz k')).2<=4 ->
   Q (.p (enc (if ts.all isT=true then .bit k' true else vz k'))) (stt fd pt (vb0 g) sU++τ):=λ k' sU o b=>by
  cases hT:ts.all isT with
  | true=>exact q _ sU o.bit hT.symm ⟨o.bit.tg,b.1,b.2⟩
  | false=>exact q _ sU o hT.symm ⟨o.tg,b.1,b.2⟩
 refine zL L.Y L.TT L.chosen_of rfl ?_
 have tu:∀ ds,zE fd pt (vb0 g++zR 3 ds) ((zN 3 ds).map zJ) (zT 3 ds)++τ=(stt fd pt (vb0 g) ds++τ):=λ _=>rfl
 have B8:=λ (k':Nat) (d3 d5 d6:Option D) (σ:zA)=>wU (C:=C) (n:=n + 3) (Q:=Q) L (k:=k') (ts:=ts) (σ0:=stt fd pt (vb0 g) ds++τ) (σ:=σ) (d0:=some (.obj 2)) (d1:=some (.p (.int (k:Nat)))) (d3:=d3) (d5:=d5) (d6:=d6) hl
 unfold b_chosen_of at *
 simp only [cF] at B8
 refine zG ?_
 walk_at "st"
 refine ⟨by erw [aj];exact ae hl (nB9 rfl),yU (f:=enc) (h:=enc) (p:=λ t=>!isK t) ts [] (by simp;exact ae hl (nB9 rfl)) (λ t _ acc K ha k1 k0=>?_) ?_⟩
 ·walk_at "st"
  refine yd L ?_
  cases hb:isK t with
  | true=>walk_at "st";exact k0 (by erw [hb];rfl)
  | false=>walk_at "st";exact ⟨ha,k1 (by erw [hb];rfl)⟩
 unfold zW
 walk_at "st"
 erw [JY]
 cases hK:ts.all isK with
 | true =>
  have Gp:∀ t,t∈ts->isK t=true:=bR.mp hK
  refine Ea (VO I hk tq hl Gp hN) λ S P=>?_
  walk_at "go"
  refine ⟨by erw [aj];exact ae hl (nB9 rfl),qX (f:=enc) (h:=λ t=>.int (cOf t)) ts [] (by simp;exact ae hl (nB9 rfl)) (λ t m acc K ha k=>?_) ?_⟩
  ·walk_at "st"
   erw [Qk (Gp t m)]
   exact ⟨ha,k⟩
  refine rwE (show (ts.map λ t=>be (cOf t))=(ts.map cOf).map .int from (bF ..).symm) ?_
  unfold zW
  erw [bP]
  walk_at "st"
  refine ⟨by simp;exact ae hl (nB9 rfl),?_⟩
  walk_at "go"
  refine uC L (by erw [aj];exact ae hl (nB9 rfl)) (ae S.nice.len (by decide)) ?_
  walk_at "go"
  refine vE L (d:=.elof k (ts.map cOf)) (.inl ⟨_,_,rfl⟩) I (ae tn (nB9 rfl)) S P λ k' sU o b=>?_
  walk_at "st"
  refine B8 _ _ _ _ _ (zD rfl (fin k' sU ⟨o.inv,o.pre,by have:=o.len;exact lin [_,_] [] (.v 0) (.a (.v 1) (.k 5)) [(1,.l (.v 0) (.a (.v 1) (.k 1)))] tT9 this,o.tg,?_⟩ b))
  have e:∀ l,zQ (ts.map (zC l)) (zB l k)=val l (.elof k (ts.map cOf)):=λ l=>by
   show _=zQ (ts.map cOf) (zB l k)
   congr 1
   exact bZ λ t m=>Qj (Gp t m)
  intro row hr l hl
  erw [e]
  exact o.run row hr l hl
 | false =>
  (refine Eee (List.exists_cons_of_ne_nil tq) λ t ts AF=>?_;obtain rfl:=AF)
  walk_at "go"
  refine ⟨by erw [aj] ;rw [aE] at hl;exact lin [_] [] (.v 0) (.k 99999) [(1,.l (.a (.v 0) (.k 1)) (.k 4))] tT9 hl,qX (f:=enc) (h:=λ t=>.tuple [.int (bounds (Bd g ds) t).1,.int (bounds (Bd g ds) t).2]) (t::ts) [] (by simp;rw [aE] at hl;exact lin [_] [] (.v 0) (.k 89999) [(1,.l (.a (.v 0) (.k 1)) (.k 4))] tT9 hl) (λ u m acc K ha k=>?_) ?_⟩
  ·skip
   walk_at "go"
   have hu:=(hN u m).tg
   exact Uj L (hu.ok I (ae tn (nB9 rfl))) (ae hu.len (by decide)) ⟨ha,k⟩
  rw [show ((t::ts).map λ t=>bE [.int (bounds (Bd g ds) t).1,.int (bounds (Bd g ds) t).2])=zO ((t::ts).map (bounds (Bd g ds))) from by unfold zO;rw [bF];rfl]
  unfold zW
  walk_at "go"
  have H4:ts.length<=3:=gY hl
  have AR:(zO (bounds (Bd g ds) t::fO (bounds (Bd g ds)) ts)).length<=100000:=by (erw [zf];erw [aE];erw [aj]);exact ae hl (nB9 rfl)
  refine ⟨AR,qX (h:=λ p:Int×Int=>.int p.1) _ [] (by simp;exact ae H4 (nB9 rfl)) (λ p _ acc K ha k=>?_) ?_⟩
  ·walk_at "st"
   exact ⟨ha,k⟩
  have e1:∀ l:List (Int×Int),(l.map λ p=>be p.1)=(l.map (·.1)).map .int:=λ l=>(bF ..).symm
  erw [e1]
  unfold zW
  walk_at "st"
  simp only [ZV]
  walk_at "st"
  refine ⟨AR,qX (h:=λ p:Int×Int=>.int p.2) _ [] (by simp;exact ae H4 (nB9 rfl)) (λ p _ acc K ha k=>?_) ?_⟩
  ·walk_at "st"
   exact ⟨ha,k⟩
  have e2:∀ l:List (Int×Int),(l.map λ p=>be p.2)=(l.map (·.2)).map .int:=λ l=>(bF ..).symm
  erw [e2]
  walk_at "st"
  simp only [ZV]
  walk_at "st"
  refine jl L ?_
  walk_at "go"
  (erw [bF];erw [bF])
  walk_at "st"
  refine w9 L (ts:=t::ts) I (lin [_,_] [] (.a (.v 0) (.a (.v 1) (.k 1))) (.k 900) [(1,.l (.v 0) (.k 800)),(1,.l (.a (.v 1) (.k 1)) (.k 4))] tT9 tn hl) (λ u m=>(hN u m).tg) λ ks Bl y=>?_
  refine Eaa (zFP I hk hl hN y) λ AM S P=>?_
  have hlen:=y.len
  rw [aE] at hlen
  walk_at "st"
  erw [if_pos AM]
  refine vE L (d:=.el k ks) (.inr ⟨_,_,rfl⟩) y.inv (lin [_,_,_] [] (.v 0) (.k 900) [(1,.l (.v 1) (.k 800)),(1,.l (.a (.v 2) (.k 1)) (.k 4)),(1,.l (.v 0) (.a (.v 1) (.a (.v 2) (.k 1))))] tT9 tn hl hlen) S P λ k' sU o b=>?_
  walk_at "st"
  refine B8 _ _ _ _ _ (zD rfl (fin k' sU ?_ b))
  refine Ee (y.pre) λ X e=>?_
  refine Ee (o.pre) λ Y e'=>?_
  refine ⟨o.inv,⟨X++Y,by (erw [e'];erw [e];erw [au];rfl)⟩,by have:=o.len;exact lin [_,_,_,_] [] (.v 0) (.a (.v 1) (.k 5)) [(1,.l (.a (.v 2) (.k 1)) (.k 4)),(1,.l (.v 3) (.a (.v 1) (.a (.v 2) (.k 1)))),(1,.l (.v 0) (.a (.v 3) (.k 1)))] tT9 hl hlen this,o.tg,λ row hr l Ef=>?_⟩
  refine Eea (y.run row hr l Ef) λ Z h1 h2=>?_
  refine Ea (o.run row hr _ h1) λ h3 h4=>?_
  have Ej:zB (l++Z) k=zB l k:=zo (by erw [(I.at hr Ef).1];exact ⟨az _,liZ [_,_] [] (.a (.c (.v 0)) (.k 1)) (.c (.a (.k 3) (.v 1))) [(1,.l (.a (.v 0) (.k 1)) (.a (.k 3) (.v 1)))] tT9 hk⟩)
  have e2:val (l++Z) (.el k ks)=zQ ((t::ts).map (zC l)) (zB l k):=by
   show (zQ ks (zB (l++Z) k)).map (zB (l++Z))=_
   (refine rwS qr ?_;erw [h2];erw [Ej];rfl)
  refine ⟨λ w hw=>?_,λ hn=>h4 (e2.trans hn)⟩
  refine Eea (h3 w (e2.trans hw)) λ W h5 h6=>?_
  exact ⟨Z++W,by refine rwS (au ..) ?_;exact h5,by refine rwS (au ..) ?_;exact h6⟩
end
section
variable {fd:MO}{pt:D}{vars tolds Cn Bv:List ab}{made BF:List (Ky×D)}{τ X:zA}{Q:D->zA->Prop}
theorem jo (h:8<=i):(zE fd pt vars tolds made++τ)[i]?=τ[i - 8]?:=by
 erw [cj (by show 8<=i;exact h)];rfl
theorem Z5 {fl:Fl}(hm:clM 8 (.tdict BF)=true)(e:uS fl=some (.p x))(q:Q (.p x) (zE fd pt Cn Bv BF++τ)):ZR (zE fd pt vars tolds made++τ) Q fl (zE fd pt Cn Bv BF++(τ++X)):=by
 refine ⟨_,_,e,?_,q⟩
 have key:=Kp.cut (σ:=zE fd pt vars tolds made++τ) (σ':=zE fd pt Cn Bv BF++(τ++X)) (d:=.p x) (8 + τ.length) (by erw [ZY];exact bn _) rfl λ i mo hi e=>by
  by_cases h8:8<=i
  ·rw [jo h8,aB (gj h8 hi)] at e
   exact .inl (by erw [jo h8];exact e)
  ·have up:∀ m,clM 8 m=true->clM (8 + τ.length) m=true:=λ m=>uj (aH _ _) m
   match i,h8,e with
   | 0,_,e=>exact .inl e
   | 1,_,e=>exact .inl e
   | 2,_,e=>exact .inl e
   | 3,_,e=>exact .inl e
   | 4,_,e=>exact .inl e
   | 5,_,e=>obtain rfl:=so e;exact .inr rfl
   | 6,_,e=>obtain rfl:=so e;exact .inr rfl
   | 7,_,e=>obtain rfl:=so e;exact .inr (up _ hm)
   | i + 8,h8,_=>exact absurd (eT 8 i) h8
 rwa [<- au,List.take_left' ZY] at key
end
theorem XG:∀ (k:Nat) (ds:List Dd),clM 8 (.tdict (zT k ds))=true
 | _,[]=>rfl
 | k,_::r=>XG (k + 1) r
theorem xz {p q:Int×Bool}:br (zI p) (zI q)=(decide (p.1=q.1)&&(p.2==q.2)):=by
 show (true&&(decide (p.1=q.1)&&((p.2==q.2)&&true)))=_
 (erw [Bool.true_and];erw [dB];rfl)
theorem YA {p:Int×Bool}:Sh x (zI p):=ae (dG _ _) (by decide:1<=64)
theorem Jg {l:List (Int×Bool)}{q:Int×Bool}(h:q∉l):(l.map zI).any (λ z=>br z (zI q))=false:=by
 rw [oM]
 intro z m
 (refine Eea (aU.mp m) λ p mp t7=>?_;obtain rfl:=t7)
 erw [xz]
 intro e
 refine Ea ((bt _ _).mp e) λ e1 e2=>?_
 have:p=q:=pv (of_decide_eq_true e1) (beq_iff_eq.mp e2)
 exact h (this▸mp)
theorem xy {l:List (Int×Bool)}:(l.map zI).any (λ z=>br z (.bool b))=false:=by
 rw [oM]
 intro z m
 (refine Eea (aU.mp m) λ p mp AN=>?_;obtain rfl:=AN)
 exact a5
section
variable {C:Cx}{n g:Nat}{fd:MO}{pt:D}{τ σ:zA}{Q:D->zA->Prop}{d0 d1 d2 d3 d4:Option D}{K:List ab×zA->Prop}
theorem zE7 {a:Int}:∀ {l:List Int},(∀ x,x∈l->a<x)->yS a l=a::l
 | [],_=>rfl
 | b::l,h=>by
  have:=h b (.head _)
  show (if _ then _ else _)=_
  first
   | (erw [if_pos (ck this)];rfl)
   | rw [if_neg (by omega)]
theorem JH:∀ {l:List Int},l.Pairwise (·<·)->dd l=l/\ZF l=l
 | [],_=>⟨rfl,rfl⟩
 | a::l,h=>by
  refine Ea (b9.mp h) λ h1 h2=>?_
  refine Ea (JH h2) λ i1 i2=>?_
  refine ⟨?_,?_⟩
  ·show (if a∈l then dd l else a::dd l)=_
   (erw [if_neg λ m=>Int.lt_irrefl a (h1 a m)];erw [i1];rfl)
  ·(erw [zBO];erw [i2]);exact zE7 h1
theorem zBQ {l:List (Int×Bool)}(h:l.Pairwise λ p q=>p.1<q.1):(ZG l).Pairwise (·<·)/\(zr l).Pairwise (·<·) :=
 ⟨kD.mpr (h.filter _),kD.mpr (h.filter _)⟩
end
section
variable {C:Cx}{n g:Nat}{fd:MO}{pt:D}{τ:zA}{Q:D->zA->Prop}{vars tolds:List ab}{made:List (Ky×D)}
theorem qL (L:Law1 C){l l':List (Int×Bool)}(hm:clM 8 (.tdict made)=true)(hl:l.length<=4)(CA:l'.length<=4)(hc:∀ p,p∈l->(p.1,!p.2)∉l)(hb:BitsOk l)(hs:ZM l=l')(ha:l'.Pairwise λ p q=>p.1<q.1)(ht:tolds.length<=10000)
  (q:Q (.p .none) (zE fd pt vars (tolds++[zJ (.cl l')]) made++τ)):SatCall C T1 (n + 2) 331 [.obj 2,.p (.list (l.map zI))] (zE fd pt vars tolds made++τ) Q:=by
 refine zL L.Y L.TT L.require_some rfl ?_
 unfold qR
 refine Ea (zBQ ha) λ u1 u2=>?_
 refine Ea (JH u1) λ v1 v2=>?_
 refine Ea (JH u2) λ w1 w2=>?_
 have hu:(ZG l').length<=4:=ae (by unfold ZG;erw [aj];exact fE _ _) CA
 have hd:(zr l').length<=4:=ae (by unfold zr;erw [aj];exact fE _ _) CA
 refine zG ?_
 walk_at "st"
 simp only [xy]
 walk_at "st"
 refine ⟨by erw [aj];exact ae hl (nB9 rfl),yU (f:=zI) (h:=zI) (p:=λ _=>false) l [] (by simp;exact ae hl (nB9 rfl)) (λ p m acc K ha _ k0=>?_) ?_⟩
 ·have IA:∀ Q:D->zA->Prop,Q (.p (zI (p.1,!p.2))) (zE fd pt vars tolds made++τ)->SatCall C T1 (n + 1) 240 [.p (zI p)] (zE fd pt vars tolds made++τ) Q:=λ Q q=>ZL (t:=.bit p.1 p.2) L rfl q
  walk_at "st"
  refine rwE (show br (zI p) (.bool false)=false from rfl) ?_
  walk_at "st"
  refine IA _ ?_
  walk_at "st"
  simp only [Jg (hc p m)]
  walk_at "st"
  exact ⟨YA,k0 rfl⟩
 refine rwE (show l.filter (λ _=>false)=[] from fA.mpr λ _ _=>a5) ?_
 unfold zW
 walk_at "go"
 refine ⟨by erw [aj];exact ae hl (nB9 rfl),yU (f:=zI) (h:=zI) (p:=λ _=>true) l [] (by simp;exact ae hl (nB9 rfl)) (λ p m acc K ha k1 _=>?_) ?_⟩
 ·walk_at "st"
  refine rwE (show br (zI p) (.bool false)=false from rfl) ?_
  walk_at "st"
  exact ⟨ha,k1 rfl⟩
 refine rwE (show l.filter (λ _=>true)=l from List.filter_eq_self.mpr λ _ _=>rfl) ?_
 unfold zW
 walk_at "st"
 refine .inr ⟨l,rfl,hb,?_⟩
 erw [hs]
 walk_at "go"
 refine ⟨by erw [aj];exact ae CA (nB9 rfl),yU (f:=zI) (h:=λ p=>.int p.1) (p:=λ p=>p.2) l' [] (by simp;exact ae CA (nB9 rfl)) (λ p m acc K ha k1 k0=>?_) ?_⟩
 ·obtain ⟨i,s⟩:=p
  refine rwE (show zI (i,s)=.tuple [.str "bit",.int i,.bool s] from rfl) ?_
  cases s with
  | true=>walk_at "st";exact ⟨ha,k1 rfl⟩
  | false=>walk_at "st";exact k0 rfl
 refine rwE (show ((l'.filter λ p=>p.2).map λ p=>be p.1)=(ZG l').map .int from (bF ..).symm) ?_
 unfold zW
 walk_at "go"
 refine ⟨by erw [aj];exact ae CA (nB9 rfl),yU (f:=zI) (h:=λ p=>.int p.1) (p:=λ p=>!p.2) l' [] (by simp;exact ae CA (nB9 rfl)) (λ p m acc K ha k1 k0=>?_) ?_⟩
 ·obtain ⟨i,s⟩:=p
  refine rwE (show zI (i,s)=.tuple [.str "bit",.int i,.bool s] from rfl) ?_
  cases s with
  | true=>walk_at "st";exact k0 rfl
  | false=>walk_at "st";exact ⟨ha,k1 rfl⟩
 refine rwE (show ((l'.filter λ p=>!p.2).map λ p=>be p.1)=(zr l').map .int from (bF ..).symm) ?_
 erw [bP]
 walk_at "go"
 simp only [ZV,v1,w1]
 walk_at "st"
 have I1:∀ l,Q4 (MO.iset l)=some l:=λ _=>rfl
 simp only [I1,v2,w2]
 refine ⟨hu,.inl ⟨by exact lin [_] [] (.a (.v 0) (.k 1)) (.k 64) [(1,.l (.v 0) (.k 4))] tT9 hu,by erw [aj];exact ae hu (nB9 rfl),hd,.inl ⟨by exact lin [_] [] (.a (.v 0) (.k 1)) (.k 64) [(1,.l (.v 0) (.k 4))] tT9 hd,by erw [aj];exact ae hd (nB9 rfl),?_⟩⟩⟩
 (erw [au];erw [au])
 refine YO L ht ?_
 walk_at "st"
 exact Z5 hm rfl q
end
noncomputable def nxt (t:Th)(ks:List (Int×Bool)):Option (List (Int×Bool)):=match t with
 | .tru b=>if b=true then some ks else none
 | .bit x s=>if (x,!s)∈ks then none else if (x,s)∈ks then some ks else some (ks++[(x,s)])
 | _=>none
noncomputable def qK:List Th->List (Int×Bool)->Option (List (Int×Bool))
 | [],ks=>some ks
 | t::ts,ks=>(nxt t ks).bind (qK ts)
theorem Uw {l:List (Int×Bool)}{q:Int×Bool}(h:q∈l):(l.map zI).any (λ z=>br z (zI q))=true:=by
 rw [gR]
 exact ⟨zI q,aU.mpr ⟨q,h,rfl⟩,by (erw [xz];erw [decide_eq_true rfl];erw [beq_self_eq_true]);rfl⟩
section
variable {C:Cx}{n g:Nat}{fd:MO}{pt:D}{τ σ:zA}{Q:D->zA->Prop}{d0 d1 d2 d4 d5 d6 d7:Option D}{K:Rho×zA->Prop}{S:Fl->Rho->zA->Prop}
theorem vf (L:Law1 C):∀ (ts:List Th) (ks:List (Int×Bool)) (u3:Option D),ks.length + ts.length<=900->(∀ t,t∈ts->isT t=true) ->
  (qK ts ks=none->∀ ρ (FM:List (Int×Bool)),S (.ret (.p (.bool false))) ρ (σ++[.lst (FM.map zI)])) ->
  (∀ FM,qK ts ks=some FM->∀ v3,K ([d0,d1,some (.obj σ.length),v3,d4,d5,d6,d7],σ++[.lst (FM.map zI)])) ->
  zH (zK C T1 (n + 1) (.nm 3) [(.ite (.or [(.cmp (.nm 3) .Eq (.c (.bool false))),(.cmp (.call false (.gl 32) [(.nm 3)]) .In (.nm 2))]) [(.ret (.c (.bool false)))] []),(.ite (.and [(.cmp (.nm 3) .NotEq (.c (.bool true))),(.cmp (.nm 3) .NotIn (.nm 2))]) [(.expr (.meth (.nm 2) 0 [(.nm 3)]))] [])] none S)
   (ts.map enc) ([d0,d1,some (.obj σ.length),u3,d4,d5,d6,d7],σ++[.lst (ks.map zI)]) K:=by
 intro ts
 induction ts with
 | nil=>exact λ ks u3 _ _ _ h=>h ks rfl u3
 | cons t ts ih =>
  intro ks u3 hl ht h0 h1
  rw [aE] at hl
  have hc:∀ Q:D->zA->Prop,Q (.p (enc (neg t))) (σ++[.lst (ks.map zI)])->SatCall C T1 (n + 1) 240 [.p (enc t)] (σ++[.lst (ks.map zI)]) Q:=λ Q q=>ZL (t:=t) L (ht t (.head _)) q
  have Bs:∀ t,t∈ts->isT t=true:=λ t m=>ht t (.tail _ m)
  have hk:(ks.map zI).length<=100000:=by erw [aj];exact lin [_,_] [] (.v 0) (.k 100000) [(1,.l (.a (.v 0) (.a (.v 1) (.k 1))) (.k 900))] tT9 hl
  cases t with
  | num i=>exact nomatch ht _ (.head _)
  | sum ps c=>exact nomatch ht _ (.head _)
  | tru b =>
   show zK _ _ _ _ _ _ _ (.bool b) _ (λ a'=>zH _ (ts.map enc) a' K)
   cases b with
   | false =>
    walk_at "go"
    exact h0 rfl _ _
   | true =>
    have Aq:∀ Q:D->zA->Prop,Q (.p (.bool false)) (σ++[.lst (ks.map zI)])->SatCall C T1 (n + 1) 240 [.p (.bool true)] (σ++[.lst (ks.map zI)]) Q:=hc
    walk_at "go"
    refine Aq _ ?_
    walk_at "st"
    erw [xy]
    walk_at "go"
    exact ih ks _ (ey hl) Bs h0 h1
  | bit x s =>
   have Aq:∀ Q:D->zA->Prop,Q (.p (zI (x,!s))) (σ++[.lst (ks.map zI)])->SatCall C T1 (n + 1) 240 [.p (.tuple [.str "bit",.int x,.bool s])] (σ++[.lst (ks.map zI)]) Q:=hc
   have K9:qK (.bit x s::ts) ks=(nxt (.bit x s) ks).bind (qK ts):=rfl
   have Kf:nxt (.bit x s) ks=if (x,!s)∈ks then none else if (x,s)∈ks then some ks else some (ks++[(x,s)]):=rfl
   rw [K9,Kf] at h0 h1
   show zK _ _ _ _ _ _ _ (zI (x,s)) _ (λ a'=>zH _ (ts.map enc) a' K)
   have hf:br (zI (x,s)) (.bool false)=false:=rfl
   have Ku:br (zI (x,s)) (.bool true)=false:=rfl
   walk_at "go"
   erw [hf]
   walk_at "go"
   refine Aq _ ?_
   by_cases m1:(x,!s)∈ks
   ·rw [if_pos m1] at h0
    walk_at "st"
    erw [Uw m1]
    walk_at "go"
    exact ⟨YA,h0 rfl _ _⟩
   ·rw [if_neg m1] at h0 h1
    walk_at "st"
    erw [Jg m1]
    walk_at "st"
    refine ⟨YA,?_⟩
    walk_at "go"
    erw [Ku]
    walk_at "st"
    by_cases m2:(x,s)∈ks
    ·rw [if_pos m2] at h0 h1
     erw [Uw m2]
     walk_at "go"
     exact ⟨YA,ih ks _ (ey hl) Bs h0 h1⟩
    ·rw [if_neg m2] at h0 h1
     erw [Jg m2]
     walk_at "st"
     refine ⟨YA,?_⟩
     walk_at "go"
     have e:ks.map zI++[zI (x,s)]=(ks++[(x,s)]).map zI:=by erw [aT];rfl
     erw [e]
     trace_state
     exact ⟨hk,ih _ _ (by rw [ak,aC];exact lin [_,_] [] (.a (.a (.v 0) (.k 1)) (.v 1)) (.k 900) [(1,.l (.a (.v 0) (.a (.v 1) (.k 1))) (.k 900))] tT9 hl) Bs h0 h1⟩
end
noncomputable def thb (p:Int×Bool):Th:=.bit p.1 p.2
def Tr (g:Nat)(ds:List Dd)(t:Th):Prop:=∀ row,BR g row->∀ l,run row ds=some l->B01 (zC l t)
theorem zc {l:List Int}:zC l (.tru b)=if b=true then 1 else 0:=bJ _
theorem zb {l:List Int}{x:Int}{s:Bool}:zC l (.bit x s)=bw l x s:=by
 cases s with
 | true=>show 0 + (1 * zB l x + 0)=zB l x;exact aO (liZ [] [_] (.a (.k 0) (.a (.m 1 (.v 0)) (.k 0))) (.v 0) [] tT9) (liZ [] [zB l x] (.v 0) (.a (.k 0) (.a (.m 1 (.v 0)) (.k 0))) [] tT9)
 | false=>show 1 + (-1 * zB l x + 0)=1 - zB l x;exact aO (liZ [] [zB l x] (.a (.k 1) (.a (.m (-1) (.v 0)) (.k 0))) (.s (.k 1) (.v 0)) [] tT9) (liZ [] [zB l x] (.s (.k 1) (.v 0)) (.a (.k 1) (.a (.m (-1) (.v 0)) (.k 0))) [] tT9)
theorem qb {l:List Int}{t:Th}(h:isT t=true):zC l (neg t)=1 - zC l t:=by
 cases t with
 | tru b=>show zC l (.tru (!b))=_;(erw [zc];erw [zc]);cases b <;> rfl
 | bit x s=>show zC l (.bit x (!s))=_;(erw [zb];erw [zb]);cases s <;> (unfold bw;simp) <;> exact aO (liZ [] [zB l x] (.v 0) (.s (.k 1) (.s (.k 1) (.v 0))) [] tT9) (liZ [] [_] (.s (.k 1) (.s (.k 1) (.v 0))) (.v 0) [] tT9)
 | num i=>cases h
 | sum ps c=>cases h
theorem zEd {l:List Int}{x:Int}{s:Bool}:bw l x (!s)=1 - bw l x s:=by cases s <;> (unfold bw;simp) <;> exact aO (liZ [] [zB l x] (.v 0) (.s (.k 1) (.s (.k 1) (.v 0))) [] tT9) (liZ [] [_] (.s (.k 1) (.s (.k 1) (.v 0))) (.v 0) [] tT9)
@[elab_as_elim] theorem B01.el {P:Int->Prop}{x:Int}(h:B01 x)(h0:P 0)(h1:P 1):P x:=h.elim (λ e=>e▸h0) λ e=>e▸h1
theorem B01.mn {a b:Int}(ha:B01 a)(hb:B01 b):B01 (min a b):=ha.el (hb.el (.inl rfl) (.inl rfl)) (hb.el (.inl rfl) (.inr rfl))
theorem B01.mx {a b:Int}(ha:B01 a)(hb:B01 b):B01 (max a b):=ha.el (hb.el (.inl rfl) (.inr rfl)) (hb.el (.inr rfl) (.inr rfl))
theorem B01.fl {a:Int}(h:B01 a):B01 (1 - a):=h.el (.inr rfl) (.inl rfl)
theorem uv (a b:Int):max a b=1 - min (1 - a) (1 - b):=by
 by_cases h:a<=b
 ·(erw [fK h];erw [gU (nH h 1)];erw [gV];rfl)
 ·have h:=Int.le_of_not_le h
  (erw [ij h];erw [fT (nH h 1)];erw [gV];rfl)
inductive KC (a b:Th):Prop where
 | no (h:qK [a,b] []=none) (w:∀ l,B01 (zC l a)->B01 (zC l b)->min (zC l a) (zC l b)=0)
 | all (h:qK [a,b] []=some []) (w:∀ l,min (zC l a) (zC l b)=1)
 | one (p:Int×Bool) (h:qK [a,b] []=some [p]) (e:a=thb p∨b=thb p) (w:∀ l,B01 (zC l a)->B01 (zC l b)->min (zC l a) (zC l b)=zC l (thb p))
 | two (p q:Int×Bool) (h:qK [a,b] []=some [p,q]) (ha:a=thb p) (hb:b=thb q) (n:p.1≠q.1)
theorem jx {a b:Th}(ta:isT a=true)(tb:isT b=true):KC a b:=by
 cases a with
 | num i=>cases ta
 | sum ps c=>cases ta
 | tru x =>
  cases x with
  | false=>exact .no (rfl) λ l _ hb=>by erw [zc];exact hb.el rfl rfl
  | true =>
   cases b with
   | num i=>cases tb
   | sum ps c=>cases tb
   | tru y =>
    cases y with
    | false=>exact .no (rfl) λ l _ hb=>by (erw [zc];erw [zc]);rfl
    | true=>exact .all rfl λ l=>by erw [zc];rfl
   | bit x s=>exact .one (x,s) (by show nxt (.bit x s) [] >>= _=_;unfold nxt;simp) (.inr rfl) λ l _ hb=>by erw [zc];exact hb.el rfl rfl
 | bit x s =>
  have h0:nxt (.bit x s) []=some [(x,s)]:=by unfold nxt;simp
  have hk:qK [.bit x s,b] []=(nxt b [(x,s)]).bind (qK []):=by show (nxt (.bit x s) []).bind _=_;erw [h0];rfl
  cases b with
  | num i=>cases tb
  | sum ps c=>cases tb
  | tru y =>
   cases y with
   | false=>exact .no (by erw [hk];rfl) λ l ha _=>by erw [zc];exact ha.el rfl rfl
   | true=>exact .one (x,s) (by erw [hk];rfl) (.inl rfl) λ l ha _=>by erw [zc];exact ha.el rfl rfl
  | bit y t =>
   have h1:nxt (.bit y t) [(x,s)]=if (y,!t)=(x,s) then none else if (y,t)=(x,s) then some [(x,s)] else some [(x,s),(y,t)]:=by unfold nxt;simp
   rw [h1] at hk
   by_cases C9:x=y
   ·subst C9
    by_cases tu:s=t
    ·subst tu
     refine .one (x,s) ?_ (.inl rfl) λ l _ _=>Int.min_self _
     (erw [hk];erw [if_neg (λ e=>by cases s <;> cases e)];erw [if_pos rfl]);rfl
    ·have e:(!t)=s:=by cases s <;> cases t <;> first | rfl | exact absurd rfl tu
     refine .no (by (erw [hk];erw [e];erw [if_pos rfl]);rfl) λ l ha hb=>?_
     have h2:zC l (.bit x s)=1 - zC l (.bit x t):=by (erw [zb];erw [zb];refine rwS e ?_);exact zEd
     erw [h2];exact hb.el rfl rfl
   ·refine .two (x,s) (y,t) ?_ rfl rfl C9
    (erw [hk];erw [if_neg (λ e=>C9 (congrArg nc e).symm)];erw [if_neg (λ e=>C9 (congrArg nc e).symm)]);rfl
theorem KC.nn {a b:Th}(k:KC a b)(h:qK [a,b] []=none):∀ l,B01 (zC l a)->B01 (zC l b)->min (zC l a) (zC l b)=0:=by
 cases k with
 | no _ w=>exact w
 | all e _=>exact nomatch h.symm.trans e
 | one _ e _ _=>exact nomatch h.symm.trans e
 | two _ _ e _ _ _=>exact nomatch h.symm.trans e
@[elab_as_elim] theorem KC.ss {a b:Th}{ks:List (Int×Bool)}{motive:List (Int×Bool)->Prop}(k:KC a b)(h:qK [a,b] []=some ks)(h0:(∀ l,min (zC l a) (zC l b)=1)->motive [])(h1:∀ p,(a=thb p∨b=thb p)->(∀ l,B01 (zC l a)->B01 (zC l b)->min (zC l a) (zC l b)=zC l (thb p))->motive [p])(h2:∀ p q,a=thb p->b=thb q->p.1≠q.1->motive [p,q]):motive ks:=by
 cases k with
 | no e _=>exact nomatch h.symm.trans e
 | all e w=>obtain rfl:=so (h.symm.trans e);exact h0 w
 | one p e x w=>obtain rfl:=so (h.symm.trans e);exact h1 p x w
 | two p q e x y n=>obtain rfl:=so (h.symm.trans e);exact h2 p q x y n
theorem zFu {p q:Int×Bool}(h:p.1≠q.1):∃ x y,ZM [p,q]=[x,y]/\x.1<y.1/\((x=p/\y=q)∨(x=q/\y=p)):=by
 by_cases s3:p.1<q.1
 ·exact ⟨p,q,QX (l':=[p,q]) (r:=[0,1]) (by simp [s3]) rfl rfl rfl rfl,s3,.inl ⟨rfl,rfl⟩⟩
 ·have HX:q.1<p.1:=Int.lt_iff_le_and_ne.mpr ⟨cy.mp s3,iO h⟩
  exact ⟨q,p,QX (l':=[q,p]) (r:=[1,0]) (by simp [HX]) rfl rfl rfl rfl,HX,.inr ⟨rfl,rfl⟩⟩
theorem nice01:Nice [(0,1)] 0 1:=⟨⟨by decide,by decide⟩,by decide,by decide,by decide,by decide⟩
theorem v01 (h:B01 v):v∈vals [(0,1)]:=h.el (vals_mem.mpr ⟨(0,1),.head _,by decide,by decide⟩) (vals_mem.mpr ⟨(0,1),.head _,by decide,by decide⟩)
theorem Jc {l:List Int}{x:Int}{s:Bool}(h:B01 (zB l x)):B01 (bw l x s):=by
 cases s with
 | true=>exact h
 | false=>exact h.fl
theorem zAQ {l:List Int}{x:Int}{s:Bool}(h:B01 (bw l x s)):B01 (zB l x):=by
 cases s with
 | true=>exact h
 | false=>refine rwS (gV 1 (zB l x)) ?_;exact B01.fl h
theorem zAs {i j:Int}{s t:Bool}(hd:d=.or i j∨d=.all i s j t)(hr:In k [i,j])(FO:∀ row,BR g row->∀ l,run row ds=some l->B01 (zB l i)/\B01 (zB l j)) :
  DdS k ⟨d,[(0,1)]⟩/\∀ row,BR g row->∀ l,run row ds=some l->DdP l ⟨d,[(0,1)]⟩:=by
 have hs:DdS k ⟨d,[(0,1)]⟩:=by
  refine ⟨?_,?_,nice01.wide (by decide) (by decide),.inr (nice01.wide (by decide) (by decide)),λ i ns e=>?_,λ c e=>?_,λ _ _ _ _ _=>rfl,λ ps c e=>?_⟩
  ·rcases hd with rfl | rfl <;> exact hr
  ·rcases hd with rfl | rfl <;> exact (by decide:2<=10)
  ·rcases hd with rfl | rfl <;> cases e
  ·rcases hd with rfl | rfl <;> cases e
  ·rcases hd with rfl | rfl <;> cases e
 refine ⟨hs,λ row hr l hl=>?_⟩
 refine Ea (FO row hr l hl) λ h1 h2=>?_
 rcases hd with rfl | rfl
 ·refine ⟨λ v hv=>?_,h1,h2⟩
  have hv:some (max (zB l i) (zB l j))=some v:=hv
  obtain rfl:=so hv
  exact v01 (h1.mx h2)
 ·refine ⟨λ v hv=>?_,h1,h2⟩
  have hv:some (min (bw l i s) (bw l j t))=some v:=hv
  obtain rfl:=so hv
  exact v01 ((Jc h1).mn (Jc h2))
theorem flip_b {a b:Int}:(-3<=0 + zm (1 * a) [1 * b]/\0 + ze (1 * a) [1 * b]<=4) ↔ (-3<=1 + zm (-1 * a) [-1 * b]/\1 + ze (-1 * a) [-1 * b]<=4):=by
 rw [zAc,zAc]
 exact ⟨λ ⟨⟨h1,h2⟩,h3,h4⟩=>⟨⟨by exact liZ [] [_] (.k (-3)) (.a (.k 1) (.m (-1) (.v 0))) [(1,.L (.a (.k 0) (.m 1 (.v 0))) (.k 4))] tT9 h2,by exact liZ [] [_] (.a (.k 1) (.m (-1) (.v 0))) (.k 4) [(1,.L (.k (-3)) (.a (.k 0) (.m 1 (.v 0))))] (by kernel_rfl) h1⟩,by exact liZ [] [_] (.k (-3)) (.a (.k 1) (.m (-1) (.v 0))) [(1,.L (.a (.k 0) (.m 1 (.v 0))) (.k 4))] tT9 h4,by exact liZ [] [_] (.a (.k 1) (.m (-1) (.v 0))) (.k 4) [(1,.L (.k (-3)) (.a (.k 0) (.m 1 (.v 0))))] (by kernel_rfl) h3⟩,λ ⟨⟨h1,h2⟩,h3,h4⟩=>⟨⟨by exact liZ [] [_] (.k (-3)) (.a (.k 0) (.m 1 (.v 0))) [(1,.L (.a (.k 1) (.m (-1) (.v 0))) (.k 4))] (by kernel_rfl) h2,by exact liZ [] [_] (.a (.k 0) (.m 1 (.v 0))) (.k 4) [(1,.L (.k (-3)) (.a (.k 1) (.m (-1) (.v 0))))] (by kernel_rfl) h1⟩,by exact liZ [] [_] (.k (-3)) (.a (.k 0) (.m 1 (.v 0))) [(1,.L (.a (.k 1) (.m (-1) (.v 0))) (.k 4))] (by kernel_rfl) h4,by exact liZ [] [_] (.a (.k 0) (.m 1 (.v 0))) (.k 4) [(1,.L (.k (-3)) (.a (.k 1) (.m (-1) (.v 0))))] (by kernel_rfl) h3⟩⟩
theorem ZT {s:Bool}(h:TG g ds (vz k))(b:-3<=(bounds (Bd g ds) (vz k)).1/\(bounds (Bd g ds) (vz k)).2<=4):Near g ds (.bit k s):=by
 cases s with
 | true=>exact ⟨⟨h.len,h.mem,h.lo,h.hi⟩,b.1,b.2⟩
 | false =>
  have hb:-3<=(bounds (Bd g ds) (.bit k false)).1/\(bounds (Bd g ds) (.bit k false)).2<=4:=flip_b.mp b
  refine ⟨⟨dj 1,λ p m=>?_,ai (oD9 rfl) hb.1,ai hb.2 (oD9 rfl)⟩,hb.1,hb.2⟩
  have hk:=(h.mem (k,1) (.head _)).1
  refine zZ m ?_
  exact ⟨hk,(by decide:(-10:Int)<=-1),(by decide:(-1:Int)<=10)⟩
theorem yc {t:Th}(h:isK t=true)(h1:-3<=cOf t)(h2:cOf t<=4):Near g ds t:=by
 have e:bounds (Bd g ds) t=(cOf t,cOf t):=by unfold bounds;erw [qP h];rfl
 have hp:=qP h
 exact ⟨⟨by erw [hp];exact bO _,λ p m=>(by rw [hp] at m;exact nomatch m),by erw [e];dsimp only;exact ai (oD9 rfl) h1,by erw [e];dsimp only;exact ai h2 (oD9 rfl)⟩,by erw [e];exact h1,by erw [e];exact h2⟩
theorem near_tru :Near g ds (.tru b):=by cases b <;> exact yc rfl (by decide) (by decide)
theorem qz {t:Th}(h:isT t=true)(hN:Near g ds t):Near g ds (neg t):=by
 cases t with
 | tru b=>exact near_tru (b:=!b)
 | num i=>cases h
 | sum ps c=>cases h
 | bit x s =>
  have hx:=hN.tg.mem
  have hm:0<=x/\x<((3 + ds.length:Nat):Int):=by cases s <;> exact (hx _ (.head _)).1
  (refine Ee (bS hm.1) λ k BQ=>?_;obtain rfl:=BQ)
  show Near g ds (.bit k (!s))
  have hb:-3<=(bounds (Bd g ds) (.bit k (!s))).1/\(bounds (Bd g ds) (.bit k (!s))).2<=4:=by
   cases s with
   | true=>exact flip_b.mp ⟨hN.lo,hN.hi⟩
   | false=>exact flip_b.mpr ⟨hN.lo,hN.hi⟩
  refine ⟨⟨?_,λ p m=>?_,ai (oD9 rfl) hb.1,ai hb.2 (oD9 rfl)⟩,hb.1,hb.2⟩
  ·cases s <;> exact (by decide:1<=2)
  ·cases s <;> (refine zZ m ?_;exact ⟨hm,by dsimp only;decide,by dsimp only;decide⟩)
theorem Yld.near {m:Nat}{f:List Int->Option Int}{t:Th}(o:Yld g ds sU m f t)(h:Near g ds u):Near g sU u:=by
 (refine Ee (o.pre) λ X AN=>?_;obtain rfl:=AN)
 exact ⟨h.tg.app,by erw [h.tg.same];exact h.lo,by erw [h.tg.same];exact h.hi⟩
theorem Yld.tr {m:Nat}{f:List Int->Option Int}{t:Th}(I:Inv g ds)(o:Yld g ds sU m f t)(hu:TG g ds u)(h:Tr g ds u):Tr g sU u:=λ row hr l' CA=>by
 (refine Eeeaa (o.back hr CA) λ l Y h1 Bh=>?_;obtain rfl:=Bh;intro _)
 erw [hu.app_worth (I.at hr h1).1]
 exact h row hr l h1
theorem Yld.trT {m:Nat}{f:List Int->Option Int}{t:Th}(o:Yld g ds sU m f t)(h:∀ row,BR g row->∀ l,Mine.Internal.run row ds=some l->∀ v,f l=some v->B01 v):Tr g sU t:=λ row hr l' CA=>by
 (refine Eeeaa (o.back hr CA) λ l Y h1 AZ=>?_;obtain rfl:=AZ;intro h2)
 exact h row hr l h1 _ h2
section
variable {C:Cx}{n g:Nat}{fd:MO}{pt:D}{ds:List Dd}{τ:zA}{Q:D->zA->Prop}
theorem zCN {made:List (Ky×D)}{x:MO}:(zE fd pt vars tolds made++(τ++[x]))[8 + τ.length]?=some x:=by
 (erw [jo (aH _ _)];erw [fh]);exact aX
theorem zBJ {made:List (Ky×D)}{x y:MO}:(zE fd pt vars tolds made++(τ++[x])).set (8 + τ.length) y=zE fd pt vars tolds made++(τ++[y]):=by
 (refine rwS (au ..) ?_;refine rwS (au ..) ?_;refine rwS (ZY (fd:=fd) (pt:=pt) (vars:=vars) (tolds:=tolds) (made:=made)) ?_);exact qo _ _ _
theorem Yld.toBit {m:Nat}{s:Bool}{f:List Int->Option Int}(o:Yld g ds sU m f (vz k))(e:∀ l,f' l=(f l).map λ w=>if s=true then w else 1 - w)(hN:Near g sU (.bit k s)):Yld g ds sU m f' (.bit k s):=by
 refine ⟨o.inv,o.pre,o.len,hN.tg,λ row hr l hl=>?_⟩
 refine Ea (o.run row hr l hl) λ h1 h2=>?_
 erw [e]
 cases hf:f l with
 | none=>exact ⟨λ w hw=>(nomatch hw),λ _=>h2 hf⟩
 | some v =>
  refine ⟨λ w hw=>?_,λ hn=>nomatch hn⟩
  refine Eea (h1 v hf) λ Y h3 h4=>?_
  refine ⟨Y,h3,?_⟩
  obtain rfl:=so hw
  (erw [zb];refine rwS h4 ?_;erw [ZU]);rfl
theorem uK:∀ {l:List (Int×Bool)},(l.map (·.1)).Nodup->∀ p,p∈l->(p.1,!p.2)∉l
 | [],_,p,m=>nomatch m
 | q::r,h,p,m=>by
  refine Ea (cG.mp h) λ h1 h2=>?_
  intro m'
  rcases aJ.mp m with rfl | m
  ·rcases aJ.mp m' with e | m'
   ·have e2:(!p.2)=p.2:=congrArg Prod.snd e
    cases hp:p.2 <;> rw [hp] at e2 <;> cases e2
   ·exact h1 (aU.mpr ⟨_,m',rfl⟩)
  ·rcases aJ.mp m' with e | m'
   ·have e2:(p.1,!p.2).1=q.1:=congrArg (λ r:Int×Bool=>r.1) e
    exact h1 (aU.mpr ⟨p,m,e2⟩)
   ·exact uK h2 p m m'
theorem vL {i:Int}{s:Bool}(h:Near g ds (.bit i s)):0<=i/\i<((3 + ds.length:Nat):Int):=by
 cases s <;> exact (h.tg.mem _ (.head _)).1
theorem Wf {i k:Int}{s:Bool}(h1:i<k):ZM [(k,false),(i,s)]=[(i,s),(k,false)] :=
 QX (l':=[(i,s),(k,false)]) (r:=[1,0]) (by simp [h1]) rfl rfl rfl rfl
theorem zEv {i j k:Int}{s t:Bool}(h1:i<j)(h2:j<k):ZM [(k,true),(i,s),(j,t)]=[(i,s),(j,t),(k,true)] :=
 QX (l':=[(i,s),(j,t),(k,true)]) (r:=[2,0,1]) (by simp [h1,h2,ml h1 h2]) rfl rfl rfl rfl
theorem zGl {s t:Bool}:(!(s==true || (t==true || false)))=true->s=false/\t=false:=by cases s <;> cases t <;> decide
theorem zGi {s t:Bool}:(!(s==false || (t==false || false)))=true->s=true/\t=true:=by cases s <;> cases t <;> decide
theorem zGd {s t:Bool}:(!(s==false || (t==false || false)))=false->¬ (s=true/\t=true):=by cases s <;> cases t <;> decide
theorem uu {p q x y:Int×Bool}(h:(x=p/\y=q)∨(x=q/\y=p)):(∀ l,min (zC l (thb p)) (zC l (thb q))=min (bw l x.1 x.2) (bw l y.1 y.2))/\∀ {P:Th->Prop},P (thb p)->P (thb q)->P (thb x)/\P (thb y):=by
 rcases h with ⟨rfl,rfl⟩ | ⟨rfl,rfl⟩
 ·exact ⟨λ l=>by unfold thb;rw [zb,zb],λ a b=>⟨a,b⟩⟩
 ·exact ⟨λ l=>by unfold thb;rw [zb,zb,Int.min_comm],λ a b=>⟨b,a⟩⟩
theorem vm (L:Law1 C){p q:Int×Bool}{d1 d3 d4 d5 d6 d7:Option D}(I:Inv g ds)(tn:ds.length<=800)(ha:Near g ds (thb p))(hb:Near g ds (thb q))(h1:Tr g ds (thb p))(h2:Tr g ds (thb q))(tq:p.1≠q.1)
  (hq:∀ t' sU,Yld g ds sU 1 (λ l=>some (min (zC l (thb p)) (zC l (thb q)))) t'->isT t'=true->Near g sU t'->Q (.p (enc t')) (stt fd pt (vb0 g) sU++τ)) :
  wpSs C T1 (n + 3) (b_all_of.drop 2) [some (.obj 2),d1,some (.obj (8 + τ.length)),d3,d4,d5,d6,d7] (stt fd pt (vb0 g) ds++(τ++[.lst ([p,q].map zI)])) λ fl _ σ'=>ZR (stt fd pt (vb0 g) ds++τ) Q fl σ':=by
 refine Eeeaa (zFu tq) λ x y hs s3 C9=>?_
 unfold b_all_of
 simp only [cF]
 have tu:∀ ds,stt fd pt (vb0 g) ds=zE fd pt (vb0 g++zR 3 ds) ((zN 3 ds).map zJ) (zT 3 ds):=λ _=>rfl
 have c1:∀ {vars tolds made} {x:MO},(zE fd pt vars tolds made++(τ++[x]))[8 + τ.length]?=some x:=λ {vars tolds made x}=>zCN
 have c2:∀ {vars tolds made} {x y:MO},(zE fd pt vars tolds made++(τ++[x])).set (8 + τ.length) y=zE fd pt vars tolds made++(τ++[y]):=λ {vars tolds made x y}=>zBJ
 refine zG ?_
 walk_at "st"
 erw [c1]
 walk_at "st"
 refine ⟨λ h=>h.elim,λ _=>?_⟩
 walk_at "st"
 refine zG ?_
 walk_at "st"
 erw [c1]
 walk_at "st"
 refine ⟨[p,q],rfl,Y7 rfl,?_⟩
 erw [hs]
 obtain ⟨i,s⟩:=x
 obtain ⟨j,t⟩:=y
 have F6:∀ p,zI p=.tuple [.str "bit",.int p.1,.bool p.2]:=λ _=>rfl
 simp only [c2,aY,bW,F6]
 refine zG ?_
 walk_at "st"
 erw [c1]
 walk_at "st"
 refine zq ?_
 walk_at "st"
 refine ⟨c1,zq ?_⟩
 walk_at "st"
 refine ⟨c1,ZZ ?_⟩
 unfold zW
 walk_at "st"
 erw [c1]
 walk_at "st"
 refine zq ?_
 walk_at "st"
 refine ⟨c1,zq ?_⟩
 walk_at "st"
 refine ⟨c1,ZZ ?_⟩
 walk_at "st"
 have hx:thb (i,s)=.bit i s:=rfl
 have E4:∀ l,min (zC l (thb p)) (zC l (thb q))=min (bw l i s) (bw l j t):=(uu C9).1
 have hN:Near g ds (.bit i s)/\Near g ds (.bit j t):=(uu C9).2 ha hb
 have hT:Tr g ds (.bit i s)/\Tr g ds (.bit j t):=(uu C9).2 h1 h2
 have hr:In (3 + ds.length) [i,j]:=λ v m=>by
  refine ZA m ?_ λ m=>?_
  ·exact vL hN.1
  ·refine zZ m ?_;exact vL hN.2
 have FO:∀ row,BR g row->∀ l,run row ds=some l->B01 (zB l i)/\B01 (zB l j):=λ row hr l hl=>by
  have a:=hT.1 row hr l hl
  have b:=hT.2 row hr l hl
  rw [zb] at a b
  exact ⟨zAQ a,zAQ b⟩
 have z':=λ ds=>XG 3 ds
 have hi:=hr i (.head _)
 have hj:=hr j (.tail _ (.head _))
 refine zG ?_
 walk_at "st"
 refine YC (λ hc=>?_) (λ hc=>?_)
 ·have e:=zGl hc
  refine Ea (zAs (d:=.or i j) (i:=i) (j:=j) (s:=false) (t:=false) (.inl rfl) hr FO) λ S P=>?_
  have hv:∀ l,some (min (zC l (thb p)) (zC l (thb q)))=(val l (.or i j)).map λ w=>if false=true then w else 1 - w:=λ l=>by
   rw [E4,e.1,e.2]
   show some (min (1 - zB l i) (1 - zB l j))=some (1 - max (zB l i) (zB l j))
   (erw [uv];erw [gV];rfl)
  walk_at "go"
  refine Yb L (d:=.or i j) (rs:=[(0,1)]) I (ae tn (nB9 rfl)) S P (λ k _ o b=>?_) λ o b=>?_
  ·skip
   walk_at "go"
   exact Z5 (z' _) rfl (hq (.bit k false) ds (o.toBit hv (ZT o.tg (b trivial))) rfl (ZT o.tg (b trivial)))
  ·have tH:=hq (.bit ((3 + ds.length:Nat):Int) false) _ (o.toBit hv (ZT o.tg (b trivial))) rfl (ZT o.tg (b trivial))
   have ht:za ((3 + ds.length:Nat):Int) (.or i j)=[.bo true i j ((3 + ds.length:Nat):Int)]:=rfl
   rw [wX,qV,ht,aT,dP] at tH
   walk_at "go"
   refine YO L (JA (ae tn (nB9 rfl))) ?_
   walk_at "go"
   exact Z5 (z' _) rfl tH
 ·refine Ea (zAs (d:=.all i s j t) (i:=i) (j:=j) (s:=s) (t:=t) (.inr rfl) hr FO) λ S P=>?_
  have hv:∀ l,some (min (zC l (thb p)) (zC l (thb q)))=(val l (.all i s j t)).map λ w=>if true=true then w else 1 - w:=λ l=>by
   erw [E4];rfl
  walk_at "go"
  erw [c1]
  walk_at "st"
  refine Yb L (d:=.all i s j t) (rs:=[(0,1)]) I (ae tn (nB9 rfl)) S P (λ k _ o b=>?_) λ o b=>?_
  ·skip
   walk_at "go"
   exact Z5 (z' _) rfl (hq (.bit k true) ds (o.toBit hv (ZT o.tg (b trivial))) rfl (ZT o.tg (b trivial)))
  ·have tH:=hq (.bit ((3 + ds.length:Nat):Int) true) _ (o.toBit hv (ZT o.tg (b trivial))) rfl (ZT o.tg (b trivial))
   rw [wX,qV,aT] at tH
   have HT:za ((3 + ds.length:Nat):Int) (.all i s j t)=if s=true/\t=true then [.bo false i j ((3 + ds.length:Nat):Int)] else [.cl [(i,s),(((3 + ds.length:Nat):Int),false)],.cl [(j,t),(((3 + ds.length:Nat):Int),false)],.cl [(i,!s),(j,!t),(((3 + ds.length:Nat):Int),true)]]:=rfl
   walk_at "go"
   refine YC (λ hd=>?_) (λ hd=>?_)
   ·have e:=zGi hd
    rw [HT,if_pos e,dP] at tH
    walk_at "go"
    refine YO L (JA (ae tn (nB9 rfl))) ?_
    walk_at "go"
    exact Z5 (z' _) rfl tH
   ·have e:=zGd hd
    rw [HT,if_neg e] at tH
    have hk:(3 + (ds.length:Int))=((3 + ds.length:Nat):Int):=rfl
    erw [hk]
    generalize ((3 + ds.length:Nat):Int)=k at *
    walk_at "go"
    erw [c1]
    walk_at "st"
    have AK:((zN 3 ds).map zJ).length<=3000:=by erw [aj];have:=qi ds 3;exact lin [_,_] [] (.v 0) (.k 3000) [(3,.l (.v 1) (.k 800)),(1,.l (.v 0) (.m 3 (.v 1)))] tT9 tn this
    generalize (zN 3 ds).map zJ=tl at *
    refine zq ?_
    walk_at "go"
    refine qL L (l:=[(k,false),(i,s)]) (l':=[(i,s),(k,false)]) (z' _) (by decide:2<=4) (by decide:2<=4) (uK (by simp;exact cN (hi.2))) (Y7 rfl) (Wf hi.2) (by simp;exact hi.2) (ae AK (nB9 rfl)) ?_
    walk_at "go"
    refine ⟨c1,zq ?_⟩
    walk_at "go"
    refine qL L (l:=[(k,false),(j,t)]) (l':=[(j,t),(k,false)]) (z' _) (by decide:2<=4) (by decide:2<=4) (uK (by simp;exact cN (hj.2))) (Y7 rfl) (Wf hj.2) (by simp;exact hj.2) (by simp;exact ae AK (nB9 rfl)) ?_
    walk_at "go"
    refine ⟨c1,ZZ ?_⟩
    walk_at "go"
    erw [c1]
    walk_at "st"
    refine zq ?_
    walk_at "st"
    refine ZL (t:=.bit i s) L rfl ?_
    walk_at "st"
    refine ⟨c1,zq ?_⟩
    walk_at "st"
    refine ZL (t:=.bit j t) L rfl ?_
    walk_at "st"
    refine ⟨c1,ZZ ?_⟩
    unfold zW
    walk_at "st"
    refine qL L (l:=[(k,true),(i,!s),(j,!t)]) (l':=[(i,!s),(j,!t),(k,true)]) (z' _) (by decide:3<=4) (by decide:3<=4) (uK (by simp;exact ⟨⟨cN (hi.2),cN (hj.2)⟩,kt (s3)⟩)) (Vp rfl) (zEv s3 hj.2) (by simp;exact ⟨⟨s3,hi.2⟩,hj.2⟩) (by simp;exact ae AK (nB9 rfl)) ?_
    walk_at "go"
    exact Z5 (z' _) rfl (by (erw [au];erw [au]);exact tH)
theorem jM (L:Law1 C){a b:Th}(ta:isT a=true)(tb:isT b=true)(I:Inv g ds)(tn:ds.length<=800)(ha:Near g ds a)(hb:Near g ds b)(h1:Tr g ds a)(h2:Tr g ds b)
  (hq:∀ t' sU,Yld g ds sU 1 (λ l=>some (min (zC l a) (zC l b))) t'->isT t'=true->Near g sU t'->Q (.p (enc t')) (stt fd pt (vb0 g) sU++τ)) :
  SatCall C T1 (n + 4) 314 [.obj 2,.p (.list [enc a,enc b])] (stt fd pt (vb0 g) ds++τ) Q:=by
 refine zL L.Y L.TT L.all_of rfl ?_
 have AB:=λ p q (d1 d3 d4 d5 d6 d7:Option D)=>vm (C:=C) (n:=n) (p:=p) (q:=q) (d1:=d1) (d3:=d3) (d4:=d4) (d5:=d5) (d6:=d6) (d7:=d7) (fd:=fd) (pt:=pt) (τ:=τ) (Q:=Q) L I tn
 have tu:stt fd pt (vb0 g) ds=zE fd pt (vb0 g++zR 3 ds) ((zN 3 ds).map zJ) (zT 3 ds):=rfl
 unfold b_all_of at *
 simp only [cF] at AB
 refine zG ?_
 walk_at "st"
 refine zG ?_
 walk_at "st"
 refine vf L [a,b] [] none (by decide:2<=900) (λ t m=>?_) (λ hn ρ ks=>?_) (λ ks hk v3=>?_)
 ·refine ZA m ?_ λ m=>?_
  ·exact ta
  ·refine zZ m ?_;exact tb
 ·have hm:=(jx ta tb).nn hn
  exact Zg rfl (hq (.tru false) ds (Yld.here 1 I near_tru.tg λ row hr l hl=>by (erw [hm l (h1 row hr l hl) (h2 row hr l hl)];erw [zc]);rfl) rfl near_tru)
 ·walk_at "st"
  refine (jx ta tb).ss hk (λ hm=>?_) (λ p hp hm=>?_) (λ p q ea eb tq=>?_)
  ·have tH:=hq (.tru true) ds (Yld.here 1 I near_tru.tg λ row hr l hl=>by (erw [hm l];erw [zc]);rfl) rfl near_tru
   refine zG ?_
   walk_at "st"
   refine ⟨λ _=>?_,λ h=>absurd trivial h⟩
   walk_at "go"
   exact Zg rfl tH
  ·have ht:isT (thb p)=true/\Near g ds (thb p)/\Tr g ds (thb p):=hp.elim (λ e=>e▸⟨ta,ha,h1⟩) λ e=>e▸⟨tb,hb,h2⟩
   have tH:=hq (thb p) ds (Yld.here 1 I ht.2.1.tg λ row hr l hl=>by (erw [hm l (h1 row hr l hl) (h2 row hr l hl)];rfl)) rfl ht.2.1
   refine zG ?_
   walk_at "st"
   refine ⟨λ _=>?_,λ h=>absurd trivial h⟩
   walk_at "go"
   exact Zg rfl tH
  ·(erw [ZY];erw [au])
   exact AB p q _ _ _ _ _ _ (ea▸ha) (eb▸hb) (ea▸h1) (eb▸h2) tq (by rw [<- ea,<- eb];exact hq)
end
theorem uU {t:Th}(h:isT t=true):isT (neg t)=true:=by cases t <;> first | rfl | cases h
theorem Tr.neg {t:Th}(ht:isT t=true)(h:Tr g ds t):Tr g ds (neg t):=λ row hr l hl=>by
 erw [qb ht];exact (h row hr l hl).fl
theorem Yld.neg {m:Nat}{f:List Int->Option Int}{t:Th}(o:Yld g ds sU m f t)(ht:isT t=true)(hN:Near g sU t)(e:∀ l,f' l=(f l).map λ w=>1 - w):Yld g ds sU m f' (Mine.Internal.neg t):=by
 refine ⟨o.inv,o.pre,o.len,(qz ht hN).tg,λ row hr l hl=>?_⟩
 refine Ea (o.run row hr l hl) λ h1 h2=>?_
 erw [e]
 cases hf:f l with
 | none=>exact ⟨λ w hw=>(nomatch hw),λ _=>h2 hf⟩
 | some v =>
  refine ⟨λ w hw=>?_,λ hn=>nomatch hn⟩
  refine Eea (h1 v hf) λ Y h3 h4=>?_
  refine ⟨Y,h3,?_⟩
  obtain rfl:=so hw
  (erw [qb ht];erw [h4];rfl)
structure PlT (g:Nat)(ds:List Dd)(t:Th):Prop where
 near:Near g ds t
 tr:isT t=true->Tr g ds t
theorem Yld.pl {m:Nat}{f:List Int->Option Int}{t:Th}(I:Inv g ds)(o:Yld g ds sU m f t)(h:PlT g ds u):PlT g sU u:=⟨o.near h.near,λ hu=>o.tr I h.near.tg (h.tr hu)⟩
theorem VX {row l:List Int}(hr:BR g row)(hl:run row ds=some l):B01 (zB l 2):=by
 (refine Eeeeaaa (hr.h) λ p q r Ao=>?_;obtain rfl:=Ao;intro _ _ h)
 obtain ⟨_,Y,rfl⟩:=YV hl
 exact h
theorem zEj {a b:Int}(hw:B01 w)(ha:B01 a)(hb:B01 b):max (min w a) (min (1 - w) b)=if w=1 then a else b:=hw.el (ha.el (hb.el rfl rfl) (hb.el rfl rfl)) (ha.el (hb.el rfl rfl) (hb.el rfl rfl))
section
variable {C:Cx}{n g:Nat}{fd:MO}{pt:D}{ds:List Dd}{τ:zA}{Q:D->zA->Prop}
theorem zA1 (L:Law1 C){a b:Th}(ta:isT a=true)(tb:isT b=true)(I:Inv g ds)(tn:ds.length<=800)(ha:Near g ds a)(hb:Near g ds b)(h1:Tr g ds a)(h2:Tr g ds b)
  (hq:∀ t' sU,Yld g ds sU 1 (λ l=>some (max (zC l a) (zC l b))) t'->isT t'=true->Near g sU t'->Q (.p (enc t')) (stt fd pt (vb0 g) sU++τ)) :
  SatCall C T1 (n + 5) 319 [.obj 2,.p (.list [enc a,enc b])] (stt fd pt (vb0 g) ds++τ) Q:=by
 refine zL L.Y L.TT L.any_of rfl ?_
 unfold Y0
 walk_at "go"
 refine ZL L ta ?_
 walk_at "go"
 refine ZL L tb ?_
 walk_at "go"
 refine ZZ ?_
 unfold zW
 walk_at "go"
 refine jM L (uU ta) (uU tb) I tn (qz ta ha) (qz tb hb) (h1.neg ta) (h2.neg tb) λ t' sU o tt hN=>?_
 walk_at "go"
 refine ZL L tt ?_
 walk_at "go"
 exact zD rfl (hq _ _ (o.neg tt hN λ l=>by (erw [qb ta];erw [qb tb]);show some (max (zC l a) (zC l b))=some (1 - min (1 - zC l a) (1 - zC l b));(erw [uv];rfl)) (uU tt) (qz tt hN))
theorem zEe (L:Law1 C){w one:Th}(tw:isT w=true)(t1:isT one=true)(t2:isT two=true)(I:Inv g ds)(tn:ds.length<=700)(hw:PlT g ds w)(h1:PlT g ds one)(h2:PlT g ds two)
  (hq:∀ t' sU,Yld g ds sU 3 (λ l=>some (if zC l w=1 then zC l one else zC l two)) t'->isT t'=true->Near g sU t'->Q (.p (enc t')) (stt fd pt (vb0 g) sU++τ)) :
  wpS C T1 (n + 5) (.ret (.meth (.nm 0) 32 [(.lst false [(.meth (.nm 0) 31 [(.lst false [(.nm 1),(.nm 2)])]),(.meth (.nm 0) 31 [(.lst false [(.call false (.gl 32) [(.nm 1)]),(.nm 3)])])])])) [some (.obj 2),some (.p (enc w)),some (.p (enc one)),some (.p (enc two))] (stt fd pt (vb0 g) ds++τ) λ fl _ σ'=>ZR (stt fd pt (vb0 g) ds++τ) Q fl σ':=by
 have tu:∀ ds,zE fd pt (vb0 g++zR 3 ds) ((zN 3 ds).map zJ) (zT 3 ds)++τ=(stt fd pt (vb0 g) ds++τ):=λ _=>rfl
 walk_at "go"
 refine jM L tw t1 I (ae tn (nB9 rfl)) hw.near h1.near (hw.tr tw) (h1.tr t1) λ a Bl oa ta na=>?_
 have la:=oa.len
 walk_at "go"
 refine ZL L tw ?_
 walk_at "go"
 have Eg:=oa.pl I hw
 have Gq:=oa.pl I h2
 refine jM L (uU tw) t2 oa.inv (lin [_,_] [] (.v 0) (.k 800) [(1,.l (.v 1) (.k 700)),(1,.l (.v 0) (.a (.v 1) (.k 1)))] tT9 tn la) (qz tw Eg.near) Gq.near ((Eg.tr tw).neg tw) (Gq.tr t2) λ b BS ob tb nb=>?_
 have lb:=ob.len
 walk_at "go"
 have KO:Tr g Bl a:=oa.trT λ row hr l hl v hv=>by obtain rfl:=so hv;exact B01.mn (hw.tr tw row hr l hl) (h1.tr t1 row hr l hl)
 have K5:Tr g BS b:=ob.trT λ row hr l hl v hv=>by obtain rfl:=so hv;exact B01.mn ((Eg.tr tw).neg tw row hr l hl) (Gq.tr t2 row hr l hl)
 refine zA1 L ta tb ob.inv (lin [_,_,_] [] (.v 0) (.k 800) [(1,.l (.v 1) (.k 700)),(1,.l (.v 2) (.a (.v 1) (.k 1))),(1,.l (.v 0) (.a (.v 2) (.k 1)))] tT9 tn la lb) (ob.near na) nb (ob.tr oa.inv na.tg KO) K5 λ t' IP o tt nt=>?_
 have lo:=o.len
 walk_at "go"
 refine zD rfl (hq t' IP ?_ tt nt)
 refine Ee (oa.pre) λ X e1=>?_
 refine Ee (ob.pre) λ Y e2=>?_
 refine Ee (o.pre) λ Z e3=>?_
 refine ⟨o.inv,⟨X++(Y++Z),by (erw [e3];erw [e2];erw [e1];erw [au];erw [au];rfl)⟩,by exact lin [_,_,_,_] [] (.v 0) (.a (.v 1) (.k 3)) [(1,.l (.v 2) (.a (.v 1) (.k 1))),(1,.l (.v 3) (.a (.v 2) (.k 1))),(1,.l (.v 0) (.a (.v 3) (.k 1)))] tT9 la lb lo,o.tg,λ row hr l hl=>⟨λ v hv=>?_,λ hn=>nomatch hn⟩⟩
 refine Eea ((oa.run row hr l hl).1 _ rfl) λ P1 p1 p2=>?_
 refine Eea ((ob.run row hr _ p1).1 _ rfl) λ P2 p3 p4=>?_
 refine Eea ((o.run row hr _ p3).1 _ rfl) λ P3 p5 p6=>?_
 refine ⟨P1++(P2++P3),by (refine rwS (au ..) ?_;refine rwS (au ..) ?_);exact p5,?_⟩
 have l1:=(I.at hr hl).1
 have l2:=(oa.inv.at hr p1).1
 (refine rwS (au ..) ?_;refine rwS (au ..) ?_;erw [p6];erw [p4];erw [na.tg.app_worth l2];erw [p2];erw [qb tw];erw [hw.near.tg.app_worth l1];erw [h2.near.tg.app_worth l1])
 obtain rfl:=so hv
 exact zEj (hw.tr tw row hr l hl) (h1.tr t1 row hr l hl) (h2.tr t2 row hr l hl)
end
noncomputable def wa (s:Bool):Int:=if s then 1 else -1
noncomputable def wc (s:Bool):Int:=if s then 0 else 1
theorem zAD (s:Bool):(-3<=1 + 1 * wc s/\1 + 1 * wc s<=4)/\-3<=1 + 1 * wc s + 1 * wa s/\1 + 1 * wc s + 1 * wa s<=4:=by cases s <;> exact ⟨⟨by decide,by decide⟩,by decide,by decide⟩
theorem xN {k:Int}(h1:-3<=c/\c<=4)(h2:-3<=c + k/\c + k<=4):TG g ds (qc 2 k c)/\-3<=(bounds (Bd g ds) (qc 2 k c)).1/\(bounds (Bd g ds) (qc 2 k c)).2<=4:=by
 unfold qc
 by_cases h0:k=0
 ·erw [if_pos h0]
  have:=yc (g:=g) (ds:=ds) (t:=.num c) rfl h1.1 h1.2
  exact ⟨this.tg,this.lo,this.hi⟩
 ·erw [if_neg h0]
  have e:bounds (Bd g ds) (.sum [(2,k)] c)=(c + zm (k * 0) [k * 1],c + ze (k * 0) [k * 1]):=rfl
  have hb:-3<=(bounds (Bd g ds) (.sum [(2,k)] c)).1/\(bounds (Bd g ds) (.sum [(2,k)] c)).2<=4:=by
   (erw [e];erw [dg];erw [dM])
   exact (zAc c 0 k (-3) 4).mpr ⟨by erw [bJ];exact h1,h2⟩
  refine ⟨⟨by show 1<=2;decide,λ p m=>?_,ai (oD9 rfl) hb.1,ai hb.2 (oD9 rfl)⟩,hb⟩
  refine zZ m ?_
  exact ⟨by dsimp only;exact ⟨az _,liZ [_] [] (.a (.k 2) (.k 1)) (.c (.a (.k 3) (.v 0))) [] tT9⟩,by dsimp only;exact liZ [] [_,_] (.k (-10)) (.v 0) [(1,.L (.v 1) (.k 4)),(1,.L (.k (-3)) (.a (.v 1) (.v 0)))] (by kernel_rfl) h1.2 h2.1,by dsimp only;exact liZ [] [_,_] (.v 0) (.k 10) [(1,.L (.k (-3)) (.v 1)),(1,.L (.a (.v 1) (.v 0)) (.k 4))] (by kernel_rfl) h1.1 h2.2⟩
theorem Uu {l:List Int}{x k:Int}:zC l (qc x k c)=c + k * zB l x:=by
 unfold qc
 by_cases h0:k=0
 ·(erw [if_pos h0];erw [h0]);show c + 0=_;(erw [mh];rfl)
 ·erw [if_neg h0];show c + (k * zB l x + 0)=_;exact aO (liZ [] [_,_] (.a (.v 0) (.a (.v 1) (.k 0))) (.a (.v 0) (.v 1)) [] tT9) (liZ [] [_,_] (.a (.v 0) (.v 1)) (.a (.v 0) (.a (.v 1) (.k 0))) [] tT9)
theorem zEc {x k:Int}:isT (qc x k c)=false:=by unfold qc;split <;> rfl
theorem J7 {t:Th}(h:isK t=true)(hN:Near g ds t):-3<=cOf t/\cOf t<=4:=by
 have e:bounds (Bd g ds) t=(cOf t,cOf t):=by unfold bounds;erw [qP h];rfl
 have h1:=hN.lo
 have h2:=hN.hi
 rw [e] at h1 h2
 exact ⟨h1,h2⟩
theorem zDg {a b:Int}(ha:-3<=a/\a<=4)(hb:-3<=b/\b<=4)(s:Bool):(-1000<=a - b/\a - b<=1000)/\(-1000<=wa s/\wa s<=1000)/\(-1000<=wc s/\wc s<=1000) /\
  (-1000000<=b + (a - b) * wc s/\b + (a - b) * wc s<=1000000)/\(-1000000<=(a - b) * wa s/\(a - b) * wa s<=1000000)/\(-3<=b + (a - b) * wc s/\b + (a - b) * wc s<=4)/\-3<=b + (a - b) * wc s + (a - b) * wa s/\b + (a - b) * wc s + (a - b) * wa s<=4:=by
 have h:(b + (a - b) * wc s=a/\(a - b) * wa s=b - a)∨(b + (a - b) * wc s=b/\(a - b) * wa s=a - b):=by
  cases s
  ·exact .inl ⟨by show b + (a - b) * 1=a;(erw [dM];erw [fY];erw [gg];rfl),by show (a - b) * -1=b - a;(erw [rI];erw [dM];erw [Int.neg_sub];rfl)⟩
  ·exact .inr ⟨by show b + (a - b) * 0=b;(erw [dg];erw [bJ];rfl),dM _⟩
 have h2:-1000<=a - b/\a - b<=1000:=⟨by exact liZ [] [_,_] (.k (-1000)) (.s (.v 0) (.v 1)) [(1,.L (.k (-3)) (.v 0)),(1,.L (.v 1) (.k 4))] (by kernel_rfl) ha.1 hb.2,by exact liZ [] [_,_] (.s (.v 0) (.v 1)) (.k 1000) [(1,.L (.v 0) (.k 4)),(1,.L (.k (-3)) (.v 1))] (by kernel_rfl) ha.2 hb.1⟩
 refine ⟨h2,by cases s <;> exact ⟨by decide,by decide⟩,by cases s <;> exact ⟨by decide,by decide⟩,?_⟩
 rcases h with ⟨e1,e2⟩ | ⟨e1,e2⟩
 ·(erw [e1];erw [e2]);exact ⟨⟨by exact ai (oD9 rfl) ha.1,ai ha.2 (oD9 rfl)⟩,⟨by exact liZ [] [_,_] (.k (-1000000)) (.s (.v 0) (.v 1)) [(1,.L (.s (.v 1) (.v 0)) (.k 1000))] tT9 h2.2,by exact liZ [] [_,_] (.s (.v 0) (.v 1)) (.k 1000000) [(1,.L (.k (-1000)) (.s (.v 1) (.v 0)))] (by kernel_rfl) h2.1⟩,ha,⟨by exact liZ [] [_,_] (.k (-3)) (.a (.v 0) (.s (.v 1) (.v 0))) [(1,.L (.k (-3)) (.v 1))] (by kernel_rfl) hb.1,by exact liZ [] [_,_] (.a (.v 0) (.s (.v 1) (.v 0))) (.k 4) [(1,.L (.v 1) (.k 4))] tT9 hb.2⟩⟩
 ·(erw [e1];erw [e2]);exact ⟨⟨by exact ai (oD9 rfl) hb.1,ai hb.2 (oD9 rfl)⟩,⟨by exact ai (oD9 rfl) h2.1,ai h2.2 (oD9 rfl)⟩,hb,⟨by exact liZ [] [_,_] (.k (-3)) (.a (.v 0) (.s (.v 1) (.v 0))) [(1,.L (.k (-3)) (.v 1))] (by kernel_rfl) ha.1,by exact liZ [] [_,_] (.a (.v 0) (.s (.v 1) (.v 0))) (.k 4) [(1,.L (.v 1) (.k 4))] tT9 ha.2⟩⟩
theorem zFH {a b:Int}(s:Bool)(h:B01 r):(if wc s + wa s * r=1 then a else b)=b + (a - b) * wc s + (a - b) * wa s * r:=by
 cases s <;> rcases h with rfl | rfl
 ·show a=b + (a - b) * 1 + (a - b) * -1 * 0;(erw [dg];erw [bJ];erw [dM];erw [fY];erw [gg];rfl)
 ·show b=b + (a - b) * 1 + (a - b) * -1 * 1;(erw [dM];erw [dM];erw [rI];erw [dM];erw [eN];erw [Int.add_right_neg];erw [bJ];rfl)
 ·show b=b + (a - b) * 0 + (a - b) * 1 * 0;(erw [dg];erw [dg];erw [bJ];erw [bJ];rfl)
 ·show a=b + (a - b) * 0 + (a - b) * 1 * 1;(erw [dg];erw [bJ];erw [dM];erw [dM];erw [fY];erw [gg];rfl)
section
variable {C:Cx}{n g:Nat}{ds:List Dd}{Q:D->zA->Prop}
noncomputable def thI (s:Bool):Th:=qc 2 (1 * wa s) (1 + 1 * wc s)
theorem thI_ok {s:Bool}:TG g ds (thI s)/\∀ l,zC l (thI s)=1 + bw l 2 s:=by
 refine ⟨(show TG g ds (qc 2 (1 * wa s) (1 + 1 * wc s)) from (xN (zAD s).1 (zAD s).2).1),λ l=>?_⟩
 unfold thI
 erw [Uu]
 cases s
 ·show 1 + 1 * 1 + 1 * -1 * zB l 2=1 + (1 - zB l 2);rw [dh,dh,kM,dh,eN];rfl
 ·show 1 + 1 * 0 + 1 * 1 * zB l 2=1 + zB l 2;rw [dg,bJ,dh,dh]
theorem ju (L:Law1 C){s:Bool}(q:Q (.p (enc (thI s))) σ):SatCall C T1 (n + 3) 233 [.p (.int 1),.p (.tuple [.str "bit",.int 2,.bool s]),.p (.int 1)] σ Q:=by
 exact WX (t1:=.num 1) (t2:=.bit 2 s) (x:=2) (a:=wa s) L rfl (by cases s <;> rfl) (by decide) (by decide) (by cases s <;> exact ⟨by decide,by decide⟩) (by cases s <;> exact ⟨by decide,by decide⟩) (by cases s <;> exact ⟨by decide,by decide⟩) (by cases s <;> exact ⟨by decide,by decide⟩) q
end
section
variable {C:Cx}{n g:Nat}{fd:MO}{pt:D}{ds:List Dd}{τ:zA}{Q:D->zA->Prop}
theorem xK (L:Law1 C){s:Bool}{one:Th}(hT:(isT one&&isT two)=false)(I:Inv g ds)(tn:ds.length<=700)(p1:PlT g ds one)(p2:PlT g ds two)
  (hq:∀ t' sU,Yld g ds sU 6 (λ l=>some (if zC l (.bit 2 s)=1 then zC l one else zC l two)) t'->PlT g sU t'->Q (.p (enc t')) (stt fd pt (vb0 g) sU++τ)) :
  wpSs C T1 (n + 6) (b_either.drop 2) [some (.obj 2),some (.p (enc (.bit 2 s))),some (.p (enc one)),some (.p (enc two))] (stt fd pt (vb0 g) ds++τ) λ fl _ σ'=>ZR (stt fd pt (vb0 g) ds++τ) Q fl σ':=by
 have tu:∀ ds,zE fd pt (vb0 g++zR 3 ds) ((zN 3 ds).map zJ) (zT 3 ds)++τ=(stt fd pt (vb0 g) ds++τ):=λ _=>rfl
 have CS:zd (.bit 2 s)=[(2,wa s)]:=by cases s <;> rfl
 have Iv:cOf (.bit 2 s)=wc s:=rfl
 have Iw:(wa s=1/\wc s=0)∨(wa s=-1/\wc s=1):=by cases s;exact .inr ⟨rfl,rfl⟩;exact .inl ⟨rfl,rfl⟩
 have CB:∀ l,zC l (.bit 2 s)=wc s + wa s * zB l 2:=λ l=>by
  erw [zb];cases s
  ·show 1 - zB l 2=1 + -1 * zB l 2;exact aO (liZ [] [_] (.s (.k 1) (.v 0)) (.a (.k 1) (.m (-1) (.v 0))) [] tT9) (liZ [] [_] (.a (.k 1) (.m (-1) (.v 0))) (.s (.k 1) (.v 0)) [] tT9)
  ·show zB l 2=0 + 1 * zB l 2;exact aO (liZ [] [zB l 2] (.v 0) (.a (.k 0) (.m 1 (.v 0))) [] tT9) (liZ [] [_] (.a (.k 0) (.m 1 (.v 0))) (.v 0) [] tT9)
 have hb:=λ row (hr:BR g row) l (hl:run row ds=some l)=>VX hr hl
 have BA:wpSs C T1 (n + 6) [(.ret (.meth (.nm 0) 38 [(.meth (.nm 0) 22 [(.call false (.gl 22) [(.c (.int (1))),(.nm 1),(.c (.int (1)))])]),(.lst false [(.nm 3),(.nm 2)])]))] [some (.obj 2),some (.p (enc (.bit 2 s))),some (.p (enc one)),some (.p (enc two))] (stt fd pt (vb0 g) ds++τ) λ fl _ σ'=>ZR (stt fd pt (vb0 g) ds++τ) Q fl σ':=by
  refine zG ?_
  walk_at "st"
  refine ju L ?_
  have hm:TG g ds (thI s):=thI_ok.1
  have Ke:∀ l,zC l (thI s)=1 + zC l (.bit 2 s):=λ l=>((thI_ok (g:=g) (ds:=ds)).2 l).trans (by rw [zb])
  walk_at "go"
  refine Y3 L I (ae tn (nB9 rfl)) hm λ k Bl o1=>?_
  have lo1:=o1.len
  walk_at "go"
  have hk:=(o1.tg.mem (k,1) (.head _)).1.2
  have BX:=o1.pl I p1
  have BP:=o1.pl I p2
  refine Uq L (ts:=[two,one]) o1.inv (lin [_,_] [] (.v 0) (.k 800) [(1,.l (.v 1) (.k 700)),(1,.l (.v 0) (.a (.v 1) (.k 1)))] tT9 tn lo1) (by dsimp only at hk;exact lin [_,_] [] (.a (.v 0) (.k 1)) (.a (.k 3) (.v 1)) [(1,.L (.a (.c (.v 0)) (.k 1)) (.c (.a (.k 3) (.v 1))))] tT9 hk) (cW _ _) (by decide:2<=4) (λ t m=>?_) λ t' BS o tt nt=>?_
  ·refine ZA m ?_ λ m=>?_
   ·exact BP.near
   ·refine zZ m ?_;exact BX.near
  walk_at "go"
  have Kw:=o.len
  have Dy:isT t'=false:=by
   erw [tt]
   show (isT two&&(isT one&&true))=false
   cases h1:isT one <;> cases h2:isT two <;> simp [h1,h2] at hT ⊢
  refine zD rfl (hq t' BS ?_ ⟨nt,λ h=>by rw [Dy] at h;cases h⟩)
  refine Ee (o1.pre) λ X e1=>?_
  refine Ee (o.pre) λ Y e2=>?_
  refine ⟨o.inv,⟨X++Y,by (erw [e2];erw [e1];erw [au];rfl)⟩,by exact lin [_,_,_] [] (.v 0) (.a (.v 1) (.k 6)) [(1,.l (.v 2) (.a (.v 1) (.k 1))),(1,.l (.v 0) (.a (.v 2) (.k 5)))] tT9 lo1 Kw,o.tg,λ row hr l hl=>⟨λ v hv=>?_,λ hn=>nomatch hn⟩⟩
  refine Eea ((o1.run row hr l hl).1 _ rfl) λ P1 q1 q2=>?_
  rw [ZU,Ke] at q2
  have l1:=(I.at hr hl).1
  have EW:zQ ([two,one].map (zC (l++P1))) (zB (l++P1) k)=some v:=by
   erw [q2]
   obtain rfl:=so hv
   show zQ [zC (l++P1) two,zC (l++P1) one] _=_
   (erw [p1.near.tg.app_worth l1];erw [p2.near.tg.app_worth l1])
   have b1:=hb row hr l hl
   have b2:=CB l
   unfold B01 at b1
   have Cu:zC l (.bit 2 s)=0∨zC l (.bit 2 s)=1:=by
    erw [zb];exact Jc b1
   rcases Cu with h | h
   ·erw [h];rfl
   ·erw [h];rfl
  refine Eea ((o.run row hr _ q1).1 _ EW) λ P2 q3 q4=>?_
  exact ⟨P1++P2,by refine rwS (au ..) ?_;exact q3,by refine rwS (au ..) ?_;exact q4⟩
 unfold b_either
 simp only [cF]
 refine zG ?_
 walk_at "st"
 refine yd L ?_
 cases k1:isK one with
 | false =>
  walk_at "st"
  exact BA
 | true =>
  walk_at "st"
  refine yd L ?_
  cases k2:isK two with
  | false =>
   walk_at "st"
   exact BA
  | true =>
   walk_at "go"
   simp only [Qk k1,Qk k2]
   (refine Eaa (zDg (J7 k1 p1.near) (J7 k2 p2.near) s) λ d1 d2 tM=>?_;refine uO tM λ d3 d4 d5 d6 d7=>?_)
   refine WX (t1:=two) (t2:=.bit 2 s) L (qP k2) CS (by decide) d1 d2 d3 d4 d5 ?_
   have hm:=xN (g:=g) (ds:=ds) (k:=(cOf one - cOf two) * wa s) (c:=cOf two + (cOf one - cOf two) * wc s) d6 d7
   walk_at "go"
   refine zD rfl (hq _ ds (Yld.here 6 I hm.1 λ row hr l hl=>?_) ⟨⟨hm.1,hm.2.1,hm.2.2⟩,λ h=>by rw [zEc] at h;cases h⟩)
   (erw [Uu];erw [Iv];erw [Qj k1];erw [Qj k2])
   erw [CB];exact congrArg some (zFH s (hb row hr l hl))
def Wh (w:Th):Prop:=(∃ b,w=.tru b)∨∃ s,w=.bit 2 s
theorem zAe (L:Law1 C){w one:Th}(hw:Wh w)(I:Inv g ds)(tn:ds.length<=700)(pw:PlT g ds w)(p1:PlT g ds one)(p2:PlT g ds two)
  (hq:∀ t' sU,Yld g ds sU 6 (λ l=>some (if zC l w=1 then zC l one else zC l two)) t'->PlT g sU t'->Q (.p (enc t')) (stt fd pt (vb0 g) sU++τ)) :
  SatCall C T1 (n + 7) 437 [.obj 2,.p (enc w),.p (enc one),.p (enc two)] (stt fd pt (vb0 g) ds++τ) Q:=by
 have tu:∀ ds,zE fd pt (vb0 g++zR 3 ds) ((zN 3 ds).map zJ) (zT 3 ds)++τ=(stt fd pt (vb0 g) ds++τ):=λ _=>rfl
 refine zL L.Y L.TT L.either rfl ?_
 have GH:=λ (t1:isT one=true) (t2:isT two=true) (tw:isT w=true)=>zEe (n:=n + 1) (fd:=fd) (pt:=pt) (τ:=τ) (Q:=Q) L tw t1 t2 I tn pw p1 p2
 unfold b_either
 rcases hw with ⟨b,rfl⟩ | ⟨s,rfl⟩
 ·have e:∀ b,enc (.tru b)=.bool b:=λ _=>rfl
  erw [e]
  refine zG ?_
  walk_at "st"
  cases b with
  | true =>
   walk_at "go"
   exact zD rfl (hq one ds (Yld.here 6 I p1.near.tg λ row hr l hl=>by erw [zc];rfl) p1)
  | false =>
   walk_at "go"
   exact zD rfl (hq two ds (Yld.here 6 I p2.near.tg λ row hr l hl=>by erw [zc];rfl) p2)
 ·refine zG ?_
  have e:∀ s,enc (.bit 2 s)=.tuple [.str "bit",.int 2,.bool s]:=λ _=>rfl
  erw [e]
  walk_at "st"
  refine zG ?_
  walk_at "st"
  refine Q3 L ?_
  have AB:=λ h=>xK (n:=n) (fd:=fd) (pt:=pt) (τ:=τ) (Q:=Q) L (s:=s) (one:=one) (two:=two) h I tn p1 p2 hq
  unfold b_either at AB
  simp only [cF] at AB
  cases t1:isT one with
  | false =>
   walk_at "st"
   exact AB (by erw [t1];rfl)
  | true =>
   walk_at "st"
   refine Q3 L ?_
   cases t2:isT two with
   | false =>
    walk_at "st"
    exact AB (by (erw [t1];erw [t2]);rfl)
   | true =>
    walk_at "st"
    refine zG (GH t1 t2 rfl λ t' sU o tt nt=>hq t' sU (o.up (by decide)) ⟨nt,λ _=>o.trT λ row hr l hl v hv=>?_⟩)
    obtain rfl:=so hv
    have b2:=p1.tr t1 row hr l hl
    have b3:=p2.tr t2 row hr l hl
    split
    ·exact b2
    ·exact b3
end
noncomputable def Zh (cells:List Int)(k:Nat):MO:=.rdict [(13,.p (.list (cells.map .int))),(14,.p (.int k))]
noncomputable def yP (row:List Int):D:=.p (.list (row.map .int))
structure RowOk (row:List Int):Prop where
 len:row.length<=10000
 sm:∀ p,0<=p->p<(row.length:Int)->-1000<=zB row p/\zB row p<=1000
def zDo (row:List Int)(ps:List (Int×Int)):Prop:=∀ p,p∈ps->(0<=p.1/\p.1<(row.length:Int))/\-10<=p.2/\p.2<=10
theorem ZI {row:List Int}(h0:0<=p)(h1:p<(row.length:Int)):((idx (row.map be).length p).bind λ j=>(row.map be)[j]?)=some (.int (zB row p)):=by
 (refine Ee (bS h0) λ k t7=>?_;obtain rfl:=t7)
 have s3:k<row.length:=du.mp h1
 erw [JJ]
 simp only [cB,a6,aw s3,ib,zB,bq,aA,cK]
theorem RowOk.ix {row:List Int}(R:RowOk row)(h0:0<=p)(h1:p<(row.length:Int)):-9223372036854775808<=p/\p<9223372036854775808:=by
 have:=R.len
 exact ⟨ai (oD9 rfl) h0,liZ [_] [_] (.a (.v 0) (.k 1)) (.k 9223372036854775808) [(1,.L (.a (.v 0) (.k 1)) (.c (.v 0))),(1,.l (.v 0) (.k 10000))] tT9 h1 this⟩
section
variable {C:Cx}{n:Nat}{fd:MO}{pt:D}{vars tolds:List ab}{made:List (Ky×D)}{τ σ:zA}{Q:D->zA->Prop}
theorem qG (L:Law1 C){m:Int}(hm:0<m/\m<=1000)(hk:k<=10000)(hl:cells.length<=100)(q:∀ v:Int,0<=v->v<m->Q (.p (.int v)) (zE (Zh cells (k + 1)) pt vars tolds made++τ)) :
  SatCall C T1 (n + 1) 519 [.obj 0,.p (.int m)] (zE (Zh cells k) pt vars tolds made++τ) Q:=by
 refine zL L.Y L.TT L.law_next rfl ?_
 unfold Qb
 unfold Zh at *
 walk_at "go"
 erw [aj]
 have fin:∀ a:Int,ZR (zE (Zh cells k) pt vars tolds made++τ) Q (.ret (.p (.int (a.fmod m)))) (zE (Zh cells (k + 1)) pt vars tolds made++τ):=λ a =>
  zD rfl (q _ (Int.fmod_nonneg_of_pos a hm.1) (Int.fmod_lt_of_pos a hm.1))
 unfold Zh at fin
 refine ⟨by exact ae hl (nB9 rfl),λ h=>?_,λ h=>?_⟩
 ·have s3:k<cells.length:=du.mp h
  have hg:(cells.map be)[k]?=some (.int cells[k]):=by (erw [a6];erw [aw s3]);rfl
  refine ⟨⟨by exact az _,by omega⟩,?_⟩
  simp only [cB,hg]
  exact ⟨Xi (⟨hm.1,ai hm.2 (oD9 rfl)⟩),fin _⟩
 ·refine ⟨ZN (⟨az _,az _⟩),ZN (by omega),Xi (⟨az _,az _⟩),ae hl (nB9 rfl),Xi (⟨hm.1,ai hm.2 (oD9 rfl)⟩),fin _⟩
theorem Qw (L:Law1 C){t:Th}(q:Q (.p (.bool (isT t))) σ):SatCall C T1 (n + 1) 533 [.p (enc t)] σ Q:=by
 refine zL L.Y L.TT L.law_is_truth rfl ?_
 unfold qD
 cases t with
 | tru b=>unfold enc;walk_at "go";exact zD rfl q
 | num i=>unfold enc;walk_at "go";exact zD rfl q
 | bit x s=>unfold enc;walk_at "go";exact zD rfl q
 | sum ps c=>unfold enc qQ;walk_at "go";exact zD rfl q
theorem VR {row:List Int}:(ps.map λ z=>be (z.2 * zB row z.1))=(Z2 row ps).map .int:=by
 induction ps with
 | nil=>rfl
 | cons z ps ih=>(erw [aY];erw [ih]);rfl
theorem zCb (L:Law1 C){row:List Int}{t:Th}(R:RowOk row)(hp:zDo row (zd t))(hl:(zd t).length<=2)(q:Q (.p (.int (zC row t))) σ):SatCall C T1 (n + 1) 538 [.p (enc t),yP row] σ Q:=by
 refine zL L.Y L.TT L.law_worth rfl ?_
 unfold QP yP
 cases t with
 | tru b =>
  have e:zC row (.tru b)=if b=true then 1 else 0:=zc
  rw [e] at q
  unfold enc
  cases b <;> (walk_at "go";exact zD rfl q)
 | num i =>
  have e:zC row (.num i)=i:=bJ _
  rw [e] at q
  unfold enc;walk_at "go";exact zD rfl q
 | bit x s =>
  rw [zb] at q
  have hx:0<=x/\x<(row.length:Int):=by cases s <;> exact (hp _ (.head _)).1
  unfold enc
  cases s with
  | true=>walk_at "go";erw [ZI hx.1 hx.2];walk_at "go";exact ⟨R.ix hx.1 hx.2,zD rfl q⟩
  | false=>walk_at "go";erw [ZI hx.1 hx.2];walk_at "go";exact ⟨R.ix hx.1 hx.2,zD rfl q⟩
 | sum ps c =>
  unfold enc qQ
  walk_at "go"
  refine ⟨by erw [zf];exact ae hl (by decide),qX (h:=λ z:Int×Int=>.int (z.2 * zB row z.1)) ps [] (ae (dE hl 0) (by decide)) (λ z m acc K ha k=>?_) ?_⟩
  ·(refine Eaa (hp z m) λ Ao=>?_;(refine Ea (Ao) λ z0 z1=>?_;try clear Ao);intro z2 z3)
   have hv:=R.sm z.1 z0 z1
   walk_at "go"
   erw [ZI z0 z1]
   walk_at "go"
   exact ⟨R.ix z0 z1,ZN (⟨ai (oD9 rfl) z2,ai z3 (oD9 rfl)⟩),ZN (⟨ai (oD9 rfl) hv.1,ai hv.2 (oD9 rfl)⟩),ha,k⟩
  erw [VR]
  unfold zW
  erw [bP]
  walk_at "go"
  simp only [ZV]
  walk_at "go"
  exact zD rfl q
end
noncomputable def Zq (row:List Int):List (Int×Int)->List Int
 | []=>[]
 | z::r=>z.1 * zB row z.2::Zq row r
noncomputable def ZC (row:List Int):Td->Bool
 | .lin zs r=>(Zq row zs).sum==r
 | .elof i ns z=>decide (zQ ns (zB row i)=some (zB row z))
 | .el i vs z=>decide (zQ (vs.map (zB row)) (zB row i)=some (zB row z))
 | .bo mx a b z=>zB row z==(if mx=true then max (zB row a) (zB row b) else min (zB row a) (zB row b))
 | .cl l=>((ZG l).any λ v=>zB row v==1) || ((zr l).any λ v=>zB row v==0)
noncomputable def zi:Td->List Int
 | .lin zs _=>zs.map (·.2)
 | .elof i _ z=>[i,z]
 | .el i vs z=>[i,z]++vs
 | .bo _ a b z=>[a,b]++[z]
 | .cl l=>ZG l++zr l
noncomputable def nsT:Td->Nat
 | .elof _ ns _=>ns.length
 | _=>0
noncomputable def wj:Td->List Int
 | .lin zs _=>zs.map (·.1)
 | _=>[]
structure TdIn (row:List Int)(t:Td):Prop where
 vars:∀ v,v∈zi t->0<=v/\v<(row.length:Int)
 few:(zi t).length<=20
 ns:nsT t<=20
 cos:∀ v,v∈wj t->-10<=v/\v<=10
theorem xT:∀ zs:List (Int×Int),wN (zs.map λ z=>be z.1) (zs.map λ z=>be z.2)=zO zs
 | []=>rfl
 | z::r=>by
  have:=xT r
  unfold zO wN at *
  simp only [aY,nT,this]
section
variable {C:Cx}{n:Nat}{σ:zA}{Q:D->zA->Prop}
theorem vT {row:List Int}{zs:List (Int×Int)}:(zs.map λ z=>be (z.1 * zB row z.2))=(Zq row zs).map .int:=by
 induction zs with
 | nil=>rfl
 | cons z zs ih=>(erw [aY];erw [ih]);rfl
theorem Q0 {row:List Int}{d0 d2 d3 d4:Option D}{K:List ab×zA->Prop}(R:RowOk row)(vs:List Int)(hl:vs.length<=1000)(hv:∀ v,v∈vs->0<=v/\v<(row.length:Int))(k:K ((vs.map (zB row)).map .int,σ)) :
  zH (zM C T1 n (elW C T1 n (.sub (.nm 1) (.nm 6))) (.nm 6) [] [] [d0,some (.p (.list (row.map .int))),d2,d3,d4,none,none] none) (vs.map .int) ([],σ) K:=by
 refine qX (h:=λ v=>.int (zB row v)) vs [] (by (erw [lg];erw [fV]);exact ae hl (by decide)) (λ v m acc K ha k=>?_) (by erw [bP];rw [bF] at k;exact k)
 refine Ea (hv v m) λ z0 z1=>?_
 walk_at "go"
 erw [ZI z0 z1]
 walk_at "go"
 exact ⟨R.ix z0 z1,ha,k⟩
theorem UO {l:List Int}{i:Int}:((l.map be).any λ z=>br z (.int i))=l.any λ v=>v==i:=by
 erw [rB];rfl
theorem J3 {l:List Int}{x:ab}(h:0<v/\v<=(l.length:Int)):∃ y,((idx (l.map be).length (v - 1)).bind λ j=>(l.map be)[j]?)=some (.int y)/\zQ l v=some y:=by
 refine Ee (bS (show 0<=v - 1 by exact liZ [] [_] (.k 0) (.s (.v 0) (.k 1)) [(1,.L (.a (.k 0) (.k 1)) (.v 0))] tT9 h.1)) λ k hk=>?_
 have s3:k<l.length:=by exact lin [_,_] [_] (.a (.v 0) (.k 1)) (.v 1) [(1,.L (.v 0) (.c (.v 1))),(-1,.E (.s (.v 0) (.k 1)) (.c (.v 0)))] (by kernel_rfl) h.2 hk
 refine ⟨l[k],?_,?_⟩
 ·(erw [hk];erw [JJ])
  simp only [cB,a6,aw s3,ib]
 ·unfold zQ
  (erw [if_pos (h.1)];erw [hk];erw [bq];erw [aw s3];rfl)
theorem Yd {l:List Int}(h:¬ (0<v/\v<=(l.length:Int))):zQ l v=none:=by
 unfold zQ
 split
 ·exact dc (by rename_i h1;have h2:(l.length:Int)<v:=nQ.mp λ q=>h ⟨h1,q⟩;have h3:=bH (iL h1);omega)
 ·rfl
theorem xi {row l:List Int}{i:Int}{s:aN}{X:ab}{d2 d3:Option D}(R:RowOk row)(hi:0<=i/\i<(row.length:Int))(hz:0<=z/\z<(row.length:Int))(hl:l.length<=1000)(q:Q (.p (.bool (decide (zQ l (zB row i)=some (zB row z))))) σ) :
  wpSs C T1 n [.ret (.and [(.cmp2 (.c (.int (0))) .Lt (.sub (.nm 1) (.sub (.nm 0) (.c (.int (1))))) .LtE (.call false (.gl 0) [(.nm 4)])),(.cmp (.sub (.nm 4) (.bin .Sub (.sub (.nm 1) (.sub (.nm 0) (.c (.int (1))))) (.c (.int (1))))) .Eq (.sub (.nm 1) (.sub (.nm 0) (.c (.int (3))))))])]
   [some (.p (.tuple [.str s,.int i,X,.int z])),some (.p (.list (row.map .int))),d2,d3,some (.p (.list (l.map .int)))] σ λ fl _ σ'=>ZR σ Q fl σ':=by
 have hv:=R.sm i hi.1 hi.2
 walk_at "go"
 simp only [ZI hi.1 hi.2,ZI hz.1 hz.2]
 walk_at "go"
 refine ⟨R.ix hi.1 hi.2,?_⟩
 have DJ:(l.map be).length=l.length:=aj ..
 erw [DJ]
 refine ⟨λ h1=>⟨by exact ae hl (nB9 rfl),λ h2=>?_,λ h2=>?_⟩,λ h1=>?_⟩
 ·refine Eea (J3 (x:=.none) ⟨h1,h2⟩) λ y e1 e2=>?_
  rw [DJ] at e1
  rw [e2] at q
  erw [e1]
  walk_at "go"
  have e:(y==zB row z)=decide (some y=some (zB row z)):=by
   by_cases h:y=zB row z
   ·(erw [h];erw [beq_self_eq_true];erw [decide_eq_true rfl];rfl)
   ·(erw [beq_eq_false_iff_ne.mpr h];erw [decide_eq_false λ h'=>h (so h')];rfl)
  exact ⟨R.ix hi.1 hi.2,⟨by exact liZ [] [zB row i] (.k (-9223372036854775808)) (.s (.v 0) (.k 1)) [(1,.L (.k (-1000)) (.v 0))] (by kernel_rfl) hv.1,by exact liZ [] [zB row i] (.a (.s (.v 0) (.k 1)) (.k 1)) (.k 9223372036854775808) [(1,.L (.v 0) (.k 1000))] tT9 hv.2⟩,R.ix hz.1 hz.2,zD rfl (by erw [e];exact q)⟩
 ·rw [Yd λ h=>h2 h.2] at q
  exact zD rfl q
 ·rw [Yd λ h=>h1 h.1] at q
  exact zD rfl q
theorem zBd (L:Law1 C){row:List Int}{t:Td}(R:RowOk row)(h:TdIn row t)(q:Q (.p (.bool (ZC row t))) σ):SatCall C T1 (n + 1) 550 [.p (zJ t),yP row] σ Q:=by
 refine zL L.Y L.TT L.law_holds rfl ?_
 unfold QD yP
 cases t with
 | lin zs r =>
  unfold zJ
  have hz:∀ z,z∈zs->(0<=z.2/\z.2<(row.length:Int))/\-10<=z.1/\z.1<=10:=λ z m=>⟨h.vars z.2 (aU.mpr ⟨z,m,rfl⟩),h.cos z.1 (aU.mpr ⟨z,m,rfl⟩)⟩
  have HN:zs.length<=20:=by have:=h.few;unfold zi at this;rw [aj] at this;exact this
  walk_at "go"
  erw [xT]
  refine ⟨by erw [zf];exact ae HN (nB9 rfl),qX (h:=λ z:Int×Int=>.int (z.1 * zB row z.2)) zs [] (by simp;exact ae HN (nB9 rfl)) (λ z m acc K ha k=>?_) ?_⟩
  ·(refine Eaa (hz z m) λ AN=>?_;(refine Ea (AN) λ z0 z1=>?_;try clear AN);intro z2 z3)
   have hv:=R.sm z.2 z0 z1
   walk_at "go"
   erw [ZI z0 z1]
   walk_at "go"
   exact ⟨R.ix z0 z1,ZN (⟨ai (oD9 rfl) z2,ai z3 (oD9 rfl)⟩),ZN (⟨ai (oD9 rfl) hv.1,ai hv.2 (oD9 rfl)⟩),ha,k⟩
  erw [vT]
  unfold zW
  erw [bP]
  walk_at "go"
  simp only [ZV]
  walk_at "go"
  have e:(((Zq row zs).sum==r)==true)=((Zq row zs).sum==r):=by cases ((Zq row zs).sum==r) <;> rfl
  exact zD rfl (by erw [e];exact q)
 | elof i ns z =>
  have hv:=h.vars
  have hn:ns.length<=20:=h.ns
  unfold zJ
  walk_at "go"
  refine ⟨by erw [aj];exact ae hn (nB9 rfl),xi R (hv i (.head _)) (hv z (.tail _ (.head _))) (ae hn (nB9 rfl)) q⟩
 | el i vs z =>
  have hv:=h.vars
  have hn:vs.length + 2<=20:=h.few
  unfold zJ
  walk_at "go"
  refine ⟨by erw [aj];exact lin [_] [] (.v 0) (.k 100000) [(1,.l (.a (.v 0) (.k 2)) (.k 20))] tT9 hn,Q0 R vs (lin [_] [] (.v 0) (.k 1000) [(1,.l (.a (.v 0) (.k 2)) (.k 20))] tT9 hn) (λ v m=>hv v (.tail _ (.tail _ m))) ?_⟩
  unfold zW
  exact xi R (hv i (.head _)) (hv z (.tail _ (.head _))) (by erw [aj];exact lin [_] [] (.v 0) (.k 1000) [(1,.l (.a (.v 0) (.k 2)) (.k 20))] tT9 hn) q
 | bo mx a b z =>
  have ha:=h.vars a (.head _)
  have hb:=h.vars b (.tail _ (.head _))
  have hz:=h.vars z (.tail _ (.tail _ (.head _)))
  unfold zJ
  cases mx with
  | true =>
   have q:Q (.p (.bool (zB row z==max (zB row a) (zB row b)))) σ:=q
   walk_at "go"
   refine Q0 R [a,b] (by decide:2<=1000) (λ v m=>?_) ?_
   ·refine ZA m ?_ λ m=>?_
    ·exact ha
    ·refine zZ m ?_;exact hb
   unfold zW
   walk_at "go"
   erw [ZI hz.1 hz.2]
   walk_at "go"
   have e:=mx2 (zB row a) (zB row b)
   exact ⟨R.ix hz.1 hz.2,zD rfl (by erw [e];exact q)⟩
  | false =>
   have q:Q (.p (.bool (zB row z==min (zB row a) (zB row b)))) σ:=q
   walk_at "go"
   refine Q0 R [a,b] (by decide:2<=1000) (λ v m=>?_) ?_
   ·refine ZA m ?_ λ m=>?_
    ·exact ha
    ·refine zZ m ?_;exact hb
   unfold zW
   walk_at "go"
   erw [ZI hz.1 hz.2]
   walk_at "go"
   have e:=mn2 (zB row a) (zB row b)
   exact ⟨R.ix hz.1 hz.2,zD rfl (by erw [e];exact q)⟩
 | cl l =>
  have hv:=h.vars
  have hn:(ZG l++zr l).length<=20:=h.few
  rw [ak] at hn
  have hu:∀ v,v∈ZG l->0<=v/\v<(row.length:Int):=λ v m=>hv v (bK _ m)
  have hd:∀ v,v∈zr l->0<=v/\v<(row.length:Int):=λ v m=>hv v (bg _ m)
  have HP:∀ (vs:List Int) (i:Int),((vs.map (zB row)).any λ v=>v==i)=vs.any λ v=>zB row v==i:=λ vs i=>by erw [rB];rfl
  have q:Q (.p (.bool (((ZG l).any λ v=>zB row v==1) || ((zr l).any λ v=>zB row v==0)))) σ:=q
  unfold zJ
  walk_at "go"
  refine ⟨by erw [aj];exact lin [_,_] [] (.v 0) (.k 100000) [(1,.l (.a (.v 0) (.v 1)) (.k 20))] tT9 hn,Q0 R (ZG l) (lin [_,_] [] (.v 0) (.k 1000) [(1,.l (.a (.v 0) (.v 1)) (.k 20))] tT9 hn) hu ?_⟩
  unfold zW
  walk_at "st"
  simp only [UO,HP]
  cases HL:(ZG l).any λ v=>zB row v==1 with
  | true =>
   rw [HL] at q
   walk_at "go"
   exact zD rfl q
  | false =>
   rw [HL] at q
   walk_at "go"
   refine ⟨by erw [aj];exact lin [_,_] [] (.v 0) (.k 100000) [(1,.l (.a (.v 1) (.v 0)) (.k 20))] tT9 hn,Q0 R (zr l) (lin [_,_] [] (.v 0) (.k 1000) [(1,.l (.a (.v 1) (.v 0)) (.k 20))] tT9 hn) hd ?_⟩
   walk_at "go"
   simp only [UO,HP]
   exact zD rfl q
end
section
variable {C:Cx}{n:Nat}{σ:zA}{Q:D->zA->Prop}
theorem xn (L:Law1 C){t:Td}(hf:(zi t).length<=20)(q:Q (.p (.tuple ((zi t).map .int))) σ):SatCall C T1 (n + 1) 545 [.p (zJ t)] σ Q:=by
 refine zL L.Y L.TT L.law_about rfl ?_
 unfold QB
 cases t with
 | lin zs r =>
  unfold zJ
  walk_at "go"
  refine zD rfl ?_
  unfold zi at q
  rw [bF] at q
  exact q
 | elof i ns z =>
  unfold zJ
  walk_at "go"
  exact zD rfl q
 | el i vs z =>
  have hn:vs.length + 2<=20:=hf
  unfold zJ
  walk_at "go"
  exact ⟨by simp;exact lin [_] [] (.a (.k 2) (.v 0)) (.k 100000) [(1,.l (.a (.v 0) (.k 2)) (.k 20))] tT9 hn,zD rfl q⟩
 | bo mx a b z =>
  unfold zJ
  cases mx with
  | true=>walk_at "go";exact zD rfl q
  | false=>walk_at "go";exact zD rfl q
 | cl l =>
  have hn:(ZG l++zr l).length<=20:=hf
  rw [ak] at hn
  have q:Q (.p (.tuple ((ZG l++zr l).map .int))) σ:=q
  rw [aT] at q
  unfold zJ
  walk_at "go"
  exact ⟨by rw [aj,aj];exact ae hn (nB9 rfl),zD rfl q⟩
noncomputable def th4:List (Th×List Int):=[(.sum [(0,1)] 0,[1,0,0,0]),(.sum [(1,1)] 0,[0,1,0,0]),(.sum [(0,1),(1,-1)] (-1),[1,-1,0,-1]),(.bit 2 true,[0,0,1,0]),(.bit 2 false,[0,0,-1,1]),(.tru true,[0,0,0,1]),(.num (-2),[0,0,0,-2]),(.num 4,[0,0,0,4])]
noncomputable def Ym (l:List (Th×List Int)):List ab:=l.map λ p=>.tuple [enc p.1,.tuple (p.2.map .int)]
theorem zAk (L:Law1 C)(q:Q (.p (.list (Ym th4))) σ):SatCall C T1 (n + 1) 526 [] σ Q:=by
 refine zL L.Y L.TT L.law_things rfl ?_
 unfold qe
 walk_at "go"
 exact zD rfl q
theorem z4 (h0:0<=r)(h1:r<4):r=0∨r=1∨r=2∨r=3:=by omega
theorem z2 (h0:0<=r)(h1:r<2):r=0∨r=1:=by omega
noncomputable def qB (r:Int)(row:List Int):Int:=if r=0 then zB row 0 else if r=1 then zB row 1 else 1 + bw row 2 (decide (r=2))
end
section
variable {C:Cx}{n g:Nat}{pt:D}{ds:List Dd}{τ:zA}{Q:D->zA->Prop}
theorem WW (hk:k<2):TG g ds (vz k):=by
 match k,hk with
 | 0,_=>exact (QS (k:=0) (lin [_] [] (.a (.k 0) (.k 1)) (.a (.k 3) (.v 0)) [] tT9) (lo:=-3) (hi:=4) (show Nice (xd g) (-3) 4 from JN g) (by decide) (by decide)).1
 | 1,_=>exact (QS (k:=1) (lin [_] [] (.a (.k 1) (.k 1)) (.a (.k 3) (.v 0)) [] tT9) (lo:=1) (hi:=2) (show Nice [(1,2)] 1 2 from ⟨⟨by decide,by decide⟩,by decide,by decide,by decide,by decide⟩) (by decide) (by decide)).1
theorem zCs (L:Law1 C)(hk:k<=10000)(hl:cells.length<=100)(I:Inv g ds)(tn:ds.length<=700)
  (q:∀ (r:Int) (j:Nat) sU,0<=r->r<4->Yld g ds sU 1 (λ l=>some (qB r l)) (vz j)->Q (.p (.tuple [.int j,.int r])) (stt (Zh cells (k + 1)) pt (vb0 g) sU++τ)) :
  SatCall C T1 (n + 6) 562 [.obj 0,.obj 2] (stt (Zh cells k) pt (vb0 g) ds++τ) Q:=by
 refine zL L.Y L.TT L.law_index rfl ?_
 have tu:∀ ds fd,zE fd pt (vb0 g++zR 3 ds) ((zN 3 ds).map zJ) (zT 3 ds)++τ=(stt fd pt (vb0 g) ds++τ):=λ _ _=>rfl
 unfold QH
 walk_at "go"
 refine qG L (by decide) hk hl λ r r0 r4=>?_
 walk_at "go"
 have h4:=z4 r0 r4
 refine ⟨λ h=>?_,λ h=>?_⟩
 ·have e:=z2 r0 h
  rcases e with rfl | rfl
  ·walk_at "go"
   exact zD rfl (q 0 0 ds (by decide) (by decide) (Yld.here 1 I (WW (by decide)) λ row hr l hl=>by erw [ZU];rfl))
  ·walk_at "go"
   exact zD rfl (q 1 1 ds (by decide) (by decide) (Yld.here 1 I (WW (by decide)) λ row hr l hl=>by erw [ZU];rfl))
 ·have key:∀ s:Bool,s=decide (r=2)->(r==2)=s:=λ s hs=>by erw [hs];rfl
  have hr:∀ l,qB r l=1 + bw l 2 (decide (r=2)):=λ l=>by unfold qB;(erw [if_neg (cN (ck (cy.mp h)))];erw [if_neg (cN ((cy.mp h)))];rfl)
  generalize decide (r=2)=s at hr key
  have hm:=thI_ok (g:=g) (ds:=ds) (s:=s)
  walk_at "go"
  erw [key s rfl]
  refine ju L ?_
  walk_at "go"
  refine Y3 L I (ae tn (nB9 rfl)) hm.1 λ j sU o=>?_
  walk_at "go"
  refine zD rfl (q r j sU r0 r4 ⟨o.inv,o.pre,o.len,o.tg,λ row h l hl=>?_⟩)
  (erw [hr];refine rwS (hm.2 ..) ?_)
  exact o.run row h l hl
end
inductive Hw where
 | ei (r i j:Int)
 | ix (r:Int) (ps:List Int)
variable {hows:List Hw}
noncomputable def Zc:Hw->ab
 | .ei r i j=>.tuple [.str "either",.int r,.list [.int i,.int j]]
 | .ix r ps=>.tuple [.str "index",.int r,.list (ps.map .int)]
noncomputable def atW (ws:List Int)(v:Int):Int:=ws.getD v.toNat 0
noncomputable def yA (r b:Int):Bool:=(r==0) || ((r==1)&&(b==1)) || ((r==2)&&(b==0))
noncomputable def ZS (ws row:List Int):Hw->Option Int
 | .ei r i j=>some (atW ws (bif yA r (zB row 2) then i else j))
 | .ix r ps=>zQ (ps.map (atW ws)) (qB r row)
noncomputable def xm:Hw->List Int
 | .ei _ i j=>[i,j]
 | .ix _ ps=>ps
noncomputable def rH:Hw->Int
 | .ei r _ _=>r
 | .ix r _=>r
structure HwOk (k:Nat)(h:Hw):Prop where
 pl:∀ v,v∈xm h->0<=v/\v<(k:Int)
 few:(xm h).length<=10
 r0:0<=rH h
 r4:rH h<4
noncomputable def Yx (o:Option Int):ab:=match o with
 | some v=>.int v
 | none=>.none
section
variable {C:Cx}{n:Nat}{σ:zA}{Q:D->zA->Prop}
theorem Wq (h0:0<=v)(h1:v<(ws.length:Int)):((idx (ws.map be).length v).bind λ j=>(ws.map be)[j]?)=some (.int (atW ws v)):=ZI h0 h1
theorem vP (L:Law1 C){h:Hw}{row:List Int}{w:Nat}(R:RowOk row)(h3:3<=row.length)(hw:σ[w]?=some (.lst (ws.map .int)))(hl:ws.length<=1000)(H:HwOk ws.length h)(q:Q (.p (Yx (ZS ws row h))) σ):SatCall C T1 (n + 1) 569 [.p (Zc h),.obj w,yP row] σ Q:=by
 refine zL L.Y L.TT L.law_chosen rfl ?_
 unfold qd yP
 have hv:=H.pl
 have g2:(row.map be)[2]?=some (.int (zB row 2)):=ZI (row:=row) (p:=2) (by decide) (by exact liZ [_] [] (.a (.k 2) (.k 1)) (.c (.v 0)) [(1,.l (.k 3) (.v 0))] tT9 h3)
 have i2:=R.ix (p:=2) (by decide) (by exact liZ [_] [] (.a (.k 2) (.k 1)) (.c (.v 0)) [(1,.l (.k 3) (.v 0))] tT9 h3)
 have s2:=R.sm 2 (by decide) (by exact liZ [_] [] (.a (.k 2) (.k 1)) (.c (.v 0)) [(1,.l (.k 3) (.v 0))] tT9 h3)
 have Ie:∀ v:Int,0<=v->v<(ws.length:Int)->-9223372036854775808<=v/\v<9223372036854775808:=λ v a b=>by exact ⟨ai (oD9 rfl) a,liZ [_] [_] (.a (.v 0) (.k 1)) (.k 9223372036854775808) [(1,.l (.v 0) (.k 1000)),(1,.L (.a (.v 0) (.k 1)) (.c (.v 0)))] tT9 hl b⟩
 cases h with
 | ei r i j =>
  have hi:=hv i (.head _)
  have hj:=hv j (.tail _ (.head _))
  have leaf:∀ v:Int,0<=v->v<(ws.length:Int)->Q (.p (.int (atW ws v))) σ->Qv (.p (.int v)) (λ d=>ZR σ Q (.ret d) σ) (.lst (ws.map .int)):=λ v a b q=>⟨Ie v a b,.mk (Wq a b) (zD rfl q)⟩
  have q:Q (.p (.int (atW ws (bif yA r (zB row 2) then i else j)))) σ:=q
  unfold yA at q
  unfold Zc
  walk_at "go"
  simp only [g2,hw]
  have ev:∀ x:Int,br (.int (zB row 2)) (.int x)=(zB row 2==x):=λ _=>rfl
  simp only [ev]
  generalize (r==0)=b0 at *
  generalize (r==1)=b1 at *
  generalize (r==2)=b2 at *
  generalize (zB row 2==1)=c1 at *
  generalize (zB row 2==0)=c0 at *
  have li:=leaf i hi.1 hi.2
  have lj:=leaf j hj.1 hj.2
  cases b0 with
  | true=>exact li q
  | false =>
   cases b1 with
   | true =>
    cases c1 with
    | true=>exact li q
    | false =>
     cases b2 with
     | true=>cases c0 with
      | true=>exact li q
      | false=>exact lj q
     | false=>exact lj q
   | false =>
    cases b2 with
    | true=>cases c0 with
     | true=>exact li q
     | false=>exact lj q
    | false=>exact lj q
 | ix r ps =>
  have IF:∀ v,v∈ps->0<=v/\v<(ws.length:Int):=hv
  have r0:0<=r:=H.r0
  have r4:r<4:=H.r4
  have hp:ps.length<=10:=H.few
  have fin:∀ v:Int,v=qB r row->-2000<=v/\v<=2000->∀ ρ:Rho,(∃ d0 d3 d4,ρ=[d0,some (.obj w),some (.p (.list (row.map .int))),d3,d4,some (.p (.list (ps.map .int))),some (.p (.int v))]) ->
    wpSs C T1 n [.ret (.ite (.cmp2 (.c (.int (1))) .LtE (.nm 6) .LtE (.call false (.gl 0) [(.nm 5)])) (.sub (.nm 1) (.sub (.nm 5) (.bin .Sub (.nm 6) (.c (.int (1)))))) (.c .none))] ρ σ λ fl _ σ'=>ZR σ Q fl σ':=λ v hv hs ρ H3=>by
   (refine Eeee (H3) λ d0 d3 d4 t7=>?_;try clear H3;obtain rfl:=t7)
   have q:Q (.p (Yx (zQ (ps.map (atW ws)) (qB r row)))) σ:=q
   rw [<- hv,qr] at q
   walk_at "go"
   have DJ:(ps.map be).length=ps.length:=aj ..
   erw [DJ]
   refine ⟨λ h1=>⟨by exact ae hp (nB9 rfl),λ h2=>?_,λ h2=>?_⟩,λ h1=>?_⟩
   ·refine Eea (J3 (x:=.none) (l:=ps) (v:=v) ⟨by exact h1,h2⟩) λ y e1 e2=>?_
    rw [DJ] at e1
    rw [e2] at q
    have hy:=IF y (qv e2)
    simp only [e1,hw]
    exact ⟨by exact ⟨liZ [] [_] (.k (-9223372036854775808)) (.s (.v 0) (.k 1)) [(1,.L (.k (-2000)) (.v 0))] (by kernel_rfl) hs.1,liZ [] [_] (.a (.s (.v 0) (.k 1)) (.k 1)) (.k 9223372036854775808) [(1,.L (.v 0) (.k 2000))] tT9 hs.2⟩,Ie y hy.1 hy.2,.mk (Wq hy.1 hy.2) (zD rfl q)⟩
   ·rw [Yd λ h=>h2 h.2] at q
    exact zD rfl q
   ·rw [Yd λ h=>h1 (by exact h.1)] at q
    exact zD rfl q
  unfold Zc
  walk_at "go"
  refine ⟨λ h=>?_,λ h=>?_⟩
  ·simp only [ZI (row:=row) (p:=r) r0 (by exact liZ [_] [_] (.a (.v 0) (.k 1)) (.c (.v 0)) [(1,.l (.k 3) (.v 0)),(1,.L (.a (.v 0) (.k 1)) (.k 2))] tT9 h3 h)]
   refine ⟨by exact ⟨ai (oD9 rfl) r0,c5 r4 (oD9 rfl)⟩,fin _ ?_ (by have:=R.sm r r0 (by exact liZ [_] [_] (.a (.v 0) (.k 1)) (.c (.v 0)) [(1,.l (.k 3) (.v 0)),(1,.L (.a (.v 0) (.k 1)) (.k 2))] tT9 h3 h);exact ⟨ai (oD9 rfl) this.1,ai this.2 (oD9 rfl)⟩) _ ⟨_,_,_,rfl⟩⟩
   unfold qB
   by_cases h0:r=0
   ·(erw [if_pos h0];erw [h0];rfl)
   ·(erw [if_neg h0];erw [if_pos ((z2 r0 h).resolve_left h0)];erw [(z2 r0 h).resolve_left h0];rfl)
  ·simp only [g2]
   by_cases h2:r=2
   ·(erw [h2];erw [beq_self_eq_true])
    refine fin _ ?_ (by exact ⟨liZ [] [zB row 2] (.k (-2000)) (.a (.k 1) (.v 0)) [(1,.L (.k (-1000)) (.v 0))] (by kernel_rfl) s2.1,liZ [] [zB row 2] (.a (.k 1) (.v 0)) (.k 2000) [(1,.L (.v 0) (.k 1000))] tT9 s2.2⟩) _ ⟨_,_,_,rfl⟩
    erw [h2];rfl
   ·erw [beq_eq_false_iff_ne.mpr h2]
    refine fin _ ?_ (by exact ⟨liZ [] [zB row 2] (.k (-2000)) (.a (.k 1) (.s (.k 1) (.v 0))) [(1,.L (.v 0) (.k 1000))] tT9 s2.2,liZ [] [zB row 2] (.a (.k 1) (.s (.k 1) (.v 0))) (.k 2000) [(1,.L (.k (-1000)) (.v 0))] (by kernel_rfl) s2.1⟩) _ ⟨_,_,_,rfl⟩
    unfold qB bw
    (erw [if_neg (by exact cN (ck (cy.mp h)))];erw [if_neg (by exact cN ((cy.mp h)))];erw [decide_eq_false h2]);rfl
end
def LateAt (σ:zA)(es:List (Int×D))(p:Int)(tl:List Td):Prop:=(zP p es=none/\tl=[])∨∃ i,zP p es=some (.obj i)/\σ[i]?=some (.lst (tl.map zJ))
noncomputable def uT:Ex:=.comp false 2 (.nm 9) (.nm 9) (.meth (.nm 1) 1 [(.nm 4),(.lst false [])]) [(.not (.call false (.gl 38) [(.nm 9),(.bin .Add (.nm 6) (.lst false [(.nm 7)]))]))] []
noncomputable def jU:List St:=[.ite (.cmp uT .Eq (.lst false [])) [.expr (.meth (.nm 5) 0 [(.bin .Add (.nm 6) (.lst false [(.nm 7)]))])] []]
theorem QA {K:Prop}(h:zS src σ True)(k:K):zS src σ K:=by
 cases src with
 | none=>exact k
 | some p=>exact ⟨h.1,k⟩
theorem LateAt.app {X:zA}{es:List (Int×D)}(h:LateAt σ es p tl):LateAt (σ++X) es p tl:=by
 rcases h with h | ⟨i,h1,h2⟩
 ·exact .inl h
 ·exact .inr ⟨i,h1,by erw [aB (av.mp h2).1];exact h2⟩
theorem xX {row:List Int}:∀ {tl:List Td},bY ((tl.filter λ t=>!ZC row t).map zJ) []=tl.all (ZC row)
 | []=>rfl
 | t::ts=>by
  (erw [cq];erw [lT])
  cases ZC row t with
  | true=>exact xX (tl:=ts)
  | false=>rfl
section
variable {C:Cx}{n:Nat}{σ:zA}{Q:D->zA->Prop}
theorem WD (L:Law1 C){l:List Int}{d0 d1 d2 d3 d4 d5:Option D}{K:List ab×zA->Prop}(R:RowOk (l++[w]))(hs:zS src σ True) :
  ∀ (tl:List Td) (acc:List ab),acc.length + tl.length<=10000->(∀ t,t∈tl->TdIn (l++[w]) t)->K (acc++(tl.filter λ t=>!ZC (l++[w]) t).map zJ,σ) ->
  zH (zM C T1 (n + 1) (elW C T1 (n + 1) (.nm 9)) (.nm 9) [(.not (.call false (.gl 38) [(.nm 9),(.bin .Add (.nm 6) (.lst false [(.nm 7)]))]))] [] [d0,d1,d2,d3,d4,d5,some (.p (.list (l.map .int))),some (.p (.int w)),none,none] src) (tl.map zJ) (acc,σ) K:=by
 have hl:l.length<=9999:=by have:=R.len;rw [ak,aC] at this;exact lin [_] [] (.v 0) (.k 9999) [(1,.l (.a (.v 0) (.k 1)) (.k 10000))] tT9 this
 intro tl
 induction tl with
 | nil =>
  intro acc _ _ h
  rw [ii,bW,aP] at h;exact h
 | cons AX tl ih =>
  intro acc ha hh h
  rw [aE] at ha
  show zM _ _ _ _ _ _ _ _ _ (zJ AX) _ (λ a'=>zH _ (tl.map zJ) a' K)
  have hc:∀ Q:D->zA->Prop,Q (.p (.bool (ZC (l++[w]) AX))) σ->SatCall C T1 (n + 1) 550 [.p (zJ AX),.p (.list (l.map .int++[.int w]))] σ Q:=λ Q q=>by
   have:=zBd (n:=n) L R (hh AX (.head _)) q
   unfold yP at this
   rw [aT] at this
   exact this
  walk_at "go"
  refine ⟨by erw [aj];exact ae hl (nB9 rfl),hc _ ?_⟩
  rw [cq] at h
  cases hb:ZC (l++[w]) AX with
  | true =>
   rw [hb] at h
   walk_at "go"
   exact QA hs (ih acc (ey ha) (λ t m=>hh t (.tail _ m)) h)
  | false =>
   rw [hb] at h
   walk_at "go"
   exact ⟨by exact lin [_,_] [] (.v 0) (.k 100000) [(1,.l (.a (.v 0) (.a (.v 1) (.k 1))) (.k 10000))] tT9 ha,QA hs (ih _ (by (erw [ak];erw [aC]);exact lin [_,_] [] (.a (.a (.v 0) (.k 1)) (.v 1)) (.k 10000) [(1,.l (.a (.v 0) (.a (.v 1) (.k 1))) (.k 10000))] tT9 ha) (λ t m=>hh t (.tail _ m)) (by erw [au];exact h))⟩
theorem zDV (L:Law1 C){l:List Int}{es:List (Int×D)}{d0 d2 d3 d5:Option D}(R:RowOk (l++[w]))(h8:σ[8]?=some (.idict es))(tW:LateAt σ es p tl)(AK:tl.length<=1000)
  (hh:∀ t,t∈tl->TdIn (l++[w]) t) (q:Q (.p (.list ((tl.filter λ t=>!ZC (l++[w]) t).map zJ))) σ):wpE C T1 (n + 1) uT [d0,some (.obj 8),d2,d3,some (.p (.int p)),d5,some (.p (.list (l.map .int))),some (.p (.int w))] σ Q:=by
 unfold uT
 walk_at "st"
 erw [h8]
 walk_at "st"
 rcases tW with ⟨h1,rfl⟩ | ⟨i,h1,h2⟩
 ·simp only [h1,kL]
  walk_at "st"
  exact q
 ·simp only [h1,cK]
  walk_at "st"
  erw [h2]
  walk_at "st"
  exact ⟨by erw [aj];exact ae AK (nB9 rfl),WD (src:=some (i,tl.map zJ)) L R ⟨h2,trivial⟩ tl [] (by simp;exact ae AK (nB9 rfl)) hh (show Q (.p (.list ([]++_))) σ from q)⟩
theorem VH (L:Law1 C){P:Int->Prop}{l:List Int}{es:List (Int×D)}{d0 d2 d3:Option D}{S:Fl->Rho->zA->Prop}{K:Rho×zA->Prop}(h8:σ[8]?=some (.idict es))(tW:LateAt σ es p tl)(AK:tl.length<=1000)
  (hR:∀ w,P w->RowOk (l++[w])) (hh:∀ w,P w->∀ t,t∈tl->TdIn (l++[w]) t) :
  ∀ (ws:List Int) (acc:List ab) (u7:Option D),(∀ w,w∈ws->P w)->acc.length + ws.length<=90000 ->
  (∀ v7,K ([d0,some (.obj 8),d2,d3,some (.p (.int p)),some (.obj σ.length),some (.p (.list (l.map .int))),v7],σ++[.lst (acc++(ws.filter λ w=>tl.all (ZC (l++[w]))).map λ w=>.list ((l++[w]).map .int))])) ->
  zH (zK C T1 (n + 1) (.nm 7) jU none S) (ws.map .int) ([d0,some (.obj 8),d2,d3,some (.p (.int p)),some (.obj σ.length),some (.p (.list (l.map .int))),u7],σ++[.lst acc]) K:=by
 intro ws
 induction ws with
 | nil =>
  intro acc u7 _ _ h
  have:=h u7
  rw [ii,bW,aP] at this;exact this
 | cons w ws ih =>
  intro acc u7 hP ha h
  rw [aE] at ha
  have hw:=hP w (.head _)
  have hl:l.length<=9999:=by have:=(hR w hw).len;rw [ak,aC] at this;exact lin [_] [] (.v 0) (.k 9999) [(1,.l (.a (.v 0) (.k 1)) (.k 10000))] tT9 this
  show zK _ _ _ _ _ _ _ (be w) _ (λ a'=>zH _ (ws.map .int) a' K)
  have Ks:(σ++[MO.lst acc])[8]?=some (.idict es):=by erw [aB (av.mp h8).1];exact h8
  walk_at "ds"
  unfold jU
  refine zG ?_
  (erw [zF7];erw [zFh])
  refine zDV L (hR w hw) Ks tW.app AK (hh w hw) ?_
  walk_at "go"
  erw [xX]
  cases hb:tl.all (ZC (l++[w])) with
  | true =>
   walk_at "go"
   refine ⟨by erw [aj];exact ae hl (nB9 rfl),by exact lin [_,_] [] (.v 0) (.k 100000) [(1,.l (.a (.v 0) (.a (.v 1) (.k 1))) (.k 90000))] tT9 ha,?_⟩
   refine ih _ _ (λ v m=>hP v (.tail _ m)) (by (erw [ak];erw [aC]);exact lin [_,_] [] (.a (.a (.v 0) (.k 1)) (.v 1)) (.k 90000) [(1,.l (.a (.v 0) (.a (.v 1) (.k 1))) (.k 90000))] tT9 ha) λ v7=>?_
   have:=h v7
   rw [cq,hb] at this
   have e:l.map be++[.int w]=(l++[w]).map .int:=by erw [aT];rfl
   (erw [au];erw [e])
   exact this
  | false =>
   walk_at "go"
   refine ih acc _ (λ v m=>hP v (.tail _ m)) (ey ha) λ v7=>?_
   have:=h v7
   rw [cq,hb] at this
   exact this
theorem Ww (lo hi:Int):z5 lo (hi + 1)=(rng lo hi).map .int:=by
 unfold z5 rng
 erw [bF];rfl
theorem zA8 {d0 d1 d2 d3 d4 d5 d6 d7:Option D}{K:List ab×zA->Prop}:∀ (rs:List (Int×Int)) (acc:List ab),(∀ p,p∈rs->-100<=p.1/\p.1<=p.2/\p.2<=100)->acc.length + 300 * rs.length<=90000->K (acc++(vals rs).map .int,σ) ->
  zH (zM C T1 n (elW C T1 n (.nm 11)) (.tup [(.nm 9),(.nm 10)]) [] [.mk (.nm 11) (.call false (.gl 14) [(.nm 9),(.bin .Add (.nm 10) (.c (.int (1))))]) []] [d0,d1,d2,d3,d4,d5,d6,d7,none,none,none,none] none) (zO rs) (acc,σ) K:=by
 intro rs
 induction rs with
 | nil =>
  intro acc _ _ h
  rw [show (vals []).map be=[] from rfl,aP] at h;exact h
 | cons p rs ih =>
  intro acc hp ha h
  rw [aE] at ha
  refine Eaa (hp p (.head _)) λ p0 p1 p2=>?_
  have hl:(rng p.1 p.2).length<=201:=xg p0 p2
  have e:vals (p::rs)=rng p.1 p.2++vals rs:=by unfold vals;(erw [kE];rfl)
  rw [e,aT,<- au] at h
  show zM _ _ _ _ _ _ _ _ _ (bE [.int p.1,.int p.2]) _ (λ a'=>zH _ (zO rs) a' K)
  walk_at "go"
  erw [Ww]
  refine ⟨by omega,by erw [aj];exact ae hl (nB9 rfl),qX (f:=.int) (h:=.int) (rng p.1 p.2) acc (by exact lin [_,_,_] [] (.a (.v 0) (.v 1)) (.k 90000) [(1,.l (.a (.v 0) (.m 300 (.a (.v 2) (.k 1)))) (.k 90000)),(1,.l (.v 1) (.k 201))] tT9 ha hl) (λ w _ acc K ha k=>by walk_at "go";exact ⟨ha,k⟩) ?_⟩
  exact ih _ (λ q m=>hp q (.tail _ m)) (by (erw [ak];erw [aj]);exact lin [_,_,_] [] (.a (.a (.v 0) (.v 1)) (.m 300 (.v 2))) (.k 90000) [(1,.l (.a (.v 0) (.m 300 (.a (.v 2) (.k 1)))) (.k 90000)),(1,.l (.v 1) (.k 201))] tT9 ha hl) h
end
noncomputable def JF:List St:=[.asg (.pt (.nm 5)) (.lst true []),.for (.nm 6) (.nm 3) [.for (.nm 7) (.comp false 4 (.nm 11) (.tup [(.nm 9),(.nm 10)]) (.meth (.nm 0) 19 [(.nm 4)]) [] [(.mk (.nm 11) (.call false (.gl 14) [(.nm 9),(.bin .Add (.nm 10) (.c (.int (1))))]) [])]) jU],.asg (.pt (.nm 3)) (.nm 5)]
theorem VW (h:∀ p,p∈rs->-100<=p.1/\p.1<=p.2/\p.2<=100):(vals rs).length<=201 * rs.length:=by
 induction rs with
 | nil=>exact bn _
 | cons p rs ih =>
  have e:vals (p::rs)=rng p.1 p.2++vals rs:=by unfold vals;(erw [kE];rfl)
  refine Eaa (h p (.head _)) λ p0 p1 p2=>?_
  have:=ih λ q m=>h q (.tail _ m)
  have hl:(rng p.1 p.2).length<=201:=xg p0 p2
  (erw [e];erw [ak];erw [aE]);exact lin [_,_,_] [] (.a (.v 0) (.v 1)) (.m 201 (.a (.v 2) (.k 1))) [(1,.l (.v 1) (.m 201 (.v 2))),(1,.l (.v 0) (.k 201))] tT9 this hl
noncomputable def qg (f:Option (List Int)):List ab:=match f with
 | some l=>[.list (l.map .int)]
 | none=>[]
noncomputable def stepF (f:Option (List Int))(d:Df):Option (List Int):=f.bind λ l=>(val l d).bind λ v=>some (l++[v])
section
variable {C:Cx}{n:Nat}{fd:MO}{pt:D}{vars tolds:List ab}{made:List (Ky×D)}
theorem XX (L:Law1 C){f:Option (List Int)}{j i:Nat}{nm:ab}{d:Dd}{es:List (Int×D)}{Y:zA}{tl:List Td}{d2 u4 u5 u6 u7:Option D}{S:Fl->Rho->zA->Prop}{K:Rho×zA->Prop}
  (hj:j<=1000) (hv:vars[j]?=some (.tuple [nm,ZE d.dom])) (B1:Nice d.dom (-100) 100) (AK:tl.length<=1000)
  (hi:(zE fd pt vars tolds made++.idict es::Y)[i]?=some (.lst (qg f)))
  (tW:LateAt (zE fd pt vars tolds made++.idict es::Y) es j tl)
  (hR:∀ l,f=some l->∀ w,w∈vals d.dom->RowOk (l++[w])) (hh:∀ l,f=some l->∀ w,w∈vals d.dom->∀ t,t∈tl->TdIn (l++[w]) t)
  (hw:∀ l,f=some l->((vals d.dom).filter λ w=>tl.all (ZC (l++[w])))=(match val l d.d with | some v=>[v] | none=>[]))
  (k:∀ v4 v5 v6 v7,K ([some (.obj 4),some (.obj 8),d2,some (.obj (9 + Y.length)),v4,v5,v6,v7],zE fd pt vars tolds made++.idict es::(Y++[.lst (qg (stepF f d.d))]))) :
  zK C T1 (n + 2) (.nm 4) JF none S (.int j) ([some (.obj 4),some (.obj 8),d2,some (.obj i),u4,u5,u6,u7],zE fd pt vars tolds made++.idict es::Y) K:=by
 unfold JF
 generalize Ek:zE fd pt vars tolds made++.idict es::Y=σ0 at *
 have hlen:σ0.length=9 + Y.length:=by (refine rwS (Ek) ?_;erw [ZY];erw [aE]);exact bl (lin [_] [] (.a (.k 8) (.a (.v 0) (.k 1))) (.a (.k 9) (.v 0)) [] tT9) (lin [_] [] (.a (.k 9) (.v 0)) (.a (.k 8) (.a (.v 0) (.k 1))) [] tT9)
 have e4:∀ x:MO,σ0++[x]=zE fd pt vars tolds made++(.idict es::(Y++[x])):=λ x=>by (refine rwS (Ek) ?_;erw [au];erw [eE];rfl)
 have h8:σ0[8]?=some (.idict es):=by refine rwS (Ek) ?_;rfl
 have BY:∀ x:MO,(σ0++[x])[i]?=some (.lst (qg f)):=λ x=>by erw [aB (av.mp hi).1];exact hi
 walk_at "st"
 refine zG ?_
 walk_at "st"
 refine zG ?_
 walk_at "st"
 erw [BY]
 walk_at "st"
 cases f with
 | none =>
  have e:qg none=[]:=rfl
  erw [e]
  refine ⟨bO _,ZZ ?_⟩
  refine zG ?_
  walk_at "st"
  have:=k (some (.p (.int j))) (some (.obj σ0.length)) u6 u7
  rw [<- e4,<- hlen] at this
  exact this
 | some l =>
  have e:qg (some l)=[.list (l.map .int)]:=rfl
  erw [e]
  refine ⟨(by decide:1<=100000),zq ?_⟩
  walk_at "st"
  refine zG ?_
  erw [e4]
  walk_at "st"
  refine Qf L (ae hj (nB9 rfl)) hv ?_
  refine rwS (e4 ..) ?_
  unfold ZE
  walk_at "st"
  have hd:∀ p,p∈d.dom->-100<=p.1/\p.1<=p.2/\p.2<=100:=λ p m=>⟨B1.lo p m,B1.asc.1 p m,B1.hi p m⟩
  have CD:=B1.len
  have AA:=VW hd
  refine ⟨by erw [zf];exact ae CD (nB9 rfl),zA8 d.dom [] hd (by simp;omega) ?_⟩
  unfold zW
  erw [bP]
  walk_at "st"
  refine ⟨by erw [aj];omega,?_⟩
  refine VH (P:=λ w=>w∈vals d.dom) L h8 tW AK (hR l rfl) (hh l rfl) (vals d.dom) [] _ (λ w m=>m) (by simp;omega) λ v7=>?_
  rw [hw l rfl,bP]
  walk_at "st"
  have e2:∀ x:MO,(σ0++[x])[i]?=some (.lst [.list (l.map .int)]):=BY
  refine ⟨e2 _,ZZ ?_⟩
  refine zG ?_
  walk_at "st"
  have:=k (some (.p (.int j))) (some (.obj σ0.length)) (some (.p (.list (l.map .int)))) v7
  rw [<- e4,<- hlen] at this
  unfold stepF at this
  rw [cB] at this
  trace_state
  cases hv:val l d.d with
  | none=>rw [hv] at this;exact this
  | some v=>rw [hv] at this;exact this
end
theorem ux:∀ {rs:List (Int×Int)},Asc rs->(vals rs).Pairwise (·<·)
 | [],_=>.nil
 | p::rs,h=>by
  have e:vals (p::rs)=rng p.1 p.2++vals rs:=by unfold vals;(erw [kE];rfl)
  (erw [e];rewrite [di])
  refine Ea (b9.mp h.2) λ h1 h2=>?_
  refine ⟨?_,ux ⟨λ q m=>h.1 q (.tail _ m),h2⟩,λ a ha b hb=>?_⟩
  ·unfold rng
   rw [kD]
   exact List.pairwise_lt_range.imp λ h=>by exact liZ [_,_] [_] (.a (.a (.v 0) (.c (.v 0))) (.k 1)) (.a (.v 0) (.c (.v 1))) [(1,.l (.a (.v 0) (.k 1)) (.v 1))] tT9 h
  ·refine Eeaa (vals_mem.mp hb) λ q mq q1 q2=>?_
   exact gf (rng_mem.mp ha).2 (c5 (h1 q mq) q1)
theorem lin_iff {S:Int}:S + -1 * w=-c ↔ c + S=w:=⟨λ h=>aO (liZ [] [_,_,_] (.a (.v 0) (.v 1)) (.v 2) [(1,.E (.a (.v 1) (.m (-1) (.v 2))) (.g (.v 0)))] (by kernel_rfl) h) (liZ [] [_,_,_] (.v 0) (.a (.v 1) (.v 2)) [(-1,.E (.a (.v 2) (.m (-1) (.v 0))) (.g (.v 1)))] (by kernel_rfl) h),λ h=>aO (liZ [] [_,_,_] (.a (.v 0) (.m (-1) (.v 1))) (.g (.v 2)) [(1,.E (.a (.v 2) (.v 0)) (.v 1))] tT9 h) (liZ [] [_,_,_] (.g (.v 0)) (.a (.v 1) (.m (-1) (.v 2))) [(-1,.E (.a (.v 0) (.v 1)) (.v 2))] (by kernel_rfl) h)⟩
theorem zFR {a b:Int}(hw:B01 w)(ha:B01 a)(hb:B01 b):(decide (w<=a)&&(decide (w<=b)&&decide (a + b<=1 + w)))=decide (some (min a b)=some w) :=
 ha.el (hb.el (hw.el rfl rfl) (hw.el rfl rfl)) (hb.el (hw.el rfl rfl) (hw.el rfl rfl))
theorem ji:∀ {l:List Int} {v:Int},l.Pairwise (·<·)->v∈l->(l.filter λ w=>decide (v=w))=[v]
 | a::l,v,h,m=>by
  refine Ea (b9.mp h) λ h1 h2=>?_
  erw [cq]
  by_cases e:v=a
  ·(erw [decide_eq_true e];erw [if_pos rfl];erw [e])
   congr 1
   rw [fA]
   intro b mb
   have:=h1 b mb
   simp;exact kt (this)
  ·erw [decide_eq_false e]
   rcases aJ.mp m with e' | m
   ·exact absurd e' e
   ·exact ji h2 m
theorem uW {row:List Int}:∀ {zs:List (Int×Int)},(∀ z,z∈zs->0<=z.2/\z.2<(row.length:Int))->Zq (row++X) zs=Zq row zs
 | [],_=>rfl
 | z::r,h=>by
  show _::_=_::_
  (erw [zo (h z (.head _))];erw [uW λ v m=>h v (.tail _ m)];rfl)
theorem Jk {row:List Int}{z:Int×Int}:∀ {zs:List (Int×Int)},(Zq row (zs++[z])).sum=(Zq row zs).sum + z.1 * zB row z.2
 | []=>by show z.1 * zB row z.2 + 0=0 + _;exact aO (liZ [] [_] (.a (.v 0) (.k 0)) (.a (.k 0) (.v 0)) [] tT9) (liZ [] [_] (.a (.k 0) (.v 0)) (.a (.v 0) (.k 0)) [] tT9)
 | y::r=>by
  show y.1 * zB row y.2 + (Zq row (r++[z])).sum=(y.1 * zB row y.2 + (Zq row r).sum) + _
  erw [Jk];exact aO (liZ [] [y.fst * zB row y.snd,(Zq row r).sum,z.fst * zB row z.snd] (.a (.v 0) (.a (.v 1) (.v 2))) (.a (.a (.v 0) (.v 1)) (.v 2)) [] tT9) (liZ [] [y.fst * zB row y.snd,(Zq row r).sum,z.fst * zB row z.snd] (.a (.a (.v 0) (.v 1)) (.v 2)) (.a (.v 0) (.a (.v 1) (.v 2))) [] tT9)
theorem UC {row:List Int}:∀ {ps:List (Int×Int)},Zq row (ps.map λ p=>(p.2,p.1))=Z2 row ps
 | []=>rfl
 | p::r=>by show _::_=_::_;(erw [UC];rfl)
theorem cl2 {row:List Int}{a:Int}{s:Bool}(ha:B01 (zB row a))(hz:B01 (zB row z)):ZC row (.cl [(a,s),(z,false)])=decide (zB row z<=bw row a s):=by
 cases s with
 | true =>
  show ((zB row a==1 || false) || (zB row z==0 || false))=decide (zB row z<=zB row a)
  exact ha.el (hz.el rfl rfl) (hz.el rfl rfl)
 | false =>
  show (false || (zB row a==0 || (zB row z==0 || false)))=decide (zB row z<=1 - zB row a)
  exact ha.el (hz.el rfl rfl) (hz.el rfl rfl)
theorem cl3 {row:List Int}{a b:Int}{s t:Bool}(ha:B01 (zB row a))(hb:B01 (zB row b))(hz:B01 (zB row z)):ZC row (.cl [(a,!s),(b,!t),(z,true)])=decide (bw row a s + bw row b t<=1 + zB row z):=by
 cases s <;> cases t <;>
  (show ((lE _ _) || (lE _ _))=_
   unfold ZG zr bw
   simp only [cq,ii,lM,Bool.not_false,if_true,if_false,aY,bW,eO,List.any_nil,ch]
   exact ha.el (hb.el (hz.el rfl rfl) (hz.el rfl rfl)) (hb.el (hz.el rfl rfl) (hz.el rfl rfl)))
theorem wk {d:Dd}{l:List Int}(S:DdS k d)(P:DdP l d)(hk:l.length=k)(hw:w∈vals d.dom):(za (k:Int) d.d).all (ZC (l++[w]))=decide (val l d.d=some w):=by
 have hz:zB (l++[w]) (k:Int)=w:=jz hk.symm
 have old:∀ v,v∈YL d.d->zB (l++[w]) v=zB l v:=λ v m=>zo (by erw [hk];exact S.refs v m)
 have Hx:=P.b01
 have Hr:=S.one
 have G6:=S.two
 have hrefs:=S.refs
 have B1:=P.dom
 obtain ⟨d,dom⟩:=d
 cases d with
 | lin ps c =>
  by_cases hp:ps=[]
  ·subst hp
   have e:za (k:Int) (.lin [] c)=[]:=rfl
   erw [e]
   have hd:dom=[(c,c)]:=Hr c rfl
   rw [hd] at hw
   refine Eeaa (vals_mem.mp hw) λ p mp h1 h2=>?_
   cases aG.mp mp
   dsimp only at h1 h2
   have:w=c:=by exact aO (h2) (h1)
   subst this
   show true=decide (some (w + 0)=some w)
   (erw [bJ];erw [decide_eq_true rfl];rfl)
  ·have e:za (k:Int) (.lin ps c)=[.lin ((ps.map λ p=>(p.2,p.1))++[(-1,(k:Int))]) (-c)]:=if_neg hp
   erw [e]
   show ((Zq (l++[w]) ((ps.map λ p=>(p.2,p.1))++[(-1,(k:Int))])).sum==-c&&true)=decide (some (c + (Z2 l ps).sum)=some w)
   (erw [dB];erw [Jk];erw [hz];rewrite [uW];erw [UC])
   ·by_cases h:c + (Z2 l ps).sum=w
    ·(erw [h];erw [decide_eq_true rfl]);exact beq_iff_eq.mpr (by show _ + (-1) * w=_;exact aO (liZ [] [(Z2 l ps).sum,w,c] (.a (.v 0) (.m (-1) (.v 1))) (.g (.v 2)) [(1,.E (.a (.v 2) (.v 0)) (.v 1))] tT9 h) (liZ [] [c,(Z2 l ps).sum,w] (.g (.v 0)) (.a (.v 1) (.m (-1) (.v 2))) [(-1,.E (.a (.v 0) (.v 1)) (.v 2))] (by kernel_rfl) h))
    ·erw [decide_eq_false λ h'=>h (so h')]
     exact beq_eq_false_iff_ne.mpr λ q=>h (lin_iff.mp q)
   ·intro z m
    (refine Eea (aU.mp m) λ p mp Bh=>?_;obtain rfl:=Bh)
    erw [hk]
    exact hrefs p.1 (aU.mpr ⟨p,mp,rfl⟩)
 | elof i ns =>
  show (decide (zQ ns (zB (l++[w]) i)=some (zB (l++[w]) (k:Int)))&&true)=_
  (erw [dB];erw [hz];erw [old i (.head _)]);rfl
 | el i vs =>
  show (decide (zQ (vs.map (zB (l++[w]))) (zB (l++[w]) i)=some (zB (l++[w]) (k:Int)))&&true)=_
  (erw [dB];erw [hz];erw [old i (.head _)])
  have e:vs.map (zB (l++[w]))=vs.map (zB l):=bZ λ v m=>old v (.tail _ m)
  (erw [e];erw [qr]);rfl
 | or a b =>
  show ((zB (l++[w]) (k:Int)==max (zB (l++[w]) a) (zB (l++[w]) b))&&true)=decide (some (max (zB l a) (zB l b))=some w)
  (erw [dB];erw [hz];erw [old a (.head _)];erw [old b (.tail _ (.head _))])
  by_cases h:max (zB l a) (zB l b)=w
  ·(erw [h];erw [decide_eq_true rfl]);exact beq_self_eq_true _
  ·erw [decide_eq_false λ h'=>h (so h')];exact beq_eq_false_iff_ne.mpr λ h'=>h h'.symm
 | all a s b t =>
  have ha:=old a (.head _)
  have hb:=old b (.tail _ (.head _))
  obtain ⟨b1,b2⟩:B01 (zB l a)/\B01 (zB l b):=Hx
  by_cases tu:s=true/\t=true
  ·have e:za (k:Int) (.all a s b t)=[.bo false a b (k:Int)]:=if_pos tu
   (refine Ea (tu) λ AZ=>?_;try clear tu;obtain rfl:=AZ;intro Bt;obtain rfl:=Bt)
   erw [e]
   show ((zB (l++[w]) (k:Int)==min (zB (l++[w]) a) (zB (l++[w]) b))&&true)=decide (some (min (zB l a) (zB l b))=some w)
   (erw [dB];erw [hz];erw [ha];erw [hb])
   by_cases h:min (zB l a) (zB l b)=w
   ·(erw [h];erw [decide_eq_true rfl]);exact beq_self_eq_true _
   ·erw [decide_eq_false λ h'=>h (so h')];exact beq_eq_false_iff_ne.mpr λ h'=>h h'.symm
  ·have e:za (k:Int) (.all a s b t)=[.cl [(a,s),((k:Int),false)],.cl [(b,t),((k:Int),false)],.cl [(a,!s),(b,!t),((k:Int),true)]]:=if_neg tu
   have hd:dom=[(0,1)]:=G6 a s b t rfl
   rw [hd] at hw
   refine Eeaa (vals_mem.mp hw) λ p mp h1 h2=>?_
   cases aG.mp mp
   dsimp only at h1 h2
   have hw:B01 w:=z2 h1 (gf h2 (by decide))
   have Cu:B01 (zB (l++[w]) (k:Int)):=by erw [hz];exact hw
   have ba:B01 (zB (l++[w]) a):=by erw [ha];exact b1
   have bb:B01 (zB (l++[w]) b):=by erw [hb];exact b2
   erw [e]
   show (ZC _ _&&(ZC _ _&&(ZC _ _&&true)))=decide (some (min (bw l a s) (bw l b t))=some w)
   (erw [cl2 ba Cu];erw [cl2 bb Cu];erw [cl3 ba bb Cu])
   have e1:bw (l++[w]) a s=bw l a s:=by unfold bw;(erw [ha];rfl)
   have e2:bw (l++[w]) b t=bw l b t:=by unfold bw;(erw [hb];rfl)
   (erw [e1];erw [e2];erw [hz];erw [dB])
   exact zFR hw (Jc b1) (Jc b2)
theorem xI {d:Dd}{l:List Int}(S:DdS k d)(P:DdP l d)(hk:l.length=k):((vals d.dom).filter λ w=>(za (k:Int) d.d).all (ZC (l++[w])))=(match val l d.d with | some v=>[v] | none=>[]):=by
 have e:((vals d.dom).filter λ w=>(za (k:Int) d.d).all (ZC (l++[w])))=(vals d.dom).filter λ w=>decide (val l d.d=some w):=oN λ w m=>wk S P hk m
 erw [e]
 cases hv:val l d.d with
 | none=>exact fA.mpr λ w _ h=>nomatch of_decide_eq_true h
 | some v =>
  have e2:((vals d.dom).filter λ w=>decide (some v=some w))=(vals d.dom).filter λ w=>decide (v=w):=oN λ w _=>by
   by_cases h:v=w
   ·(erw [h];erw [decide_eq_true rfl];erw [decide_eq_true rfl];rfl)
   ·(erw [decide_eq_false h];erw [decide_eq_false λ h'=>h (so h')];rfl)
  erw [e2]
  exact ji (ux S.nice.asc) (P.dom v hv)
theorem xu {l:List (Int×Bool)}(m:v∈zi (.cl l)):∃ p,p∈l/\p.1=v:=by
 rcases bB.mp m with m | m
 ·refine Eea (aU.mp m) λ p mp e=>?_
  exact ⟨p,(cS.mp mp).1,e⟩
 ·refine Eea (aU.mp m) λ p mp e=>?_
  exact ⟨p,(cS.mp mp).1,e⟩
theorem Yo {l:List (Int×Bool)}:(zi (.cl l)).length<=2 * l.length:=by
 show (ZG l++zr l).length<=_
 unfold ZG zr
 (erw [ak];erw [aj];erw [aj])
 have h1:=fE (λ p:Int×Bool=>p.2) l
 have h2:=fE (λ p:Int×Bool=>!p.2) l
 exact lin [_,_,_] [] (.a (.v 0) (.v 1)) (.m 2 (.v 2)) [(1,.l (.v 0) (.v 2)),(1,.l (.v 1) (.v 2))] tT9 h1 h2
theorem Jx {d:Dd}(S:DdS k d){t:Td}(ht:t∈za (k:Int) d.d):(∀ v,v∈zi t->0<=v/\v<=(k:Int))/\(k:Int)∈zi t/\(zi t).length<=20/\nsT t<=20/\∀ v,v∈wj t->-10<=v/\v<=10:=by
 have hr:=S.refs
 have hf:=S.few
 have hn:=S.ns
 have Hq:=S.cos
 obtain ⟨d,dom⟩:=d
 have old:∀ v,v∈YL d->0<=v/\v<=(k:Int):=λ v m=>by have:=hr v m;exact ⟨this.1,ck this.2⟩
 have hk:0<=(k:Int)/\(k:Int)<=(k:Int):=by exact ⟨az _,aV _⟩
 cases d with
 | lin ps c =>
  by_cases hp:ps=[]
  ·subst hp;cases ht
  ·have e:za (k:Int) (.lin ps c)=[.lin ((ps.map λ p=>(p.2,p.1))++[(-1,(k:Int))]) (-c)]:=if_neg hp
   rw [e] at ht
   refine zZ ht ?_
   have e1:zi (.lin ((ps.map λ p=>(p.2,p.1))++[(-1,(k:Int))]) (-c))=ps.map (·.1)++[(k:Int)]:=by
    show fO _ _=_
    (erw [aT];erw [bF]);rfl
   have e2:wj (.lin ((ps.map λ p=>(p.2,p.1))++[(-1,(k:Int))]) (-c))=ps.map (·.2)++[-1]:=by
    show fO _ _=_
    (erw [aT];erw [bF]);rfl
   have hf:(ps.map (·.1)).length<=10:=hf
   (erw [e1];erw [e2])
   refine ⟨λ v m=>?_,bg _ (.head _),by (erw [ak];erw [aC]);exact lin [_] [] (.a (.v 0) (.k 1)) (.k 20) [(1,.l (.v 0) (.k 10))] tT9 hf,(by decide:0<=20),λ v m=>?_⟩
   ·rcases bB.mp m with m | m
    ·exact old v m
    ·refine zZ m ?_;exact hk
   ·rcases bB.mp m with m | m
    ·(refine Eea (aU.mp m) λ p mp AN=>?_;obtain rfl:=AN)
     exact Hq ps c rfl p mp
    ·refine zZ m ?_;decide
 | elof i ns =>
  refine zZ ht ?_
  have:=hn i ns rfl
  refine ⟨λ v m=>?_,.tail _ (.head _),(by decide:2<=20),(by show ns.length<=20;exact ae this (nB9 rfl)),λ v m=>nomatch m⟩
  refine ZA m ?_ λ m=>?_
  ·exact old _ (.head _)
  ·refine zZ m ?_;exact hk
 | el i vs =>
  refine zZ ht ?_
  have hf:vs.length + 1<=10:=hf
  refine ⟨λ v m=>?_,.tail _ (.head _),(by show vs.length + 1 + 1<=20;exact lin [_] [] (.a (.a (.v 0) (.k 1)) (.k 1)) (.k 20) [(1,.l (.a (.v 0) (.k 1)) (.k 10))] tT9 hf),(by decide:0<=20),λ v m=>nomatch m⟩
  refine ZA m ?_ λ m=>?_
  ·exact old _ (.head _)
  ·refine ZA m ?_ λ m=>?_
   ·exact hk
   ·exact old _ (.tail _ m)
 | or a b =>
  refine zZ ht ?_
  refine ⟨λ v m=>?_,.tail _ (.tail _ (.head _)),(by decide:3<=20),(by decide:0<=20),λ v m=>nomatch m⟩
  refine ZA m ?_ λ m=>?_
  ·exact old _ (.head _)
  ·refine ZA m ?_ λ m=>?_
   ·exact old _ (.tail _ (.head _))
   ·refine zZ m ?_;exact hk
 | all a s b t' =>
  have oa:=old a (.head _)
  have ob:=old b (.tail _ (.head _))
  by_cases tu:s=true/\t'=true
  ·have e:za (k:Int) (.all a s b t')=[.bo false a b (k:Int)]:=if_pos tu
   rw [e] at ht
   refine zZ ht ?_
   refine ⟨λ v m=>?_,.tail _ (.tail _ (.head _)),(by decide:3<=20),(by decide:0<=20),λ v m=>nomatch m⟩
   refine ZA m ?_ λ m=>?_
   ·exact oa
   ·refine ZA m ?_ λ m=>?_
    ·exact ob
    ·refine zZ m ?_;exact hk
  ·have e:za (k:Int) (.all a s b t')=[.cl [(a,s),((k:Int),false)],.cl [(b,t'),((k:Int),false)],.cl [(a,!s),(b,!t'),((k:Int),true)]]:=if_neg tu
   rw [e] at ht
   have two:∀ (x:Int) (s:Bool),0<=x/\x<=(k:Int)->(∀ v,v∈zi (.cl [(x,s),((k:Int),false)])->0<=v/\v<=(k:Int))/\(k:Int)∈zi (.cl [(x,s),((k:Int),false)])/\(zi (.cl [(x,s),((k:Int),false)])).length<=20/\nsT (.cl [(x,s),((k:Int),false)])<=20/\∀ v,v∈wj (.cl [(x,s),((k:Int),false)])->-10<=v/\v<=10:=λ x s hx =>
    ⟨λ v m=>by
     (refine Eea (xu m) λ p mp Bh=>?_;obtain rfl:=Bh)
     refine ZA mp ?_ λ mp=>?_
     ·exact hx
     ·refine zZ mp ?_;exact hk,bg _ (by unfold zr;exact aU.mpr ⟨((k:Int),false),cS.mpr ⟨.tail _ (.head _),rfl⟩,rfl⟩),ae Yo (by decide:2 * 2<=20),(by decide:0<=20),λ v m=>nomatch m⟩
   refine ZA ht ?_ λ ht=>?_
   ·exact two a s oa
   ·refine ZA ht ?_ λ ht=>?_
    ·exact two b t' ob
    ·refine zZ ht ?_
     refine ⟨λ v m=>?_,bK _ (by unfold ZG;exact aU.mpr ⟨((k:Int),true),cS.mpr ⟨.tail _ (.tail _ (.head _)),rfl⟩,rfl⟩),ae Yo (by decide:2 * 3<=20),(by decide:0<=20),λ v m=>nomatch m⟩
     (refine Eea (xu m) λ p mp AZ=>?_;obtain rfl:=AZ)
     refine ZA mp ?_ λ mp=>?_
     ·exact oa
     ·refine ZA mp ?_ λ mp=>?_
      ·exact ob
      ·refine zZ mp ?_;exact hk
structure LOk (l:List Int):Prop where
 len:l.length<=1000
 sm:∀ v,v∈l->-100<=v/\v<=100
theorem LOk.row {l:List Int}(h:LOk l):RowOk l:=⟨ae h.len (by decide),λ p p0 p1=>by
 (refine Ee (bS p0) λ k t7=>?_;obtain rfl:=t7)
 have s3:k<l.length:=du.mp p1
 have:zB l (k:Int)∈l:=by
  unfold zB
  (erw [bq];erw [aA];erw [aw s3])
  exact fG s3
 have:=h.sm _ this
 exact ⟨ai (oD9 rfl) this.1,ai this.2 (oD9 rfl)⟩⟩
theorem LOk.snoc {l:List Int}(h:LOk l)(hl:l.length<=999)(hw:-100<=w/\w<=100):LOk (l++[w]):=⟨by (erw [ak];erw [aC]);exact dH hl,λ v m=>by
 rcases bB.mp m with m | m
 ·exact h.sm v m
 ·refine zZ m ?_;exact hw⟩
theorem wb (j m:Nat):z5 (j:Int) ((j:Int) + ((m + 1:Nat):Int))=.int (j:Nat)::z5 ((j + 1:Nat):Int) (((j + 1:Nat):Int) + (m:Nat)):=by
 unfold z5
 rw [show ((j:Int) + ((m + 1:Nat):Int) - j).toNat=m + 1 from congrArg rP (show (j:Int) + ((m + 1:Nat):Int) - j=((m + 1:Nat):Int) by rw [fY,n7]),show (((j + 1:Nat):Int) + (m:Int) - ((j + 1:Nat):Int)).toNat=m from congrArg rP (show ((j + 1:Nat):Int) + (m:Int) - ((j + 1:Nat):Int)=(m:Int) by rw [fY,n7]),List.range_succ_eq_map,aY,bF]
 congr 1
 ·refine bZ λ i _=>?_
  show be ((j:Int) + ((i + 1:Nat):Int))=.int (((j + 1:Nat):Int) + (i:Int))
  congr 1;exact aO (liZ [_,_] [] (.a (.c (.v 0)) (.c (.a (.v 1) (.k 1)))) (.a (.c (.a (.v 0) (.k 1))) (.c (.v 1))) [] tT9) (liZ [_,_] [] (.a (.c (.a (.v 0) (.k 1))) (.c (.v 1))) (.a (.c (.v 0)) (.c (.a (.v 1) (.k 1)))) [] tT9)
noncomputable def jV:Option (List Int)->List Dd->Option (List Int)
 | f,[]=>f
 | f,d::ds=>jV (stepF f d.d) ds
theorem JD:∀ {ds:List Dd},jV none ds=none
 | []=>rfl
 | _::ds=>JD (ds:=ds)
theorem Jz:∀ {ds:List Dd} {l:List Int},jV (some l) ds=run l ds
 | [],_=>rfl
 | d::ds,l=>by
  show jV ((val l d.d).bind λ v=>some (l++[v])) ds=(val l d.d).bind λ v=>run (l++[v]) ds
  cases val l d.d with
  | none=>exact JD
  | some v=>exact Jz
section
variable {C:Cx}{n:Nat}{fd:MO}{pt:D}{vars tolds:List ab}{made:List (Ky×D)}
theorem XM (L:Law1 C){es:List (Int×D)}{d2:Option D}{S:Fl->Rho->zA->Prop}{K:Rho×zA->Prop} :
  ∀ (ds:List Dd) (j i b:Nat) (f:Option (List Int)) (Y:zA) (u4 u5 u6 u7:Option D),j + ds.length<=900->b<=i->b<=9 + Y.length ->
  (∀ m d,ds[m]?=some d->∃ nm,vars[j + m]?=some (.tuple [nm,ZE d.dom])) ->
  (∀ m d,ds[m]?=some d->DdS (j + m) d) ->
  (∀ m d,ds[m]?=some d->LateAt (zE fd pt vars tolds made++.idict es::Y) es ((j + m:Nat):Int) (za ((j + m:Nat):Int) d.d)) ->
  (∀ l,f=some l->LOk l/\l.length=j/\All l ds) ->
  (zE fd pt vars tolds made++.idict es::Y)[i]?=some (.lst (qg f)) ->
  (∀ i' X v4 v5 v6 v7,b<=i'->(zE fd pt vars tolds made++.idict es::(Y++X))[i']?=some (.lst (qg (jV f ds)))->K ([some (.obj 4),some (.obj 8),d2,some (.obj i'),v4,v5,v6,v7],zE fd pt vars tolds made++.idict es::(Y++X))) ->
  zH (zK C T1 (n + 2) (.nm 4) JF none S) (z5 j ((j:Int) + ds.length)) ([some (.obj 4),some (.obj 8),d2,some (.obj i),u4,u5,u6,u7],zE fd pt vars tolds made++.idict es::Y) K:=by
 intro ds
 induction ds with
 | nil =>
  intro j i b f Y u4 u5 u6 u7 _ hb _ _ _ _ _ hi hK
  have e:z5 j ((j:Int) + ([]:List Dd).length)=[]:=by unfold z5;simp
  erw [e]
  have:=hK i [] u4 u5 u6 u7 hb (by erw [aP];exact hi)
  rw [aP] at this
  exact this
 | cons d ds ih =>
  intro j i b f Y u4 u5 u6 u7 hl H' C8 hv hS tW hf hi hK
  rw [aE] at hl
  have e:z5 j ((j:Int) + (d::ds).length)=.int (j:Nat)::z5 ((j + 1:Nat):Int) (((j + 1:Nat):Int) + ds.length):=wb j ds.length
  erw [e]
  show zK _ _ _ _ _ _ _ (be (j:Nat)) _ (λ a'=>zH _ (z5 ((j + 1:Nat):Int) (((j + 1:Nat):Int) + ds.length)) a' K)
  refine Ee (hv 0 d rfl) λ nm Ic=>?_
  have S0:=hS 0 d rfl
  have L0:=tW 0 d rfl
  rw [Nat.add_zero] at Ic S0 L0
  have hd:∀ w,w∈vals d.dom->-100<=w/\w<=100:=λ w m=>by
   refine Eeaa (vals_mem.mp m) λ p mp h1 h2=>?_
   exact ⟨ai (S0.nice.lo p mp) h1,ai h2 (S0.nice.hi p mp)⟩
  have AK:(za (j:Int) d.d).length<=1000:=by
   have:=yT (j:Int) d.d
   exact ae this (nB9 rfl)
  refine XX L (d:=d) (lin [_,_] [] (.v 0) (.k 1000) [(1,.l (.a (.v 0) (.a (.v 1) (.k 1))) (.k 900))] tT9 hl) Ic S0.nice AK hi L0 (λ l e w m=>?_) (λ l e w m t ht=>?_) (λ l e=>?_) λ v4 v5 v6 v7=>?_
  ·refine Eaa (hf l e) λ h1 h2 h3=>?_
   exact (h1.snoc (lin [_,_,_] [] (.v 0) (.k 999) [(1,.l (.a (.v 1) (.a (.v 2) (.k 1))) (.k 900)),(1,.e (.v 0) (.v 1))] tT9 hl h2) (hd w m)).row
  ·refine Eaa (hf l e) λ h1 h2 h3=>?_
   refine uO (Jx S0 ht) λ t1 _ t3 t4 t5=>?_
   exact ⟨λ v m=>by have:=t1 v m;(erw [ak];erw [aC];erw [h2]);exact ⟨this.1,liZ [_] [_] (.a (.v 0) (.k 1)) (.c (.a (.v 0) (.k 1))) [(1,.L (.v 0) (.c (.v 0)))] tT9 this.2⟩,t3,t4,t5⟩
  ·refine Eaa (hf l e) λ h1 h2 h3=>?_
   exact xI S0 h3.1 h2
  ·have e1:∀ m,j + 1 + m=j + (m + 1):=λ m=>by exact bl (lin [_,_] [] (.a (.a (.v 0) (.k 1)) (.v 1)) (.a (.v 0) (.a (.v 1) (.k 1))) [] tT9) (lin [_,_] [] (.a (.v 0) (.a (.v 1) (.k 1))) (.a (.a (.v 0) (.k 1)) (.v 1)) [] tT9)
   have e2:∀ (Y X:zA),zE fd pt vars tolds made++.idict es::(Y++X)=(zE fd pt vars tolds made++.idict es::Y)++X:=λ Y X=>by (erw [au];erw [eE];rfl)
   refine ih (j + 1) _ b (stepF f d.d) _ v4 v5 v6 v7 (lin [_,_] [] (.a (.a (.v 0) (.k 1)) (.v 1)) (.k 900) [(1,.l (.a (.v 0) (.a (.v 1) (.k 1))) (.k 900))] tT9 hl) C8 (by erw [ak];exact ko C8) (λ m d' h=>by erw [e1];exact hv (m + 1) d' h) (λ m d' h=>by erw [e1];exact hS (m + 1) d' h) (λ m d' h=>?_) (λ l h=>?_) ?_ λ i' X w4 w5 w6 w7 hb h=>?_
   ·(erw [e1];erw [e2]);exact (tW (m + 1) d' h).app
   ·unfold stepF at h
    refine Eea (ob h) λ l0 h1 h=>?_
    refine Eea (ob h) λ v h2 h=>?_
    obtain rfl:=so h
    refine Eaa (hf l0 h1) λ q1 q2 q3=>?_
    exact ⟨q1.snoc (lin [_,_,_] [] (.v 0) (.k 999) [(1,.l (.a (.v 1) (.a (.v 2) (.k 1))) (.k 900)),(1,.e (.v 0) (.v 1))] tT9 hl q2) (hd v (q3.1.dom v h2)),by (erw [ak];erw [aC];erw [q2];rfl),q3.2 v h2⟩
   ·erw [e2]
    have:9 + Y.length=(zE fd pt vars tolds made++.idict es::Y).length:=by (erw [ZY];erw [aE]);exact bl (lin [_] [] (.a (.k 9) (.v 0)) (.a (.k 8) (.a (.v 0) (.k 1))) [] tT9) (lin [_] [] (.a (.k 8) (.a (.v 0) (.k 1))) (.a (.k 9) (.v 0)) [] tT9)
    erw [this];exact aX
   ·have:=hK i' ([.lst (qg (stepF f d.d))]++X) w4 w5 w6 w7 hb
    rw [<- au] at this
    exact this h
end
theorem zF2 (h:p∈xv g):0<=p/\p<=3:=by
 match g with
 | 0=>revert h;revert p;show ∀ p,p∈[(1:Int),2,3]->_;decide
 | 1=>revert h;revert p;show ∀ p,p∈[(0:Int),1,2]->_;decide
 | 2=>revert h;revert p;show ∀ p,p∈[(0:Int),1,3]->_;decide
 | g + 3=>revert h;revert p;show ∀ p,p∈[(0:Int),2,3]->_;decide
theorem zAJ {row:List Int}(h:BR g row):∀ v,v∈row->-100<=v/\v<=100:=λ v m=>by
 (refine Eeeeaaa (h.h) λ p q r t7=>?_;obtain rfl:=t7;intro hp hq hr)
 have:=zF2 hp
 refine ZA m ?_ λ m=>?_
 ·exact ⟨ai (oD9 rfl) this.1,ai this.2 (oD9 rfl)⟩
 ·refine ZA m ?_ λ m=>?_
  ·rcases hq with e | e <;> erw [e] <;> exact ⟨by decide,by decide⟩
  ·refine zZ m ?_;rcases hr with e | e <;> erw [e] <;> exact ⟨by decide,by decide⟩
section
variable {C:Cx}{n g:Nat}{fd:MO}{pt:D}{ds:List Dd}{τ:zA}{Q:D->zA->Prop}
theorem zET (L:Law1 C){es:List (Int×D)}{row:List Int}(CM:zP (-1) es=none/\zP 0 es=none/\zP 1 es=none/\zP 2 es=none)(I:Inv g ds)(hr:BR g row)(tn:ds.length<=800)
  (tW:∀ m d,ds[m]?=some d->LateAt (stt fd pt (vb0 g) ds++.idict es::τ) es ((3 + m:Nat):Int) (za ((3 + m:Nat):Int) d.d))
  (q:Q (.p (.list (qg (run row ds)))) (stt fd pt (vb0 g) ds++.idict es::τ)) :
  SatCall C T1 (n + 3) 555 [.obj 4,.obj 8,yP row] (stt fd pt (vb0 g) ds++.idict es::τ) Q:=by
 refine zL L.Y L.TT L.law_ways rfl ?_
 have Cf:∀ {S:Fl->Rho->zA->Prop} {K:Rho×zA->Prop} {d2:Option D},_:=λ {S K d2}=>XM (n:=n) (S:=S) (K:=K) (d2:=d2) (fd:=fd) (pt:=pt) (vars:=vb0 g++zR 3 ds) (tolds:=(zN 3 ds).map zJ) (made:=zT 3 ds) (es:=es) L ds 3
 unfold JF jU uT at Cf
 unfold Qe yP stt at *
 have h8:∀ X,(zE fd pt (vb0 g++zR 3 ds) ((zN 3 ds).map zJ) (zT 3 ds)++.idict es::τ++X)[8]?=some (.idict es):=λ X=>rfl
 have h3:=hr.len
 walk_at "go"
 have one:∀ (p:Int) (K:List ab×zA->Prop) (acc:List ab) (X:zA) (d0 d2 d3 d4 d5 d6 d7:Option D),zP p es=none->K (acc,zE fd pt (vb0 g++zR 3 ds) ((zN 3 ds).map zJ) (zT 3 ds)++.idict es::τ++X) ->
   zM C T1 (n + 2) (elW C T1 (n + 2) (.nm 10)) (.nm 9) [] [.mk (.nm 10) (.meth (.nm 1) 1 [.nm 9,.lst false []]) [.not (.call false (.gl 38) [.nm 10,.nm 2])]] [d0,some (.obj 8),d2,d3,d4,d5,d6,d7,none,none,none] none (.int p) (acc,zE fd pt (vb0 g++zR 3 ds) ((zN 3 ds).map zJ) (zT 3 ds)++.idict es::τ++X) K:=λ p K acc X d0 d2 d3 d4 d5 d6 d7 hp k=>by
  walk_at "go"
  erw [h8]
  walk_at "go"
  simp only [hp,kL]
  walk_at "go"
  exact k
 refine zq ?_
 refine one _ _ _ _ _ _ _ _ _ _ _ CM.1 ?_
 refine zq ?_
 refine one _ _ _ _ _ _ _ _ _ _ _ CM.2.1 ?_
 refine zq ?_
 refine one _ _ _ _ _ _ _ _ _ _ _ CM.2.2.1 ?_
 refine zq ?_
 refine one _ _ _ _ _ _ _ _ _ _ _ CM.2.2.2 ?_
 refine ZZ ?_
 unfold zW
 walk_at "go"
 (erw [au];erw [eE])
 walk_at "st"
 refine WH L (by (erw [ak];erw [QO]);show 3 + ds.length<=10000;exact lin [_] [] (.a (.k 3) (.v 0)) (.k 10000) [(1,.l (.v 0) (.k 800))] tT9 tn) ?_
 have AA:(vb0 g++zR 3 ds).length=3 + ds.length:=by (erw [ak];erw [QO]);rfl
 erw [AA]
 have As:(z5 ((3:Nat):Int) (((3:Nat):Int) + (ds.length:Int))).length<=100000:=by unfold z5;(erw [aj];erw [gr]);exact lin [_,_] [] (.v 0) (.k 100000) [(1,.l (.v 1) (.k 800)),(1,.E (.c (.v 0)) (.s (.a (.c (.k 3)) (.c (.v 1))) (.c (.k 3))))] tT9 tn (bH (liZ [_] [] (.k 0) (.s (.a (.c (.k 3)) (.c (.v 0))) (.c (.k 3))) [] tT9))
 have hc:((3 + ds.length:Nat):Int)=((3:Nat):Int) + (ds.length:Int):=by exact rfl
 erw [hc]
 walk_at "st"
 refine ⟨by omega,As,?_⟩
 have e2:∀ X:zA,zE fd pt (vb0 g++zR 3 ds) ((zN 3 ds).map zJ) (zT 3 ds)++.idict es::(τ++X)=(zE fd pt (vb0 g++zR 3 ds) ((zN 3 ds).map zJ) (zT 3 ds)++.idict es::τ)++X:=λ X=>by (erw [au];erw [eE];rfl)
 have hlen:(zE fd pt (vb0 g++zR 3 ds) ((zN 3 ds).map zJ) (zT 3 ds)++.idict es::τ).length=9 + τ.length:=by (erw [ZY];erw [aE]);exact bl (lin [_] [] (.a (.k 8) (.a (.v 0) (.k 1))) (.a (.k 9) (.v 0)) [] tT9) (lin [_] [] (.a (.k 9) (.v 0)) (.a (.k 8) (.a (.v 0) (.k 1))) [] tT9)
 refine Cf _ (9 + τ.length) (some row) _ _ _ _ _ (lin [_] [] (.a (.k 3) (.v 0)) (.k 900) [(1,.l (.v 0) (.k 800))] tT9 tn) (dk hlen.symm) (by erw [ak];exact lin [_] [] (.a (.k 9) (.v 0)) (.a (.k 9) (.a (.v 0) (.a (.k 0) (.k 1)))) [] tT9) (λ m d h=>?_) (λ m d h=>I.st m d h) (λ m d h=>?_) (λ l h=>?_) ?_ λ i' X v4 v5 v6 v7 hb h=>?_
 ·refine ⟨y9 (3 + m),?_⟩
  erw [cj (by show 3<=_;exact aH _ _)]
  show (zR 3 ds)[3 + m - 3]?=_
  erw [fh]
  exact YQ ds 3 m d h
 ·erw [e2];exact (tW m d h).app
 ·obtain rfl:=so h
  refine ⟨⟨by exact lin [_] [] (.v 0) (.k 1000) [(1,.e (.v 0) (.k 3))] tT9 h3,λ v m=>?_⟩,h3,I.all row hr⟩
  exact zAJ hr v m
 ·erw [e2];exact aX
 ·rw [Jz] at h
  have e3:zE fd pt (vb0 g++zR 3 ds) ((zN 3 ds).map zJ) (zT 3 ds)++.idict es::(τ++[.lst [.list (row.map .int)]]++X)=(zE fd pt (vb0 g++zR 3 ds) ((zN 3 ds).map zJ) (zT 3 ds)++.idict es::τ)++([.lst [.list (row.map .int)]]++X):=by (rewrite [au τ];erw [e2];rfl)
  walk_at "ds"
  refine zG ?_
  walk_at "ds"
  rw [e3] at h ⊢
  simp only [h,cB]
  rw [io _ _ (by rw [hlen];exact hb)]
  exact Zg rfl q
end
structure Law1X (C:Cx):Prop where
 L:Law1 C
 S:SupX C "/claim/cut.py"
 mF:mG C.K 510=true
 kF:keepIn C.K (.ref 510)=true
 iF:∃ f,findIn C.K (.ref 510) "__init__"=some (some (.ref f))/\typeIn C.K (.ref f)=some (.type "function")/\keepIn C.K (.ref f)=true/\Xf C.K "/claim/cut.py" f ⟨510,"self",[],[],"partial",none⟩
 m168:mG C.K 182=true
 k168:keepIn C.K (.ref 182)=true
 i168:findIn C.K (.ref 182) "__init__"=some (some (.ref 151))
 f137:typeIn C.K (.ref 151)=some (.type "function")
 sub:mroIn C.K 510 (.ref 510)=some true
 sin:i9 C.K 510 510 "__init__"=some (some (.ref 261))
 f226:typeIn C.K (.ref 261)=some (.type "function")
 n226:fnIn C.K 261=true
section
variable {C:Cx}{n:Nat}{Q:D->zA->Prop}
theorem zE2 (X:Law1X C){a b c:MO}(q:Q (.obj 4) [a,b,c,.sdict [(6,.obj 5),(7,.obj 6),(8,XS),(9,.p (.tuple []))],.inst 182 3,.lst [],.lst []]):SatCall C T1 (n + 2) 182 [] [a,b,c] Q:=by
 refine uX X.L.Y (by decide) X.m168 X.k168 X.i168 X.f137 ?_
 refine zL X.L.Y X.L.TT X.L.flat_init rfl ?_
 unfold Qh
 walk_at "go"
 exact zD rfl ⟨rfl,q⟩
theorem xL (X:Law1X C)(q:Q (.obj 2) (zE fd (.p .none) [] [] [])):SatCall C T1 (n + 6) 510 [] [fd] Q:=by
 refine Eeaaa (X.iF) λ f i1 i2 i3 i4=>?_
 refine uX X.L.Y (by decide) X.mF X.kF i1 i2 ?_
 refine VG X.L.Y X.L.TT X.S i3 i4 (k:=12) rfl rfl X.sub X.sin X.f226 X.n226 (i:=2) (j:=1) rfl rfl ?_
 refine zL X.L.Y X.L.TT X.L.gath_init rfl ?_
 unfold Qm
 walk_at "go"
 refine zE2 X ?_
 walk_at "go"
 exact zD rfl ⟨_,rfl,rfl,by decide,q⟩
end
noncomputable def zx (s:ab)(g:Int)(d8 d9 d10 d11 d12 d13 d14 d15 d16 d17 d18 d19 d20 d21 d22 d23 d24:Option D):Rho :=
 [some (.p s),some (.obj 0),some (.obj 2),some (.obj 8),some (.obj 9),some (.p (.int g)),some (.p (.list (Ym th4))),some (.obj 10),d8,d9,d10,d11,d12,d13,d14,d15,d16,d17,d18,d19,d20,d21,d22,d23,d24]
section
variable {C:Cx}{n:Nat}{Q:D->zA->Prop}
noncomputable def gAt (g:Int):Nat:=g.toNat
theorem zBK {g:Int}(g0:0<=g)(g4:g<4):((idx 4 g).bind λ j=>[bE [.tuple [.int 1,.int 3]],.tuple [.tuple [.int 0,.int 2]],.tuple [.tuple [.int 0,.int 1],.tuple [.int 3,.int 3]],.tuple [.tuple [.int 0,.int 0],.tuple [.int 2,.int 3]]][j]?)=some (ZE (xd (gAt g))):=by
 rcases z4 g0 g4 with rfl | rfl | rfl | rfl <;> rfl
theorem zAp (X:Law1X C)(hl:ns.length<=63)
  (h:∀ g:Int,0<=g->g<4->wpSs C T1 59 (b_law.drop 7) (zx (.list (ns.map .int)) g none none none none none none none none none none none none none none none none none)
   (stt (Zh (ns.take 40) 1) (.p .none) (vb0 (gAt g)) []++[.idict [],.lst [],.lst (th4.map λ p=>enc p.1)]) λ fl _ σ'=>ZR [] Q fl σ') :
  SatCall C T1 60 574 [.p (.list (ns.map .int))] [] Q:=by
 have L:=X.L
 refine zL L.Y L.TT L.law rfl ?_
 generalize hS:(λ (fl:Fl) (_:Rho) (σ':zA)=>ZR [] Q fl σ')=S at h ⊢
 have e:b_law=b_law.take 7++b_law.drop 7:=(il ..).symm
 erw [e]
 generalize b_law.drop 7=tail at h ⊢
 unfold b_law
 simp only [rQ,eE,bP]
 refine zG ?_
 walk_at "st"
 refine ⟨by erw [aj];exact ae hl (nB9 rfl),ae (iU ..) (by decide),?_⟩
 have hf:MO.rdict [(13,D.p (mQ (rQ 40 (fO be ns)))),(14,D.p (be 0))]=Zh (ns.take 40) 0:=by
  unfold Zh;erw [pX];rfl
 erw [hf]
 refine SatCall.up (xL (n:=0) X ?_) (by decide)
 have Ar:(ns.take 40).length<=100:=ae (iU ..) (by decide)
 generalize ns.take 40=cells at hf Ar h ⊢
 show wpSs C T1 59 _ [some (.p (.list (ns.map .int))),some (.obj 0),some (.obj 2),some (.obj 8),some (.obj 9),none,none,none,none,none,none,none,none,none,none,none,none,none,none,none,none,none,none,none,none] (zE (Zh cells 0) (.p .none) [] [] []++[.idict [],.lst []]) S
 refine zG ?_
 walk_at "st"
 refine qG L ⟨by decide,by decide⟩ (by decide) Ar λ g g0 g4=>?_
 walk_at "st"
 refine zG ?_
 walk_at "st"
 erw [zBK g0 g4]
 refine ⟨by exact ⟨ai (oD9 rfl) g0,c5 g4 (oD9 rfl)⟩,?_⟩
 show SatCall C T1 59 158 _ _ _
 refine QR L (by decide) ?_
 walk_at "go"
 refine QR L (by decide:1<=10000) ?_
 walk_at "go"
 refine QR L (by decide:2<=10000) ?_
 walk_at "go"
 refine zAk L ?_
 walk_at "go"
 refine ⟨(by decide:8<=100000),qX (f:=λ p:Th×List Int=>.tuple [enc p.1,.tuple (p.2.map .int)]) (h:=λ p=>enc p.1) th4 [] (by decide:8<=90000) (λ p _ acc K ha k=>by walk_at "st";exact ⟨ha,k⟩) ?_⟩
 unfold zW
 exact h g g0 g4
end
noncomputable def yF (row:List Int):List Hw->List Int->Option (List Int)
 | [],ws=>some ws
 | h::r,ws=>(ZS ws row h).bind λ v=>yF row r (ws++[v])
theorem jZ {row:List Int}{h:Hw}:∀ {hs:List Hw} {ws:List Int},yF row (hs++[h]) ws=(yF row hs ws).bind λ FI=>(ZS FI row h).bind λ v=>some (FI++[v])
 | [],ws=>rfl
 | x::r,ws=>by
  show (ZS ws row x).bind _=((ZS ws row x).bind _).bind _
  cases ZS ws row x with
  | none=>rfl
  | some v=>exact jZ (hs:=r)
structure LapI (g:Nat)(ds:List Dd)(pool:List Th)(hows:List Hw):Prop where
 inv:Inv g ds
 pl:∀ t,t∈pool->PlT g ds t
 len:pool.length=8 + hows.length
 hok:∀ k h,hows[k]?=some h->HwOk (8 + k) h
 sem:∀ row,BR g row->((run row ds).bind λ l=>some (pool.map (zC l)))=yF row hows (th4.map λ p=>zC row p.1)
theorem LapI.snoc {m:Nat}{f:List Int->Option Int}{t:Th}{h:Hw}(I:LapI g ds pool hows)(o:Yld g ds sU m f t)(ht:PlT g sU t)(hh:HwOk pool.length h)
  (hf:∀ row,BR g row->∀ l,run row ds=some l->f l=ZS (pool.map (zC l)) row h):LapI g sU (pool++[t]) (hows++[h]):=by
 refine ⟨o.inv,λ u m=>?_,by (erw [ak];erw [ak];erw [I.len]);rfl,λ k x hx=>?_,λ row hr=>?_⟩
 ·rcases bB.mp m with m | m
  ·exact o.pl I.inv (I.pl u m)
  ·refine zZ m ?_;exact ht
 ·by_cases hk:k<hows.length
  ·rw [aB hk] at hx
   exact I.hok k x hx
  ·rw [cj ((bk hk))] at hx
   have hl:=QY hx
   rw [aC] at hl
   have e:k=hows.length:=by omega
   subst e
   rw [ki] at hx
   obtain rfl:=so hx
   refine rwS I.len ?_;exact hh
 ·(erw [jZ];refine rwS (I.sem row hr) ?_)
  refine Ee (o.pre) λ X e=>?_
  cases hl:run row ds with
  | none =>
   (erw [e];erw [qy];erw [hl]);rfl
  | some l =>
   refine Ea (o.run row hr l hl) λ h1 h2=>?_
   have e1:=hf row hr l hl
   show _=(ZS (pool.map (zC l)) row h).bind λ v=>some (pool.map (zC l)++[v])
   refine rwS e1 ?_
   cases hv:f l with
   | none=>erw [h2 hv];rfl
   | some w =>
    refine Eea (h1 w hv) λ Y h3 h4=>?_
    erw [h3]
    show some ((pool++[t]).map (zC (l++Y)))=some (pool.map (zC l)++[w])
    (erw [aT];erw [dP];erw [h4])
    congr 2
    exact bZ λ u m=>(I.pl u m).near.tg.app_worth (I.inv.at hr hl).1
theorem zCc :0<=(Bd g ds 0).1/\(Bd g ds 0).1<=(Bd g ds 0).2/\(Bd g ds 0).2<=3:=by
 show 0<=(hull (xd g)).1/\(hull (xd g)).1<=(hull (xd g)).2/\(hull (xd g)).2<=3
 match g with
 | 0=>decide
 | 1=>decide
 | 2=>decide
 | g + 3=>show 0<=(hull [((0:Int),(0:Int)),(2,3)]).1/\(hull [((0:Int),(0:Int)),(2,3)]).1<=(hull [((0:Int),(0:Int)),(2,3)]).2/\(hull [((0:Int),(0:Int)),(2,3)]).2<=3;decide
theorem UT {i:Int}(h1:-3<=i)(h2:i<=4):PlT g ds (.num i):=⟨yc rfl h1 h2,λ h=>nomatch h⟩
theorem uf :PlT g ds (.tru b):=⟨near_tru,λ _ row hr l hl=>by erw [zc];cases b;exact .inl rfl;exact .inr rfl⟩
theorem j4 {s:Bool}:PlT g ds (.bit 2 s):=by
 have h:=QS (g:=g) (ds:=ds) (k:=2) (aH _ _) (lo:=0) (hi:=1) (show Nice [(0,1)] 0 1 from nice01) (by decide) (by decide)
 exact ⟨ZT (k:=2) h.1 ⟨by exact az _,az _⟩,λ _ row hr l hl=>by erw [zb];exact Jc (VX hr hl)⟩
theorem zGF :PlT g ds (vz 0):=by
 have h:=QS (g:=g) (ds:=ds) (k:=0) (lin [_] [] (.a (.k 0) (.k 1)) (.a (.k 3) (.v 0)) [] tT9) (lo:=-3) (hi:=4) (show Nice (xd g) (-3) 4 from JN g) (by decide) (by decide)
 exact ⟨⟨h.1,h.2.1,h.2.2⟩,λ h=>nomatch h⟩
theorem zGs :PlT g ds (vz 1):=by
 have h:=QS (g:=g) (ds:=ds) (k:=1) (lin [_] [] (.a (.k 1) (.k 1)) (.a (.k 3) (.v 0)) [] tT9) (lo:=1) (hi:=2) (show Nice [(1,2)] 1 2 from ⟨⟨by decide,by decide⟩,by decide,by decide,by decide,by decide⟩) (by decide) (by decide)
 exact ⟨⟨h.1,az _,az _⟩,λ h=>nomatch h⟩
theorem zGu :PlT g ds (.sum [(0,1),(1,-1)] (-1)):=by
 have hx:=zCc (g:=g) (ds:=ds)
 have e1:bounds (Bd g ds) (.sum [(0,1),(1,-1)] (-1))=(-1 + zm (1 * (Bd g ds 0).1) [1 * (Bd g ds 0).2] + zm (-1 * 1) [-1 * 2],-1 + ze (1 * (Bd g ds 0).1) [1 * (Bd g ds 0).2] + ze (-1 * 1) [-1 * 2]):=rfl
 have hb:-3<=(bounds (Bd g ds) (.sum [(0,1),(1,-1)] (-1))).1/\(bounds (Bd g ds) (.sum [(0,1),(1,-1)] (-1))).2<=4:=by
  erw [e1]
  (erw [mn2];erw [mx2])
  rcases hM (1 * (Bd g ds 0).1) (1 * (Bd g ds 0).2) with h | h
  ·(erw [fT h];erw [fK h]);exact ⟨by show _<=-1 + _ + -2;exact liZ [] [_] (.k (-3)) (.a (.a (.k (-1)) (.m 1 (.v 0))) (.k (-2))) [(1,.L (.k 0) (.v 0))] tT9 hx.1,by show -1 + _ + -1<=_;exact liZ [] [_] (.a (.a (.k (-1)) (.m 1 (.v 0))) (.k (-1))) (.k 4) [(1,.L (.v 0) (.k 3))] tT9 hx.2.2⟩
  ·(erw [gU h];erw [ij h]);exact ⟨by show _<=-1 + _ + -2;exact liZ [] [_,_] (.k (-3)) (.a (.a (.k (-1)) (.m 1 (.v 0))) (.k (-2))) [(1,.L (.k 0) (.v 1)),(1,.L (.v 1) (.v 0))] tT9 hx.1 hx.2.1,by show -1 + _ + -1<=_;exact liZ [] [_,_] (.a (.a (.k (-1)) (.m 1 (.v 0))) (.k (-1))) (.k 4) [(1,.L (.v 0) (.v 1)),(1,.L (.v 1) (.k 3))] tT9 hx.2.1 hx.2.2⟩
 refine ⟨⟨⟨(by decide:2<=2),λ p m=>?_,ai (oD9 rfl) hb.1,ai hb.2 (oD9 rfl)⟩,hb.1,hb.2⟩,λ h=>nomatch h⟩
 refine ZA m ?_ λ m=>?_
 ·exact ⟨by dsimp only;exact ⟨aV _,liZ [_] [] (.a (.k 0) (.k 1)) (.c (.a (.k 3) (.v 0))) [] tT9⟩,by dsimp only;exact ⟨of_decide_eq_true rfl,az _⟩⟩
 ·refine zZ m ?_;exact ⟨by dsimp only;exact ⟨az _,liZ [_] [] (.a (.k 1) (.k 1)) (.c (.a (.k 3) (.v 0))) [] tT9⟩,by dsimp only;exact ⟨az _,of_decide_eq_true rfl⟩⟩
theorem zD3 :∀ t,t∈th4.map (·.1)->PlT g ds t:=by
 show ∀ t,t∈[vz 0,vz 1,.sum [(0,1),(1,-1)] (-1),.bit 2 true,.bit 2 false,.tru true,.num (-2),.num 4]->PlT g ds t
 simp only [cQ]
 exact ⟨zGF,zGs,zGu,j4,j4,uf,UT (by decide) (by decide),UT (by decide) (by decide),λ _ m=>nomatch m⟩
theorem LapI.nil (g:Nat):LapI g [] (th4.map (·.1)) []:=⟨Inv.nil,zD3,rfl,λ k h hk=>by simp at hk,λ row hr=>by show some _=some _;rw [bF];rfl⟩
theorem ua {row l:List Int}(hr:BR g row)(hl:run row ds=some l)(r:Int):qB r l=qB r row/\zB l 2=zB row 2:=by
 obtain ⟨_,Y,rfl⟩:=YV hl
 have h3:=hr.len
 have e:∀ p:Int,0<=p->p<3->zB (row++Y) p=zB row p:=λ p a b=>zo (by erw [h3];exact ⟨a,b⟩)
 have e0:=e 0 (by decide) (by decide)
 have e1:=e 1 (by decide) (by decide)
 have e2:=e 2 (by decide) (by decide)
 refine ⟨?_,e2⟩
 unfold qB bw
 (erw [e0];erw [e1];erw [e2];rfl)
noncomputable def Jd:List St:=match b_law.drop 7 with
 | .for _ _ b::_=>b
 | _=>[]
noncomputable def ZH (pl:List Th)(v:Int):Th:=pl.getD v.toNat (.num 0)
theorem jD {pl:List Th}(h0:0<=v)(h1:v<(pl.length:Int)):ZH pl v∈pl:=by
 unfold ZH
 have:v.toNat<pl.length:=by exact lin [v.toNat,pl.length] [v] (.a (.v 0) (.k 1)) (.v 1) [(1,.L (.a (.v 0) (.k 1)) (.c (.v 1))),(1,.E (.c (.v 0)) (.v 0))] tT9 h1 (bH h0)
 (erw [aA];erw [aw this];erw [cK])
 exact fG this
theorem jq {pl:List Th}(h0:0<=v)(h1:v<(pl.length:Int)):((idx (pl.map enc).length v).bind λ j=>(pl.map enc)[j]?)=some (enc (ZH pl v)):=by
 (refine Ee (bS h0) λ k t7=>?_;obtain rfl:=t7)
 have s3:k<pl.length:=du.mp h1
 erw [JJ]
 simp only [cB,a6,aw s3,ib,ZH,bq,aA,cK]
theorem jA {pl:List Th}{l:List Int}(h0:0<=v)(h1:v<(pl.length:Int)):atW (pl.map (zC l)) v=zC l (ZH pl v):=by
 unfold atW ZH
 have:v.toNat<pl.length:=by exact lin [v.toNat,pl.length] [v] (.a (.v 0) (.k 1)) (.v 1) [(1,.L (.a (.v 0) (.k 1)) (.c (.v 1))),(1,.E (.c (.v 0)) (.v 0))] tT9 h1 (bH h0)
 (erw [aA];erw [aA];erw [a6];erw [aw this]);rfl
section
variable {C:Cx}{n:Nat}{Q:D->zA->Prop}
theorem Ux (L:Law1 C){vars tolds:List ab}{made:List (Ky×D)}{τ:zA}{b m:Int}{d0 d2 d3 d4 d5 d6 d7 d8 d9 d10 d11 d12 d15 d16 d17 d18 d19 d20 d21 d22 d23 d24:Option D}{K:List ab×zA->Prop}(Ar:cells.length<=100)(hm:0<m/\m<=1000) :
  ∀ (xs:List ab) (acc:List ab) (k:Nat) (u:Option D),k + xs.length<=1000->acc.length + xs.length<=1000 ->
  (∀ vs:List Int,vs.length=xs.length->(∀ v,v∈vs->b<=v/\v<b + m)->K (acc++vs.map .int,zE (Zh cells (k + xs.length)) (.p .none) vars tolds made++τ)) ->
  zH (zM C T1 (n + 1) (elW C T1 (n + 1) (.bin .Add (.nm 13) (.call false (.gl 25) [(.nm 1),(.nm 14)]))) (.nm 26) [] [] [d0,some (.obj 0),d2,d3,d4,d5,d6,d7,d8,d9,d10,d11,d12,some (.p (.int b)),some (.p (.int m)),d15,d16,d17,d18,d19,d20,d21,d22,d23,d24,none,u] none) xs (acc,zE (Zh cells k) (.p .none) vars tolds made++τ) K:=by
 intro xs
 induction xs with
 | nil =>
  intro acc k u _ _ h
  have:=h [] rfl (λ _ m=>nomatch m)
  rw [bW,aP] at this
  exact this
 | cons x xs ih =>
  intro acc k u hk ha h
  rw [aE] at hk ha
  show zM _ _ _ _ _ _ _ _ _ x _ (λ a'=>zH _ xs a' K)
  walk_at "st"
  refine qG L hm (lin [_,_] [] (.v 0) (.k 10000) [(1,.l (.a (.v 0) (.a (.v 1) (.k 1))) (.k 1000))] tT9 hk) Ar λ v v0 v1=>?_
  walk_at "st"
  refine ⟨by exact lin [_,_] [] (.v 0) (.k 100000) [(1,.l (.a (.v 0) (.a (.v 1) (.k 1))) (.k 1000))] tT9 ha,ih _ (k + 1) _ (lin [_,_] [] (.a (.a (.v 0) (.k 1)) (.v 1)) (.k 1000) [(1,.l (.a (.v 0) (.a (.v 1) (.k 1))) (.k 1000))] tT9 hk) (by (erw [ak];erw [aC]);exact lin [_,_] [] (.a (.a (.v 0) (.k 1)) (.v 1)) (.k 1000) [(1,.l (.a (.v 0) (.a (.v 1) (.k 1))) (.k 1000))] tT9 ha) λ vs e hv=>?_⟩
  have:=h ((b + v)::vs) (by (erw [aE];erw [aE];erw [e];rfl)) (λ u m=>by refine ZA m ?_ λ m=>?_;exact ⟨liZ [] [_,_] (.v 0) (.a (.v 0) (.v 1)) [(1,.L (.k 0) (.v 1))] tT9 v0,liZ [] [_,_,_] (.a (.a (.v 0) (.v 1)) (.k 1)) (.a (.v 0) (.v 2)) [(1,.L (.a (.v 1) (.k 1)) (.v 2))] tT9 v1⟩;exact hv u m)
  rw [aE,show k + (xs.length + 1)=k + 1 + xs.length by exact bl (lin [_,_] [] (.a (.v 0) (.a (.v 1) (.k 1))) (.a (.a (.v 0) (.k 1)) (.v 1)) [] tT9) (lin [_,_] [] (.a (.a (.v 0) (.k 1)) (.v 1)) (.a (.v 0) (.a (.v 1) (.k 1))) [] tT9)] at this
  erw [au]
  exact this
theorem Jh {pl:List Th}:∀ {vs:List Int},bY ((vs.filter λ v=>!isT (ZH pl v)).map .int) []=(vs.map (ZH pl)).all isT
 | []=>rfl
 | v::vs=>by
  (erw [cq];erw [aY];erw [lT])
  cases isT (ZH pl v) with
  | true=>exact Jh (vs:=vs)
  | false=>rfl
noncomputable def qk (cells:List Int)(k g:Nat)(ds:List Dd)(hows:List Hw)(pool:List Th):zA:=stt (Zh cells k) (.p .none) (vb0 g) ds++[.idict [],.lst (hows.map Zc),.lst (pool.map enc)]
noncomputable def whT (r:Int):Th:=if r=0 then .tru true else if r=1 then .bit 2 true else if r=2 then .bit 2 false else .tru false
theorem zCq (r0:0<=r)(r4:r<4):((idx 4 r).bind λ j=>[rC true,.tuple [.str "bit",.int 2,.bool true],.tuple [.str "bit",.int 2,.bool false],.bool false][j]?)=some (enc (whT r)):=by
 rcases z4 r0 r4 with rfl | rfl | rfl | rfl <;> rfl
theorem zF8 (r:Int):Wh (whT r):=by
 unfold whT
 split
 ·exact .inl ⟨_,rfl⟩
 ·split
  ·exact .inr ⟨_,rfl⟩
  ·split
   ·exact .inr ⟨_,rfl⟩
   ·exact .inl ⟨_,rfl⟩
theorem zF4 (r:Int):PlT g ds (whT r):=by
 unfold whT
 split
 ·exact uf
 ·split
  ·exact j4
  ·split
   ·exact j4
   ·exact uf
theorem zEt {l:List Int}(r0:0<=r)(r4:r<4)(h:B01 (zB l 2)):yA r (zB l 2)=decide (zC l (whT r)=1):=by
 unfold B01 at h
 rcases z4 r0 r4 with rfl | rfl | rfl | rfl
 ·show true=decide (zC l (.tru true)=1);erw [zc];rfl
 ·show yA 1 _=decide (zC l (.bit 2 true)=1);erw [zb]
  show yA 1 _=decide (zB l 2=1)
  rcases h with h | h <;> erw [h] <;> rfl
 ·show yA 2 _=decide (zC l (.bit 2 false)=1);erw [zb]
  show yA 2 _=decide (1 - zB l 2=1)
  rcases h with h | h <;> erw [h] <;> rfl
 ·show false=decide (zC l (.tru false)=1);erw [zc];rfl
noncomputable def ixB:List St:=match Jd with
 | _::r=>r
 | _=>[]
theorem z3 (h0:0<=r)(h1:r<3):r=0∨r=1∨r=2:=by omega
theorem il4 (h0:0<=w)(h1:w<4):(z5 0 (1 + w)).length<=4/\1<=(z5 0 (1 + w)).length:=by unfold z5;(erw [aj];erw [gr]);omega
theorem zCg {N:Int}(v0:0<=v)(v1:v<3)(hN:8<=N):∃ b m:Int,(0<=b/\0<m/\m<=N/\b + m<=N)/\((idx 3 v).bind λ j=>[bE [.int 0,.int N],.tuple [.int 3,.int 3],.tuple [.int 5,.int 3]][j]?)=some (.tuple [.int b,.int m]):=by
 rcases z3 v0 v1 with rfl | rfl | rfl
 ·exact ⟨0,N,by exact ⟨v0,⟨ai (oD9 rfl) hN,⟨aV _,liZ [] [_] (.a (.k 0) (.v 0)) (.v 0) [] tT9⟩⟩⟩,rfl⟩
 ·exact ⟨3,3,by exact ⟨az _,⟨az _,⟨ai (oD9 rfl) hN,ai (oD9 rfl) hN⟩⟩⟩,rfl⟩
 ·exact ⟨5,3,by exact ⟨az _,⟨v0,⟨ai (oD9 rfl) hN,hN⟩⟩⟩,rfl⟩
theorem WV (L:Law1 C){gi:Int}{s:ab}{v8 u9 u10 u11 u12 u13 u14 u15 u16 u17 u18 u19 u20 u21 u22 u23 u24:Option D}{S:Fl->Rho->zA->Prop}{K:Rho×zA->Prop}(Ar:cells.length<=100)(I:LapI g ds pool hows)(hk:k<=600)(tn:ds.length<=500)(hh:hows.length<=50)
  (hK:∀ (k':Nat) (sU:List Dd) (tJ:List Hw) (tU:List Th) (v8 v9 Ck Ce Cy Cj Ca Cv:Option D),k'<=k + 19->sU.length<=ds.length + 6->tJ.length<=hows.length + 1->LapI g sU tU tJ ->
   K (zx s gi v8 v9 Ck Ce Cy Cj Ca Cv u16 u17 u18 u19 u20 u21 u22 u23 u24,qk cells k' g sU tJ tU)) :
  wpSs C T1 (n + 8) ixB (zx s gi v8 u9 u10 u11 u12 u13 u14 u15 u16 u17 u18 u19 u20 u21 u22 u23 u24) (qk cells k g ds hows pool) λ fl t6 sK=>yB fl (λ d=>S (.ret d) t6 sK) (K (t6,sK)):=by
 unfold ixB Jd b_law zx qk at *
 simp only [cF]
 unfold stt at *
 have tu:∀ ds fd (τ:zA),zE fd (.p .none) (vb0 g++zR 3 ds) ((zN 3 ds).map zJ) (zT 3 ds)++τ=(stt fd (.p .none) (vb0 g) ds++τ):=λ _ _ _=>rfl
 have Cf:(pool.map enc).length=pool.length:=aj ..
 have HC:(hows.map Zc).length=hows.length:=aj ..
 have Bg:=I.len
 have CN:∀ (fd:MO) (vars tolds:List ab) (made:List (Ky×D)) (a b c:MO),(zE fd (.p .none) vars tolds made++[a,b,c])[10]?=some c:=λ _ _ _ _ _ _ _=>rfl
 have Fw:∀ (fd:MO) (vars tolds:List ab) (made:List (Ky×D)) (a b c c':MO),(zE fd (.p .none) vars tolds made++[a,b,c]).set 10 c'=zE fd (.p .none) vars tolds made++[a,b,c']:=λ _ _ _ _ _ _ _ _=>rfl
 have g9:∀ (fd:MO) (vars tolds:List ab) (made:List (Ky×D)) (a b c:MO),(zE fd (.p .none) vars tolds made++[a,b,c])[9]?=some b:=λ _ _ _ _ _ _ _=>rfl
 have s9:∀ (fd:MO) (vars tolds:List ab) (made:List (Ky×D)) (a b c c':MO),(zE fd (.p .none) vars tolds made++[a,b,c]).set 9 c'=zE fd (.p .none) vars tolds made++[a,c',c]:=λ _ _ _ _ _ _ _ _=>rfl
 refine zG ?_
 walk_at "st"
 refine SatCall.up (zCs (n:=n) L (ae hk (nB9 rfl)) Ar I.inv (ae tn (nB9 rfl)) λ r j Bl r0 r4 o1=>?_) (lin [_] [] (.a (.v 0) (.k 6)) (.a (.v 0) (.k 8)) [] tT9)
 have l1:=o1.len
 walk_at "st"
 refine zG ?_
 walk_at "st"
 erw [CN]
 walk_at "st"
 erw [Cf]
 refine ⟨by exact lin [_,_] [] (.v 0) (.k 100000) [(1,.l (.v 1) (.k 50)),(1,.e (.v 0) (.a (.k 8) (.v 1)))] tT9 hh Bg,qG L (by decide) (lin [_] [] (.a (.v 0) (.k 1)) (.k 10000) [(1,.l (.v 0) (.k 600))] tT9 hk) Ar λ v v0 v1=>?_⟩
 walk_at "st"
 refine ⟨by exact ⟨ai (oD9 rfl) v0,c5 v1 (oD9 rfl)⟩,?_⟩
 (refine Eeea (zCg v0 v1 (N:=pool.length) (liZ [_,_] [] (.k 8) (.c (.v 0)) [(-1,.e (.v 0) (.a (.k 8) (.v 1)))] (by kernel_rfl) Bg)) λ b m Ao=>?_;(refine Z0 (Ao) λ b0 m0 m1 bm=>?_;try clear Ao);intro e)
 erw [e]
 walk_at "go"
 refine qG L (by decide) (lin [_] [] (.a (.a (.v 0) (.k 1)) (.k 1)) (.k 10000) [(1,.l (.v 0) (.k 600))] tT9 hk) Ar λ w w0 w1=>?_
 walk_at "st"
 have As:=il4 w0 w1
 refine ⟨by exact ⟨liZ [] [_] (.k (-4611686018427387904)) (.a (.k 1) (.v 0)) [(1,.L (.k 0) (.v 0))] tT9 w0,liZ [] [_] (.a (.a (.k 1) (.v 0)) (.k 1)) (.k 4611686018427387904) [(1,.L (.a (.v 0) (.k 1)) (.k 4))] tT9 w1⟩,ae As.1 (nB9 rfl),Ux L Ar ⟨m0,by exact liZ [_,_] [_] (.v 0) (.k 1000) [(1,.l (.v 0) (.k 50)),(1,.e (.v 1) (.a (.k 8) (.v 0))),(1,.L (.v 0) (.c (.v 1)))] tT9 hh Bg m1⟩ _ [] _ _ (by exact lin [_,_] [] (.a (.a (.a (.a (.v 0) (.k 1)) (.k 1)) (.k 1)) (.v 1)) (.k 1000) [(1,.l (.v 0) (.k 600)),(1,.l (.v 1) (.k 4))] tT9 hk As.1) (by simp;exact ae As.1 (nB9 rfl)) λ vs AA D0=>?_⟩
 generalize (z5 0 (1 + w)).length=N at As AA
 erw [bP]
 unfold zW
 walk_at "go"
 have hv:∀ v,v∈vs->0<=v/\v<(pool.length:Int):=λ v mv=>by have:=D0 v mv;exact ⟨liZ [] [_,_] (.k 0) (.v 0) [(1,.L (.k 0) (.v 1)),(1,.L (.v 1) (.v 0))] tT9 b0 this.1,liZ [_] [_,_,_] (.a (.v 0) (.k 1)) (.c (.v 0)) [(1,.L (.a (.v 1) (.v 2)) (.c (.v 0))),(1,.L (.a (.v 0) (.k 1)) (.a (.v 1) (.v 2)))] tT9 bm this.2⟩
 refine ⟨by erw [aj];exact lin [_,_] [] (.v 0) (.k 100000) [(1,.l (.v 1) (.k 4)),(1,.e (.v 0) (.v 1))] tT9 As.1 AA,qX (f:=.int) (h:=λ v=>enc (ZH pool v)) vs [] (by simp;exact lin [_,_] [] (.v 0) (.k 90000) [(1,.l (.v 1) (.k 4)),(1,.e (.v 0) (.v 1))] tT9 As.1 AA) (λ v m acc K ha k=>?_) ?_⟩
 ·have:=hv v m
  walk_at "st"
  erw [CN]
  walk_at "st"
  erw [jq this.1 this.2]
  walk_at "st"
  exact ⟨by exact ⟨ai (oD9 rfl) this.1,liZ [_,_] [_] (.a (.v 0) (.k 1)) (.k 9223372036854775808) [(1,.l (.v 0) (.k 50)),(1,.e (.v 1) (.a (.k 8) (.v 0))),(1,.L (.a (.v 0) (.k 1)) (.c (.v 1)))] tT9 hh Bg this.2⟩,ha,k⟩
 rw [show (vs.map λ v=>enc (ZH pool v))=(vs.map (ZH pool)).map enc from by rw [bF];rfl]
 erw [bP]
 have F9:∀ u,u∈vs.map (ZH pool)->PlT g ds u:=λ u mu=>by
  (refine Eea (aU.mp mu) λ v mv Bh=>?_;obtain rfl:=Bh)
  have:=hv v mv
  exact I.pl _ (jD this.1 this.2)
 have AK:(vs.map (ZH pool)).length<=4/\1<=(vs.map (ZH pool)).length:=by erw [aj];exact ⟨lin [_,_] [] (.v 0) (.k 4) [(1,.l (.v 1) (.k 4)),(1,.e (.v 0) (.v 1))] tT9 As.1 AA,lin [_,_] [] (.k 1) (.v 0) [(1,.l (.k 1) (.v 1)),(-1,.e (.v 0) (.v 1))] (by kernel_rfl) As.2 AA⟩
 unfold zW
 walk_at "st"
 have hj:=(o1.tg.mem (j,1) (.head _)).1.2
 dsimp only at hj
 refine SatCall.up (Uq (n:=n) L (k:=j) (ts:=vs.map (ZH pool)) o1.inv (lin [_,_] [] (.v 0) (.k 800) [(1,.l (.v 1) (.k 500)),(1,.l (.v 0) (.a (.v 1) (.k 1)))] tT9 tn l1) (lin [_,_] [] (.a (.v 0) (.k 1)) (.a (.k 3) (.v 1)) [(1,.L (.a (.c (.v 0)) (.k 1)) (.c (.a (.k 3) (.v 1))))] tT9 hj) (λ h=>by rw [h] at AK;exact absurd AK.2 (by decide)) AK.1 (λ u mu=>o1.near (F9 u mu).near) λ t' BS o tt nt=>?_) (lin [_] [] (.a (.v 0) (.k 6)) (.a (.v 0) (.k 8)) [] tT9)
 have l2:=o.len
 walk_at "go"
 refine Qw L ?_
 walk_at "go"
 refine ⟨by erw [aj];exact lin [_,_] [] (.v 0) (.k 100000) [(1,.l (.v 1) (.k 4)),(1,.e (.v 0) (.v 1))] tT9 As.1 AA,yU (f:=.int) (h:=.int) (p:=λ v=>!isT (ZH pool v)) vs [] (by simp;exact lin [_,_] [] (.v 0) (.k 90000) [(1,.l (.v 1) (.k 4)),(1,.e (.v 0) (.v 1))] tT9 As.1 AA) (λ v m acc K ha k1 k0=>?_) ?_⟩
 ·have:=hv v m
  walk_at "st"
  erw [CN]
  walk_at "st"
  erw [jq this.1 this.2]
  walk_at "st"
  refine ⟨by exact ⟨ai (oD9 rfl) this.1,liZ [_,_] [_] (.a (.v 0) (.k 1)) (.k 9223372036854775808) [(1,.l (.v 0) (.k 50)),(1,.e (.v 1) (.a (.k 8) (.v 0))),(1,.L (.a (.v 0) (.k 1)) (.c (.v 1)))] tT9 hh Bg this.2⟩,Qw L ?_⟩
  cases hb:isT (ZH pool v) with
  | true=>walk_at "st";exact k0 (by erw [hb];rfl)
  | false=>walk_at "st";exact ⟨ha,k1 (by erw [hb];rfl)⟩
 erw [bP]
 unfold zW
 walk_at "st"
 (erw [Jh];refine rwS tt ?_)
 walk_at "go"
 erw [CN]
 walk_at "st"
 (erw [Cf];erw [Fw])
 refine ⟨by exact lin [_,_] [] (.v 0) (.k 100000) [(1,.l (.v 1) (.k 50)),(1,.e (.v 0) (.a (.k 8) (.v 1)))] tT9 hh Bg,?_⟩
 walk_at "go"
 erw [g9]
 walk_at "st"
 (erw [HC];erw [s9])
 refine ⟨by exact ae hh (nB9 rfl),?_⟩
 walk_at "go"
 have hw:∀ (l Y:List Int),l.length=3 + ds.length->(vs.map (ZH pool)).map (zC (l++Y))=(vs.map (ZH pool)).map (zC l):=λ l Y hl=>bZ λ u mu=>(F9 u mu).near.tg.app_worth hl
 have oo:Yld g ds BS 6 (λ l=>zQ ((vs.map (ZH pool)).map (zC l)) (qB r l)) t':=by
  refine Ee (o1.pre) λ X e1=>?_
  refine Ee (o.pre) λ Z e2=>?_
  refine ⟨o.inv,⟨X++Z,by (erw [e2];erw [e1];erw [au];rfl)⟩,by exact lin [_,_,_] [] (.v 0) (.a (.v 1) (.k 6)) [(1,.l (.v 2) (.a (.v 1) (.k 1))),(1,.l (.v 0) (.a (.v 2) (.k 5)))] tT9 l1 l2,o.tg,λ row hr l hl=>?_⟩
  refine Eea ((o1.run row hr l hl).1 _ rfl) λ Y h1 h2=>?_
  rw [ZU] at h2
  refine Ea (o.run row hr _ h1) λ h3 h4=>?_
  rw [h2,hw l Y (I.inv.at hr hl).1] at h3 h4
  refine ⟨λ w hw=>?_,h4⟩
  refine Eea (h3 w hw) λ W h5 h6=>?_
  exact ⟨Y++W,by refine rwS (au ..) ?_;exact h5,by refine rwS (au ..) ?_;exact h6⟩
 have EK:∀ row,BR g row->∀ l,run row ds=some l->zQ ((vs.map (ZH pool)).map (zC l)) (qB r l)=ZS (pool.map (zC l)) row (.ix r vs):=λ row hr l hl=>by
  show _=zQ (vs.map (atW (pool.map (zC l)))) (qB r row)
  (erw [(ua hr hl r).1];erw [bF])
  congr 1
  exact bZ λ v mv=>(jA (hv v mv).1 (hv v mv).2).symm
 have Ki:isT t'=true->Tr g BS t':=λ ht=>oo.trT λ row hr l hl v Kg=>by
  rw [tt] at ht
  have:=qv Kg
  (refine Eea (aU.mp this) λ u mu AY=>?_;obtain rfl:=AY)
  exact (F9 u mu).tr (bR.mp ht u mu) row hr l hl
 have go:=hK (k + 1 + 1 + 1 + N) BS (hows++[.ix r vs]) (pool++[t']) v8 (some (.p (.int r))) (some (.p (.list (vs.map .int)))) u11 (some (.p (.int j))) (some (.p (.int b))) (some (.p (.int m))) (some (.p (enc t'))) (by exact lin [_,_] [] (.a (.a (.a (.a (.v 0) (.k 1)) (.k 1)) (.k 1)) (.v 1)) (.a (.v 0) (.k 19)) [(1,.l (.v 1) (.k 4))] tT9 As.1) (lin [_,_,_] [] (.v 0) (.a (.v 1) (.k 6)) [(1,.l (.v 2) (.a (.v 1) (.k 1))),(1,.l (.v 0) (.a (.v 2) (.k 5)))] tT9 l1 l2) (by erw [ak];exact bn _) (I.snoc oo ⟨nt,Ki⟩ (show HwOk pool.length (.ix r vs) from ⟨hv,by show vs.length<=10;exact lin [_,_] [] (.v 0) (.k 10) [(1,.l (.v 1) (.k 4)),(1,.e (.v 0) (.v 1))] tT9 As.1 AA,r0,r4⟩) EK)
 rw [aT,aT] at go
 exact go
theorem VQ (L:Law1 C){gi:Int}{s:ab}{x:ab}{u8 u9 u10 u11 u12 u13 u14 u15 u16 u17 u18 u19 u20 u21 u22 u23 u24:Option D}{S:Fl->Rho->zA->Prop}{K:Rho×zA->Prop}(Ar:cells.length<=100)(I:LapI g ds pool hows)(hk:k<=500)(tn:ds.length<=500)(hh:hows.length<=50)
  (hK:∀ (k':Nat) (sU:List Dd) (tJ:List Hw) (tU:List Th) (v8 v9 Ck Ce Cy Cj Ca Cv:Option D),k'<=k + 20->sU.length<=ds.length + 6->tJ.length<=hows.length + 1->LapI g sU tU tJ ->
   K (zx s gi v8 v9 Ck Ce Cy Cj Ca Cv u16 u17 u18 u19 u20 u21 u22 u23 u24,qk cells k' g sU tJ tU)) :
  zK C T1 (n + 8) (.nm 8) Jd none S x (zx s gi u8 u9 u10 u11 u12 u13 u14 u15 u16 u17 u18 u19 u20 u21 u22 u23 u24,qk cells k g ds hows pool) K:=by
 have hix:=WV (n:=n) (S:=S) (K:=K) (v8:=some (.p x)) (u9:=u9) (u10:=u10) (u11:=u11) (u12:=u12) (u13:=u13) (u14:=u14) (u15:=u15) (k:=k + 1) L Ar I (lin [_] [] (.a (.v 0) (.k 1)) (.k 600) [(1,.l (.v 0) (.k 500))] tT9 hk) tn hh λ k' sU tJ tU v8 v9 Ck Ce Cy Cj Ca Cv e1 e2 e3=>hK k' sU tJ tU v8 v9 Ck Ce Cy Cj Ca Cv (e1) e2 e3
 unfold ixB at hix
 unfold Jd b_law zx qk at *
 simp only [cF]
 unfold stt at *
 have tu:∀ ds fd (τ:zA),zE fd (.p .none) (vb0 g++zR 3 ds) ((zN 3 ds).map zJ) (zT 3 ds)++τ=(stt fd (.p .none) (vb0 g) ds++τ):=λ _ _ _=>rfl
 walk_at "st"
 refine zG ?_
 walk_at "st"
 refine qG L (by decide) (ae hk (nB9 rfl)) Ar λ v0 a0 b0=>?_
 walk_at "st"
 refine YC (λ h=>?_) (λ h=>?_)
 ·refine zG ?_
  walk_at "st"
  refine qG L (by decide) (lin [_] [] (.a (.v 0) (.k 1)) (.k 10000) [(1,.l (.v 0) (.k 500))] tT9 hk) Ar λ r r0 r4=>?_
  walk_at "st"
  have Cf:(pool.map enc).length=pool.length:=aj ..
  have Bg:=I.len
  have CN:∀ (fd:MO) (vars tolds:List ab) (made:List (Ky×D)) (a b c:MO),(zE fd (.p .none) vars tolds made++[a,b,c])[10]?=some c:=λ _ _ _ _ _ _ _=>rfl
  have Fw:∀ (fd:MO) (vars tolds:List ab) (made:List (Ky×D)) (a b c c':MO),(zE fd (.p .none) vars tolds made++[a,b,c]).set 10 c'=zE fd (.p .none) vars tolds made++[a,b,c']:=λ _ _ _ _ _ _ _ _=>rfl
  have g9:∀ (fd:MO) (vars tolds:List ab) (made:List (Ky×D)) (a b c:MO),(zE fd (.p .none) vars tolds made++[a,b,c])[9]?=some b:=λ _ _ _ _ _ _ _=>rfl
  have s9:∀ (fd:MO) (vars tolds:List ab) (made:List (Ky×D)) (a b c c':MO),(zE fd (.p .none) vars tolds made++[a,b,c]).set 9 c'=zE fd (.p .none) vars tolds made++[a,c',c]:=λ _ _ _ _ _ _ _ _=>rfl
  refine zG ?_
  walk_at "st"
  erw [CN]
  walk_at "st"
  erw [Cf]
  refine ⟨by exact lin [_,_] [] (.v 0) (.k 100000) [(1,.l (.v 1) (.k 50)),(1,.e (.v 0) (.a (.k 8) (.v 1)))] tT9 hh Bg,qG L (⟨liZ [_,_] [] (.a (.k 0) (.k 1)) (.c (.v 0)) [(-1,.e (.v 0) (.a (.k 8) (.v 1)))] (by kernel_rfl) Bg,liZ [_,_] [] (.c (.v 0)) (.k 1000) [(1,.l (.v 1) (.k 50)),(1,.e (.v 0) (.a (.k 8) (.v 1)))] tT9 hh Bg⟩) (lin [_] [] (.a (.a (.v 0) (.k 1)) (.k 1)) (.k 10000) [(1,.l (.v 0) (.k 500))] tT9 hk) Ar λ i i0 i1=>?_⟩
  erw [CN]
  walk_at "st"
  erw [Cf]
  refine ⟨by exact lin [_,_] [] (.v 0) (.k 100000) [(1,.l (.v 1) (.k 50)),(1,.e (.v 0) (.a (.k 8) (.v 1)))] tT9 hh Bg,qG L (⟨liZ [_,_] [] (.a (.k 0) (.k 1)) (.c (.v 0)) [(-1,.e (.v 0) (.a (.k 8) (.v 1)))] (by kernel_rfl) Bg,liZ [_,_] [] (.c (.v 0)) (.k 1000) [(1,.l (.v 1) (.k 50)),(1,.e (.v 0) (.a (.k 8) (.v 1)))] tT9 hh Bg⟩) (lin [_] [] (.a (.a (.a (.v 0) (.k 1)) (.k 1)) (.k 1)) (.k 10000) [(1,.l (.v 0) (.k 500))] tT9 hk) Ar λ j j0 j1=>?_⟩
  walk_at "st"
  refine zG ?_
  walk_at "st"
  erw [zCq r0 r4]
  refine ⟨by exact ⟨ai (oD9 rfl) r0,c5 r4 (oD9 rfl)⟩,?_⟩
  show wpSs C T1 (n + 8) _ _ _ _
  refine zG ?_
  walk_at "st"
  erw [CN]
  walk_at "st"
  erw [jq i0 i1]
  refine ⟨by exact ⟨ai (oD9 rfl) i0,liZ [_,_] [_] (.a (.v 0) (.k 1)) (.k 9223372036854775808) [(1,.l (.v 0) (.k 50)),(1,.e (.v 1) (.a (.k 8) (.v 0))),(1,.L (.a (.v 0) (.k 1)) (.c (.v 1)))] tT9 hh Bg i1⟩,?_⟩
  walk_at "st"
  walk_at "st"
  erw [jq j0 j1]
  refine ⟨by exact ⟨ai (oD9 rfl) j0,liZ [_,_] [_] (.a (.v 0) (.k 1)) (.k 9223372036854775808) [(1,.l (.v 0) (.k 50)),(1,.e (.v 1) (.a (.k 8) (.v 0))),(1,.L (.a (.v 0) (.k 1)) (.c (.v 1)))] tT9 hh Bg j1⟩,?_⟩
  have mi:=jD i0 i1
  have mj:=jD j0 j1
  walk_at "st"
  refine SatCall.up (zAe (n:=n) L (zF8 r) I.inv (ae tn (nB9 rfl)) (zF4 r) (I.pl _ mi) (I.pl _ mj) λ t' sU o pt=>?_) (lin [_] [] (.a (.v 0) (.k 7)) (.a (.v 0) (.k 8)) [] tT9)
  have lo:=o.len
  walk_at "st"
  simp only [CN,Fw]
  walk_at "st"
  erw [Cf]
  refine ⟨by exact lin [_,_] [] (.v 0) (.k 100000) [(1,.l (.v 1) (.k 50)),(1,.e (.v 0) (.a (.k 8) (.v 1)))] tT9 hh Bg,?_⟩
  erw [Fw]
  walk_at "go"
  erw [g9]
  walk_at "st"
  erw [s9]
  have HC:(hows.map Zc).length=hows.length:=aj ..
  erw [HC]
  refine ⟨by exact ae hh (nB9 rfl),?_⟩
  walk_at "go"
  have go:=hK (k + 1 + 1 + 1 + 1) sU (hows++[.ei r i j]) (pool++[t']) (some (.p x)) (some (.p (.int r))) (some (.p (.list [.int i,.int j]))) (some (.p (enc (whT r)))) u12 u13 u14 u15 (by exact lin [_] [] (.a (.a (.a (.a (.v 0) (.k 1)) (.k 1)) (.k 1)) (.k 1)) (.a (.v 0) (.k 20)) [] tT9) (lo) (by erw [ak];exact bn _) (I.snoc o pt (show HwOk pool.length (.ei r i j) from ⟨λ v m=>?_,(by decide:2<=10),r0,r4⟩) λ row hr l hl=>?_)
  ·rw [aT,aT] at go
   exact go
  ·refine ZA m ?_ λ m=>?_
   ·exact ⟨i0,i1⟩
   ·refine zZ m ?_;exact ⟨j0,j1⟩
  ·show some _=some (atW (pool.map (zC l)) (bif yA r (zB row 2) then i else j))
   congr 1
   (refine rwS ((ua hr hl 0).2) ?_;erw [zEt r0 r4 (VX hr hl)])
   by_cases hw:zC l (whT r)=1
   ·(erw [if_pos hw];erw [decide_eq_true hw]);exact (jA i0 i1).symm
   ·(erw [if_neg hw];erw [decide_eq_false hw]);exact (jA j0 j1).symm
 ·exact hix
end
section
variable {C:Cx}{n:Nat}{Q:D->zA->Prop}
theorem zGo (L:Law1 C){gi:Int}{g:Nat}{s:ab}{u16 u17 u18 u19 u20 u21 u22 u23 u24:Option D}{S:Fl->Rho->zA->Prop}{K:Rho×zA->Prop}(Ar:cells.length<=100) :
  ∀ (xs:List ab) (k:Nat) (ds:List Dd) (hows:List Hw) (pool:List Th) (u8 u9 u10 u11 u12 u13 u14 u15:Option D),k + 20 * xs.length<=500->ds.length + 6 * xs.length<=500->hows.length + xs.length<=50->LapI g ds pool hows ->
  (∀ (k':Nat) (sU:List Dd) (tJ:List Hw) (tU:List Th) (v8 v9 Ck Ce Cy Cj Ca Cv:Option D),k'<=500->sU.length<=500->tJ.length<=50->LapI g sU tU tJ ->
   K (zx s gi v8 v9 Ck Ce Cy Cj Ca Cv u16 u17 u18 u19 u20 u21 u22 u23 u24,qk cells k' g sU tJ tU)) ->
  zH (zK C T1 (n + 8) (.nm 8) Jd none S) xs (zx s gi u8 u9 u10 u11 u12 u13 u14 u15 u16 u17 u18 u19 u20 u21 u22 u23 u24,qk cells k g ds hows pool) K:=by
 intro xs
 induction xs with
 | nil =>
  intro k ds hows pool u8 u9 u10 u11 u12 u13 u14 u15 h1 h2 h3 I hK
  exact hK k ds hows pool _ _ _ _ _ _ _ _ (by exact h1) (by exact h2) (by exact h3) I
 | cons x xs ih =>
  intro k ds hows pool u8 u9 u10 u11 u12 u13 u14 u15 h1 h2 h3 I hK
  rw [aE] at h1 h2 h3
  show zK _ _ _ _ _ _ _ x _ (λ a'=>zH _ xs a' K)
  refine VQ L Ar I (by exact ae (aH _ _) h1) (by exact ae (aH _ _) h2) (by exact ae (aH _ _) h3) λ k' sU tJ tU v8 v9 Ck Ce Cy Cj Ca Cv e1 e2 e3 I'=>?_
  exact ih k' sU tJ tU _ _ _ _ _ _ _ _ (by exact lin [_,_,_] [] (.a (.v 0) (.m 20 (.v 1))) (.k 500) [(1,.l (.a (.v 2) (.m 20 (.a (.v 1) (.k 1)))) (.k 500)),(1,.l (.v 0) (.a (.v 2) (.k 20)))] tT9 h1 e1) (by exact lin [_,_,_] [] (.a (.v 0) (.m 6 (.v 1))) (.k 500) [(1,.l (.a (.v 2) (.m 6 (.a (.v 1) (.k 1)))) (.k 500)),(1,.l (.v 0) (.a (.v 2) (.k 6)))] tT9 h2 e2) (by exact lin [_,_,_] [] (.a (.v 0) (.v 1)) (.k 50) [(1,.l (.a (.v 2) (.a (.v 1) (.k 1))) (.k 50)),(1,.l (.v 0) (.a (.v 2) (.k 1)))] tT9 h3 e3) I' hK
end
noncomputable def QW:List St:=match b_law.drop 8 with
 | .for _ _ b::_=>b
 | _=>[]
theorem i11 :11 + i - 8=i + 3:=by erw [fk];rfl
theorem Jt {l:List Int}{k:Int}(h:∀ v,v∈l->0<=v/\v<=k)(hk:k∈l)(k0:0<=k):ze (-1) l=k:=by
 have h1:=Jr (l:=l) (a:=-1)
 have h2:=h1.1.2 k hk
 rcases h1.2 with e | m
 ·exact aO (liZ [] [_,_] (.v 0) (.v 1) [(1,.L (.k 0) (.v 1)),(1,.E (.v 0) (.k (-1)))] (by kernel_rfl) k0 e) (h2)
 ·have:=h _ m;exact aO (this.2) (h2)
theorem zFM {es:List (Int×D)}{k:Int}{d d':D}{Q:D->zA->Prop}:jn i es k d σ Q (some d')=Q d' σ:=rfl
def LateX (X:zA)(es:List (Int×D))(p:Int)(tl:List Td):Prop:=(zP p es=none/\tl=[])∨∃ i,zP p es=some (.obj (11 + i))/\X[i]?=some (.lst (tl.map zJ))
section
variable {C:Cx}{n:Nat}{fd:MO}{pt:D}{vars tolds:List ab}{made:List (Ky×D)}{a b:MO}{d0 d1 d2 d4 d5 d6 d7 d8 d9 d10 d11 d12 d13 d14 d15 d17 d18 d19 d20 d21 d22 d23 d24:Option D}{S:Fl->Rho->zA->Prop}{K:Rho×zA->Prop}{k:Nat}{t:Td}{es:List (Int×D)}{X:zA}
theorem wD (L:Law1 C){u16:Option D}(hv:∀ v,v∈zi t->0<=v/\v<=(k:Int))(D9:(k:Int)∈zi t)(hf:(zi t).length<=20)(hk:k<=900)(AR:es.length<=1000)(hn:zP (k:Int) es=none)
  (h:∀ A7,K ([d0,d1,d2,some (.obj 8),d4,d5,d6,d7,d8,d9,d10,d11,d12,d13,d14,d15,A7,d17,d18,d19,d20,d21,d22,d23,d24],zE fd pt vars tolds made++.idict (es++[((k:Int),.obj (11 + X.length))])::a::b::(X++[.lst [zJ t]]))) :
  zK C T1 (n + 1) (.nm 16) QW (some (6,tolds)) S (zJ t) ([d0,d1,d2,some (.obj 8),d4,d5,d6,d7,d8,d9,d10,d11,d12,d13,d14,d15,u16,d17,d18,d19,d20,d21,d22,d23,d24],zE fd pt vars tolds made++.idict es::a::b::X) K:=by
 unfold QW b_law
 simp only [cF]
 have h8:∀ (es:List (Int×D)) (Y:zA),(zE fd pt vars tolds made++.idict es::a::b::Y)[8]?=some (.idict es):=λ _ _=>rfl
 walk_at "st"
 refine zG ?_
 walk_at "st"
 erw [h8]
 refine xn L hf ?_
 have hm:ze (-1) (zi t)=k:=Jt hv D9 (by exact az _)
 have hlen:(zE fd pt vars tolds made++.idict es::a::b::X).length=11 + X.length:=by erw [ZY];erw [aE];exact bl (lin [_] [] (.a (.k 8) (.a (.a (.a (.v 0) (.k 1)) (.k 1)) (.k 1))) (.a (.k 11) (.v 0)) [] tT9) (lin [_] [] (.a (.k 11) (.v 0)) (.a (.k 8) (.a (.a (.a (.v 0) (.k 1)) (.k 1)) (.k 1))) [] tT9)
 have BW:∀ (m y:MO),zE fd pt vars tolds made++m::a::b::X++[y]=zE fd pt vars tolds made++m::a::b::(X++[y]):=λ m y=>by simp
 have s8:∀ (m m':MO) (Y:zA),(zE fd pt vars tolds made++m::a::b::Y).set 8 m'=zE fd pt vars tolds made++m'::a::b::Y:=λ _ _ _=>rfl
 have gN:∀ m y:MO,(zE fd pt vars tolds made++m::a::b::(X++[y]))[11 + X.length]?=some y:=λ m y=>by
  have e3:(zE fd pt vars tolds made++m::a::b::X).length=11 + X.length:=by rw [ZY];erw [aE];exact bl (lin [_] [] (.a (.k 8) (.a (.a (.a (.v 0) (.k 1)) (.k 1)) (.k 1))) (.a (.k 11) (.v 0)) [] tT9) (lin [_] [] (.a (.k 11) (.v 0)) (.a (.k 8) (.a (.a (.a (.v 0) (.k 1)) (.k 1)) (.k 1))) [] tT9)
  rw [<- BW,<- e3,aX]
 have sN:∀ m y z:MO,(zE fd pt vars tolds made++m::a::b::(X++[y])).set (11 + X.length) z=zE fd pt vars tolds made++m::a::b::(X++[z]):=λ m y z=>by
  have e3:(zE fd pt vars tolds made++m::a::b::X).length=11 + X.length:=by rw [ZY];erw [aE];exact bl (lin [_] [] (.a (.k 8) (.a (.a (.a (.v 0) (.k 1)) (.k 1)) (.k 1))) (.a (.k 11) (.v 0)) [] tT9) (lin [_] [] (.a (.k 11) (.v 0)) (.a (.k 8) (.a (.a (.a (.v 0) (.k 1)) (.k 1)) (.k 1))) [] tT9)
  rw [<- BW,<- BW,<- e3,qo]
 have g6:∀ (m:MO) (Y:zA),(zE fd pt vars tolds made++m::a::b::Y)[6]?=some (.lst tolds):=λ _ _=>rfl
 erw [hlen]
 erw [BW]
 walk_at "st"
 simp only [ZV]
 walk_at "st"
 erw [h8]
 walk_at "st"
 simp only [hm,hn,zFE,s8]
 walk_at "st"
 erw [gN]
 walk_at "st"
 simp only [sN,g6]
 walk_at "st"
 exact ⟨by erw [aj];exact lin [_] [] (.a (.k 1) (.v 0)) (.k 100000) [(1,.l (.v 0) (.k 20))] tT9 hf,by exact ae AR (nB9 rfl),h _⟩
theorem Wm (L:Law1 C){u16:Option D}(hv:∀ v,v∈zi t->0<=v/\v<=(k:Int))(D9:(k:Int)∈zi t)(hf:(zi t).length<=20)(hk:k<=900)(AR:es.length<=1000)(hn:zP (k:Int) es=some (.obj (11 + i)))(hi:X[i]?=some (.lst xs))(Ev:xs.length<=1000)
  (h:∀ A7,K ([d0,d1,d2,some (.obj 8),d4,d5,d6,d7,d8,d9,d10,d11,d12,d13,d14,d15,A7,d17,d18,d19,d20,d21,d22,d23,d24],zE fd pt vars tolds made++.idict es::a::b::((X++[MO.lst []]).set i (MO.lst (xs++[zJ t]))))) :
  zK C T1 (n + 1) (.nm 16) QW (some (6,tolds)) S (zJ t) ([d0,d1,d2,some (.obj 8),d4,d5,d6,d7,d8,d9,d10,d11,d12,d13,d14,d15,u16,d17,d18,d19,d20,d21,d22,d23,d24],zE fd pt vars tolds made++.idict es::a::b::X) K:=by
 unfold QW b_law
 simp only [cF]
 have h8:∀ (es:List (Int×D)) (Y:zA),(zE fd pt vars tolds made++.idict es::a::b::Y)[8]?=some (.idict es):=λ _ _=>rfl
 walk_at "st"
 refine zG ?_
 walk_at "st"
 erw [h8]
 refine xn L hf ?_
 have hm:ze (-1) (zi t)=k:=Jt hv D9 (by exact az _)
 have hlen:(zE fd pt vars tolds made++.idict es::a::b::X).length=11 + X.length:=by erw [ZY];erw [aE];exact bl (lin [_] [] (.a (.k 8) (.a (.a (.a (.v 0) (.k 1)) (.k 1)) (.k 1))) (.a (.k 11) (.v 0)) [] tT9) (lin [_] [] (.a (.k 11) (.v 0)) (.a (.k 8) (.a (.a (.a (.v 0) (.k 1)) (.k 1)) (.k 1))) [] tT9)
 have BW:∀ (m y:MO),zE fd pt vars tolds made++m::a::b::X++[y]=zE fd pt vars tolds made++m::a::b::(X++[y]):=λ m y=>by simp
 have s8:∀ (m m':MO) (Y:zA),(zE fd pt vars tolds made++m::a::b::Y).set 8 m'=zE fd pt vars tolds made++m'::a::b::Y:=λ _ _ _=>rfl
 have As:=(av.mp hi).1
 have gN:∀ m y:MO,(zE fd pt vars tolds made++m::a::b::(X++[y]))[11 + i]?=some (.lst xs):=λ m y=>by
  (erw [jo (by exact lin [_] [] (.k 8) (.a (.k 11) (.v 0)) [] tT9)];erw [i11])
  show (X++[y])[i]?=_
  erw [aB As];exact hi
 have sN:∀ (m z:MO) (Y:zA),(zE fd pt vars tolds made++m::a::b::Y).set (11 + i) z=zE fd pt vars tolds made++m::a::b::(Y.set i z):=λ m z Y=>by
  erw [io _ _ (by show 8<=_;exact lin [_] [] (.k 8) (.a (.k 11) (.v 0)) [] tT9)]
  congr 1
  refine rwE (show 11 + i - (zE fd pt vars tolds made).length=i + 3 from i11) ?_;rfl
 have g6:∀ (m:MO) (Y:zA),(zE fd pt vars tolds made++m::a::b::Y)[6]?=some (.lst tolds):=λ _ _=>rfl
 erw [hlen]
 erw [BW]
 walk_at "st"
 simp only [ZV]
 walk_at "st"
 erw [h8]
 walk_at "st"
 simp only [hm,hn,zFM]
 walk_at "st"
 erw [gN]
 walk_at "st"
 simp only [sN,g6]
 walk_at "st"
 exact ⟨by erw [aj];exact lin [_] [] (.a (.k 1) (.v 0)) (.k 100000) [(1,.l (.v 0) (.k 20))] tT9 hf,by exact ae AR (nB9 rfl),by exact ae Ev (nB9 rfl),h _⟩
theorem vK (L:Law1 C)(hk:k<=900)(AR:es.length<=1000)(hn:zP (k:Int) es=some (.obj (11 + i))) :
  ∀ (tl dn:List Td) (X:zA) (u16:Option D),(∀ t,t∈tl->(∀ v,v∈zi t->0<=v/\v<=(k:Int))/\(k:Int)∈zi t/\(zi t).length<=20)->dn.length + tl.length<=1000->X[i]?=some (.lst (dn.map zJ)) ->
  (∀ A7 X',X'[i]?=some (.lst ((dn++tl).map zJ))->(∀ (j:Nat) (mo:MO),j≠i->X[j]?=some mo->X'[j]?=some mo)->K ([d0,d1,d2,some (.obj 8),d4,d5,d6,d7,d8,d9,d10,d11,d12,d13,d14,d15,A7,d17,d18,d19,d20,d21,d22,d23,d24],zE fd pt vars tolds made++.idict es::a::b::X')) ->
  zH (zK C T1 (n + 1) (.nm 16) QW (some (6,tolds)) S) (tl.map zJ) ([d0,d1,d2,some (.obj 8),d4,d5,d6,d7,d8,d9,d10,d11,d12,d13,d14,d15,u16,d17,d18,d19,d20,d21,d22,d23,d24],zE fd pt vars tolds made++.idict es::a::b::X) K:=by
 intro tl
 induction tl with
 | nil =>
  intro dn X u16 _ _ hi h
  exact h u16 X (by erw [aP];exact hi) λ j mo _ e=>e
 | cons t tl ih =>
  intro dn X u16 ht hl hi h
  rw [aE] at hl
  refine Eaa (ht t (.head _)) λ t1 t2 t3=>?_
  show zK _ _ _ _ _ _ _ (zJ t) _ (λ a'=>zH _ (tl.map zJ) a' K)
  have As:=(av.mp hi).1
  refine Wm L t1 t2 t3 hk AR hn hi (by erw [aj];exact ae (aH _ _) hl) λ A7=>?_
  refine ih (dn++[t]) _ A7 (λ u m=>ht u (.tail _ m)) (by (erw [ak];erw [aC]);exact lin [_,_] [] (.a (.a (.v 0) (.k 1)) (.v 1)) (.k 1000) [(1,.l (.a (.v 0) (.a (.v 1) (.k 1))) (.k 1000))] tT9 hl) ?_ λ Fs X' h1 h2=>?_
  ·rw [fu (by rw [ak];exact ko As),aT];rfl
  ·refine h Fs X' (by (erw [h1];erw [au]);rfl) λ j mo hj e=>h2 j mo hj ?_
   (erw [dq (iO hj)];erw [aB (av.mp e).1]);exact e
theorem j7 {q:Int}{d:D}{es:List (Int×D)}:zP p (es++[(q,d)])=(match zP p es with | some x=>some x | none=>if q=p then some d else none):=by
 unfold zP
 erw [oJ]
 cases h:es.find? (λ x=>decide (x.1=p)) with
 | some x=>rfl
 | none =>
  by_cases hq:q=p
  ·simp [hq]
  ·simp [hq]
theorem Vv (L:Law1 C)(hk:k<=900)(AR:es.length<=900){u16:Option D}(ht:∀ t,t∈tl->(∀ v,v∈zi t->0<=v/\v<=(k:Int))/\(k:Int)∈zi t/\(zi t).length<=20)(hl:tl.length<=100)(hn:zP (k:Int) es=none)
  (h:∀ A7 es' X',LateX X' es' (k:Int) tl->(∀ p,p≠(k:Int)->zP p es'=zP p es)->(∀ (j:Nat) (mo:MO),X[j]?=some mo->X'[j]?=some mo)->es'.length<=es.length + 1->K ([d0,d1,d2,some (.obj 8),d4,d5,d6,d7,d8,d9,d10,d11,d12,d13,d14,d15,A7,d17,d18,d19,d20,d21,d22,d23,d24],zE fd pt vars tolds made++.idict es'::a::b::X')) :
  zH (zK C T1 (n + 1) (.nm 16) QW (some (6,tolds)) S) (tl.map zJ) ([d0,d1,d2,some (.obj 8),d4,d5,d6,d7,d8,d9,d10,d11,d12,d13,d14,d15,u16,d17,d18,d19,d20,d21,d22,d23,d24],zE fd pt vars tolds made++.idict es::a::b::X) K:=by
 cases tl with
 | nil=>exact h u16 es X (.inl ⟨hn,rfl⟩) (λ _ _=>rfl) (λ j mo e=>e) (dj _)
 | cons t tl =>
  rw [aE] at hl
  refine Eaa (ht t (.head _)) λ t1 t2 t3=>?_
  show zK _ _ _ _ _ _ _ (zJ t) _ (λ a'=>zH _ (tl.map zJ) a' K)
  refine wD L t1 t2 t3 hk (by exact ae AR (nB9 rfl)) hn λ A7=>?_
  have CP:zP (k:Int) (es++[((k:Int),.obj (11 + X.length))])=some (.obj (11 + X.length)):=by (erw [j7];erw [hn]);exact if_pos rfl
  refine vK L hk (by (erw [ak];erw [aC]);exact lin [_] [] (.a (.v 0) (.k 1)) (.k 1000) [(1,.l (.v 0) (.k 900))] tT9 AR) CP tl [t] _ A7 (λ u m=>ht u (.tail _ m)) (by show 1 + tl.length<=1000;exact lin [_] [] (.a (.k 1) (.v 0)) (.k 1000) [(1,.l (.a (.v 0) (.k 1)) (.k 100))] tT9 hl) (by erw [aX];rfl) λ Fs X' h1 h2=>?_
  refine h Fs _ X' (.inr ⟨X.length,CP,h1⟩) (λ p hp=>?_) (λ j mo e=>?_) (by (erw [ak];erw [aC]);exact bn _)
  ·erw [j7]
   cases zP p es with
   | some x=>rfl
   | none=>exact if_neg (iO hp)
  ·have hj:=(av.mp e).1
   exact h2 j mo (by exact aF (hj)) (by erw [aB hj];exact e)
theorem VI {α:Type}{step:ab->α->(α->Prop)->Prop}{K:α->Prop}:∀ (xs:List ab) (a:α),zH step (xs++ys) a K=zH step xs a λ a'=>zH step ys a' K:=by
 intro xs
 induction xs with
 | nil =>
  intro _
  exact rfl
 | cons x xs ih =>
  intro a
  show step x a (λ a'=>zH step (xs++ys) a' K)=step x a λ a'=>zH step xs a' λ Kv=>zH step ys Kv K
  congr 1
  funext a'
  exact ih a'
theorem LateX.keep {X X':zA}{es es':List (Int×D)}(h:LateX X es p tl)(h1:zP p es'=zP p es)(h2:∀ (j:Nat) (mo:MO),X[j]?=some mo->X'[j]?=some mo):LateX X' es' p tl:=by
 rcases h with ⟨e,r⟩ | ⟨i,e,r⟩
 ·exact .inl ⟨h1.trans e,r⟩
 ·exact .inr ⟨i,h1.trans e,h2 _ _ r⟩
theorem WL (L:Law1 C) :
  ∀ (ds:List Dd) (k:Nat) (es:List (Int×D)) (X:zA) (u16:Option D),k + ds.length<=900->(∀ m d,ds[m]?=some d->DdS (k + m) d)->(∀ p,(k:Int)<=p->zP p es=none)->es.length<=k ->
  (∀ A7 es' X',(∀ m d,ds[m]?=some d->LateX X' es' ((k + m:Nat):Int) (za ((k + m:Nat):Int) d.d))->(∀ p,p<(k:Int)->zP p es'=zP p es)->(∀ (j:Nat) (mo:MO),X[j]?=some mo->X'[j]?=some mo)->K ([d0,d1,d2,some (.obj 8),d4,d5,d6,d7,d8,d9,d10,d11,d12,d13,d14,d15,A7,d17,d18,d19,d20,d21,d22,d23,d24],zE fd pt vars tolds made++.idict es'::a::b::X')) ->
  zH (zK C T1 (n + 1) (.nm 16) QW (some (6,tolds)) S) ((zN k ds).map zJ) ([d0,d1,d2,some (.obj 8),d4,d5,d6,d7,d8,d9,d10,d11,d12,d13,d14,d15,u16,d17,d18,d19,d20,d21,d22,d23,d24],zE fd pt vars tolds made++.idict es::a::b::X) K:=by
 intro ds
 induction ds with
 | nil =>
  intro k es X u16 _ _ _ _ h
  exact h u16 es X (λ m d e=>by simp at e) (λ _ _=>rfl) λ j mo e=>e
 | cons d ds ih =>
  intro k es X u16 hl hS CM AR h
  rw [aE] at hl
  have S0:DdS k d:=hS 0 d rfl
  have e:(zN k (d::ds)).map zJ=(za (k:Int) d.d).map zJ++(zN (k + 1) ds).map zJ:=by refine rwS aT ?_;rfl
  (erw [e];erw [VI])
  have AK:=yT (k:Int) d.d
  refine Vv L (k:=k) (by exact ae (aH _ _) hl) (by exact lin [_,_,_] [] (.v 0) (.k 900) [(1,.l (.a (.v 1) (.a (.v 2) (.k 1))) (.k 900)),(1,.l (.v 0) (.v 1))] tT9 hl AR) (λ t m=>?_) (by exact ae AK (nB9 rfl)) (CM _ (aV _)) λ A7 es' X' h1 h2 h3 h4=>?_
  ·refine Z0 (Jx S0 m) λ q1 q2 q3 _=>?_
   exact ⟨q1,q2,q3⟩
  ·have e1:∀ m,k + 1 + m=k + (m + 1):=λ m=>by exact bl (lin [_,_] [] (.a (.a (.v 0) (.k 1)) (.v 1)) (.a (.v 0) (.a (.v 1) (.k 1))) [] tT9) (lin [_,_] [] (.a (.v 0) (.a (.v 1) (.k 1))) (.a (.a (.v 0) (.k 1)) (.v 1)) [] tT9)
   refine ih (k + 1) es' X' A7 (by exact lin [_,_] [] (.a (.a (.v 0) (.k 1)) (.v 1)) (.k 900) [(1,.l (.a (.v 0) (.a (.v 1) (.k 1))) (.k 900))] tT9 hl) (λ m d' hm=>by erw [e1];exact hS (m + 1) d' hm) (λ p hp=>?_) (by exact lin [_,_,_] [] (.v 0) (.a (.v 1) (.k 1)) [(1,.l (.v 2) (.v 1)),(1,.l (.v 0) (.a (.v 2) (.k 1)))] tT9 AR h4) λ Fs KY X2 g1 g2 g3=>?_
   ·erw [h2 p (by exact cN (hp))];exact CM p (by exact ck hp)
   ·refine h Fs KY X2 (λ m d' hm=>?_) (λ p hp=>?_) λ j mo e=>g3 j mo (h3 j mo e)
    ·cases m with
     | zero =>
      obtain rfl:=so hm
      exact LateX.keep h1 (g2 _ (by exact aV _)) g3
     | succ m =>
      have:=g1 m d' hm
      rw [e1] at this
      exact this
    ·(erw [g2 p (by exact liZ [_] [_] (.a (.v 0) (.k 1)) (.c (.a (.v 0) (.k 1))) [(1,.L (.a (.v 0) (.k 1)) (.c (.v 0)))] tT9 hp)];erw [h2 p (by exact kt (hp))];rfl)
end
noncomputable def rowB:List St:=match b_law.drop 9 with
 | .for _ _ [.for _ _ b]::_=>b
 | _=>[]
noncomputable def uM (p q b:Int)(ms:List Int):Int:=ms.getD 0 0 * p + ms.getD 1 0 * q + ms.getD 2 0 * b + ms.getD 3 0
theorem vN {q b:Int}:th4.map (λ t=>uM p q b t.2)=th4.map λ t=>zC [p,q,b] t.1:=by
 show [_,_,_,_,_,_,_,_]=[_,_,_,_,_,_,_,_]
 have e0:zC [p,q,b] (.sum [(0,1)] 0)=0 + (1 * p + 0):=rfl
 have e1:zC [p,q,b] (.sum [(1,1)] 0)=0 + (1 * q + 0):=rfl
 have e2:zC [p,q,b] (.sum [(0,1),(1,-1)] (-1))=-1 + (1 * p + (-1 * q + 0)):=rfl
 have e3:zC [p,q,b] (.bit 2 true)=0 + (1 * b + 0):=rfl
 have e4:zC [p,q,b] (.bit 2 false)=1 + (-1 * b + 0):=rfl
 have e5:zC [p,q,b] (.tru true)=1 + 0:=rfl
 have e6:zC [p,q,b] (.num (-2))=-2 + 0:=rfl
 have e7:zC [p,q,b] (.num 4)=4 + 0:=rfl
 have m:∀ a b' c d:Int,uM p q b [a,b',c,d]=a * p + b' * q + c * b + d:=λ _ _ _ _=>rfl
 simp only [e0,e1,e2,e3,e4,e5,e6,e7,m]
 refine congr (congrArg _ (by exact aO (liZ [] [_,_,_] (.a (.a (.a (.m 1 (.v 0)) (.m 0 (.v 1))) (.m 0 (.v 2))) (.k 0)) (.a (.k 0) (.a (.m 1 (.v 0)) (.k 0))) [] tT9) (liZ [] [_,_,_] (.a (.k 0) (.a (.m 1 (.v 0)) (.k 0))) (.a (.a (.a (.m 1 (.v 0)) (.m 0 (.v 1))) (.m 0 (.v 2))) (.k 0)) [] tT9))) (congr (congrArg _ (by exact aO (liZ [] [_,_,_] (.a (.a (.a (.m 0 (.v 0)) (.m 1 (.v 1))) (.m 0 (.v 2))) (.k 0)) (.a (.k 0) (.a (.m 1 (.v 1)) (.k 0))) [] tT9) (liZ [] [_,_,_] (.a (.k 0) (.a (.m 1 (.v 0)) (.k 0))) (.a (.a (.a (.m 0 (.v 1)) (.m 1 (.v 0))) (.m 0 (.v 2))) (.k 0)) [] tT9))) (congr (congrArg _ (by exact aO (liZ [] [_,_,_] (.a (.a (.a (.m 1 (.v 0)) (.m (-1) (.v 1))) (.m 0 (.v 2))) (.k (-1))) (.a (.k (-1)) (.a (.m 1 (.v 0)) (.a (.m (-1) (.v 1)) (.k 0)))) [] tT9) (liZ [] [_,_,_] (.a (.k (-1)) (.a (.m 1 (.v 0)) (.a (.m (-1) (.v 1)) (.k 0)))) (.a (.a (.a (.m 1 (.v 0)) (.m (-1) (.v 1))) (.m 0 (.v 2))) (.k (-1))) [] tT9))) (congr (congrArg _ (by exact aO (liZ [] [_,_,_] (.a (.a (.a (.m 0 (.v 0)) (.m 0 (.v 1))) (.m 1 (.v 2))) (.k 0)) (.a (.k 0) (.a (.m 1 (.v 2)) (.k 0))) [] tT9) (liZ [] [_,_,_] (.a (.k 0) (.a (.m 1 (.v 0)) (.k 0))) (.a (.a (.a (.m 0 (.v 1)) (.m 0 (.v 2))) (.m 1 (.v 0))) (.k 0)) [] tT9))) (congr (congrArg _ (by exact aO (liZ [] [_,_,_] (.a (.a (.a (.m 0 (.v 0)) (.m 0 (.v 1))) (.m (-1) (.v 2))) (.k 1)) (.a (.k 1) (.a (.m (-1) (.v 2)) (.k 0))) [] tT9) (liZ [] [_,_,_] (.a (.k 1) (.a (.m (-1) (.v 0)) (.k 0))) (.a (.a (.a (.m 0 (.v 1)) (.m 0 (.v 2))) (.m (-1) (.v 0))) (.k 1)) [] tT9))) (congr (congrArg _ (by exact aO (liZ [] [_,_,_] (.a (.a (.a (.m 0 (.v 0)) (.m 0 (.v 1))) (.m 0 (.v 2))) (.k 1)) (.a (.k 1) (.k 0)) [] tT9) (liZ [] [_,_,_] (.a (.k 1) (.k 0)) (.a (.a (.a (.m 0 (.v 0)) (.m 0 (.v 1))) (.m 0 (.v 2))) (.k 1)) [] tT9))) (congr (congrArg _ (by exact aO (liZ [] [_,_,_] (.a (.a (.a (.m 0 (.v 0)) (.m 0 (.v 1))) (.m 0 (.v 2))) (.k (-2))) (.a (.k (-2)) (.k 0)) [] tT9) (liZ [] [_,_,_] (.a (.k (-2)) (.k 0)) (.a (.a (.a (.m 0 (.v 0)) (.m 0 (.v 1))) (.m 0 (.v 2))) (.k (-2))) [] tT9))) (congr (congrArg _ (by exact aO (liZ [] [_,_,_] (.a (.a (.a (.m 0 (.v 0)) (.m 0 (.v 1))) (.m 0 (.v 2))) (.k 4)) (.a (.k 4) (.k 0)) [] tT9) (liZ [] [_,_,_] (.a (.k 4) (.k 0)) (.a (.a (.a (.m 0 (.v 0)) (.m 0 (.v 1))) (.m 0 (.v 2))) (.k 4)) [] tT9))) rfl)))))))
def Sh4 (l:List (Th×List Int)):Prop:=∀ t,t∈l->∃ a b c d:Int,t.2=[a,b,c,d]/\(-10<=a/\a<=10)/\(-10<=b/\b<=10)/\(-10<=c/\c<=10)
theorem zDc:Sh4 th4:=by
 show ∀ t,t∈[_,_,_,_,_,_,_,_]->_
 simp only [cQ]
 exact ⟨⟨_,_,_,_,rfl,by decide,by decide,by decide⟩,⟨_,_,_,_,rfl,by decide,by decide,by decide⟩,⟨_,_,_,_,rfl,by decide,by decide,by decide⟩,⟨_,_,_,_,rfl,by decide,by decide,by decide⟩,⟨_,_,_,_,rfl,by decide,by decide,by decide⟩,⟨_,_,_,_,rfl,by decide,by decide,by decide⟩,⟨_,_,_,_,rfl,by decide,by decide,by decide⟩,⟨_,_,_,_,rfl,by decide,by decide,by decide⟩,λ _ m=>nomatch m⟩
theorem Jv:∀ l:List Int,bY (l.map .int) (l.map .int)=true
 | []=>rfl
 | a::l=>by
  show (decide (a=a)&&bY (l.map .int) (l.map .int))=true
  (erw [Jv l];erw [decide_eq_true rfl]);rfl
section
variable {C:Cx}{n:Nat}{Q:D->zA->Prop}
theorem wI {q b:Int}(hp:-100<=p/\p<=100)(hq:-100<=q/\q<=100)(hb:-100<=b/\b<=100){d0 d1 d2 d3 d4 d5 d6 d7 d8 d9 d10 d11 d12 d13 d14 d15 d16 d20 d21 d22 d23 d24:Option D}{K:List ab×zA->Prop}:∀ (l:List (Th×List Int)) (acc:List ab),acc.length + l.length<=1000->Sh4 l->K (acc++(l.map λ t=>uM p q b t.2).map .int,σ) ->
  zH (zM C T1 n (elW C T1 n (.bin .Add (.bin .Add (.bin .Add (.bin .Mult (.nm 27) (.nm 17)) (.bin .Mult (.nm 28) (.nm 18))) (.bin .Mult (.nm 29) (.nm 19))) (.nm 30))) (.tup [(.nm 26),(.tup [(.nm 27),(.nm 28),(.nm 29),(.nm 30)])]) [] [] [d0,d1,d2,d3,d4,d5,d6,d7,d8,d9,d10,d11,d12,d13,d14,d15,d16,some (.p (.int p)),some (.p (.int q)),some (.p (.int b)),d20,d21,d22,d23,d24,none,none,none,none,none,none] none) (Ym l) (acc,σ) K:=by
 intro l
 induction l with
 | nil =>
  intro acc _ _ h
  rw [bW,bW,aP] at h;exact h
 | cons t l ih =>
  intro acc hl hs h
  rw [aE] at hl
  refine Eeeeeaaa (hs t (.head _)) λ a b' c d e h1 h2 h3=>?_
  show zM _ _ _ _ _ _ _ _ _ (bE [enc t.1,.tuple (t.2.map .int)]) _ (λ a'=>zH _ (Ym l) a' K)
  rw [aY,e] at h
  erw [e]
  walk_at "st"
  refine ⟨ZN (⟨ai (oD9 rfl) h1.1,ai h1.2 (oD9 rfl)⟩),ZN (⟨ai (oD9 rfl) hp.1,ai hp.2 (oD9 rfl)⟩),ZN (⟨ai (oD9 rfl) h2.1,ai h2.2 (oD9 rfl)⟩),ZN (⟨ai (oD9 rfl) hq.1,ai hq.2 (oD9 rfl)⟩),ZN (⟨ai (oD9 rfl) h3.1,ai h3.2 (oD9 rfl)⟩),ZN (⟨ai (oD9 rfl) hb.1,ai hb.2 (oD9 rfl)⟩),?_⟩
  exact ⟨by exact lin [_,_] [] (.v 0) (.k 100000) [(1,.l (.a (.v 0) (.a (.v 1) (.k 1))) (.k 1000))] tT9 hl,ih _ (by (erw [ak];erw [aC]);exact lin [_,_] [] (.a (.a (.v 0) (.k 1)) (.v 1)) (.k 1000) [(1,.l (.a (.v 0) (.a (.v 1) (.k 1))) (.k 1000))] tT9 hl) (λ u m=>hs u (.tail _ m)) (by erw [au];exact h)⟩
theorem Xx (L:Law1 C){pl:List Th}{row:List Int}(R:RowOk row)(hi:σ[i]?=some (.lst (pl.map enc))){d0 d1 d2 d3 d4 d5 d6 d7 d8 d9 d10 d11 d12 d13 d14 d15 d16 d17 d18 d19 d20 d22 d23 d24:Option D}{K:List ab×zA->Prop} :
  ∀ (l:List Th) (acc:List ab) (u:Option D),acc.length + l.length<=1000->(∀ t,t∈l->zDo row (zd t)/\(zd t).length<=2)->K (acc++(l.map (zC row)).map .int,σ) ->
  zH (zM C T1 (n + 1) (elW C T1 (n + 1) (.call false (.gl 36) [(.nm 26),(.sub (.nm 21) (.c (.int (0))))])) (.nm 26) [] [] [d0,d1,d2,d3,d4,d5,d6,d7,d8,d9,d10,d11,d12,d13,d14,d15,d16,d17,d18,d19,d20,some (.p (.list [.list (row.map .int)])),d22,d23,d24,none,u] (some (i,pl.map enc))) (l.map enc) (acc,σ) K:=by
 intro l
 induction l with
 | nil =>
  intro acc u _ _ h
  rw [bW,bW,aP] at h;exact h
 | cons t l ih =>
  intro acc u hl hs h
  rw [aE] at hl
  refine Ea (hs t (.head _)) λ h1 h2=>?_
  show zM _ _ _ _ _ _ _ _ _ (enc t) _ (λ a'=>zH _ (l.map enc) a' K)
  walk_at "st"
  refine zCb L R h1 h2 ?_
  walk_at "st"
  exact ⟨by exact lin [_,_] [] (.v 0) (.k 100000) [(1,.l (.a (.v 0) (.a (.v 1) (.k 1))) (.k 1000))] tT9 hl,hi,ih _ _ (by (erw [ak];erw [aC]);exact lin [_,_] [] (.a (.a (.v 0) (.k 1)) (.v 1)) (.k 1000) [(1,.l (.a (.v 0) (.a (.v 1) (.k 1))) (.k 1000))] tT9 hl) (λ u m=>hs u (.tail _ m)) (by erw [au];exact h)⟩
end
noncomputable def Yz:List St:=match rowB.drop 3 with
 | .for _ _ b::_=>b
 | _=>[]
section
variable {C:Cx}{n:Nat}{Q:D->zA->Prop}
theorem ve (L:Law1 C){row:List Int}{h:Hw}{q b:Int}{d0 d1 d2 d3 d4 d5 d6 d7 d8 d9 d10 d11 d12 d13 d14 d15 d16 d21 u23 u24:Option D}{S:Fl->Rho->zA->Prop}{K:Rho×zA->Prop}(CE:row=[p,q,b])(R:RowOk row)(CB:ws.length<=900)(H:HwOk ws.length h)(hs:∀ y,zS src (σ++[y]) True)
  (hK:∀ Ae Ad,K ([d0,d1,d2,d3,d4,d5,d6,d7,d8,d9,d10,d11,d12,d13,d14,d15,d16,some (.p (.int p)),some (.p (.int q)),some (.p (.int b)),some (.obj σ.length),d21,some (.p (.bool (ZS ws row h).isNone)),Ae,Ad],σ++[.lst (ws.map .int++[Yx (ZS ws row h)])])) :
  zK C T1 (n + 1) (.nm 23) Yz src S (Zc h) ([d0,d1,d2,d3,d4,d5,d6,d7,d8,d9,d10,d11,d12,d13,d14,d15,d16,some (.p (.int p)),some (.p (.int q)),some (.p (.int b)),some (.obj σ.length),d21,some (.p (.bool false)),u23,u24],σ++[.lst (ws.map .int)]) K:=by
 have hc:∀ Q:D->zA->Prop,Q (.p (Yx (ZS ws row h))) (σ++[.lst (ws.map .int)])->SatCall C T1 (n + 1) 569 [.p (Zc h),.obj σ.length,.p (.list [.int p,.int q,.int b])] (σ++[.lst (ws.map .int)]) Q:=λ Q q'=>by
  have:=vP (n:=n) (σ:=σ++[.lst (ws.map .int)]) (w:=σ.length) L R (by erw [CE];exact bn 3) aX (ae CB (nB9 rfl)) H q'
  rw [CE] at this
  exact this
 unfold Yz rowB b_law
 simp only [cF]
 walk_at "st"
 refine zG ?_
 walk_at "st"
 refine hc _ ?_
 walk_at "go"
 cases hp:ZS ws row h with
 | none =>
  rw [hp] at hK
  unfold Yx at *
  walk_at "go"
  refine ⟨by erw [aj];exact ae CB (nB9 rfl),QA (hs _) (hK _ _)⟩
 | some v =>
  rw [hp] at hK
  unfold Yx at *
  walk_at "go"
  refine ⟨by erw [aj];exact ae CB (nB9 rfl),QA (hs _) (hK _ _)⟩
theorem zA4 {x:ab}{d0 d1 d2 d3 d4 d5 d6 d7 d8 d9 d10 d11 d12 d13 d14 d15 d16 d17 d18 d19 d21 u23 u24:Option D}{S:Fl->Rho->zA->Prop}{K:Rho×zA->Prop}(CB:xs.length<=900)(hs:∀ y,zS src (σ++[y]) True)
  (hK:∀ Ae Ad,K ([d0,d1,d2,d3,d4,d5,d6,d7,d8,d9,d10,d11,d12,d13,d14,d15,d16,d17,d18,d19,some (.obj σ.length),d21,some (.p (.bool true)),Ae,Ad],σ++[.lst (xs++[.int 0])])) :
  zK C T1 (n + 1) (.nm 23) Yz src S x ([d0,d1,d2,d3,d4,d5,d6,d7,d8,d9,d10,d11,d12,d13,d14,d15,d16,d17,d18,d19,some (.obj σ.length),d21,some (.p (.bool true)),u23,u24],σ++[.lst xs]) K:=by
 unfold Yz rowB b_law
 simp only [cF]
 walk_at "st"
 refine zG ?_
 walk_at "go"
 exact ⟨by exact ae CB (nB9 rfl),QA (hs _) (hK _ _)⟩
theorem Wb {d0 d1 d2 d3 d4 d5 d6 d7 d8 d9 d10 d11 d12 d13 d14 d15 d16 d17 d18 d19 d21:Option D}{S:Fl->Rho->zA->Prop}{K:Rho×zA->Prop}(hs:∀ y,zS src (σ++[y]) True):∀ (hl:List ab) (xs:List ab) (u23 u24:Option D),xs.length + hl.length<=900 ->
  (∀ Ae Ad BZ,K ([d0,d1,d2,d3,d4,d5,d6,d7,d8,d9,d10,d11,d12,d13,d14,d15,d16,d17,d18,d19,some (.obj σ.length),d21,some (.p (.bool true)),Ae,Ad],σ++[.lst BZ])) ->
  zH (zK C T1 (n + 1) (.nm 23) Yz src S) hl ([d0,d1,d2,d3,d4,d5,d6,d7,d8,d9,d10,d11,d12,d13,d14,d15,d16,d17,d18,d19,some (.obj σ.length),d21,some (.p (.bool true)),u23,u24],σ++[.lst xs]) K:=by
 intro hl
 induction hl with
 | nil=>exact λ xs u23 u24 _ h=>h u23 u24 xs
 | cons x hl ih =>
  intro xs u23 u24 AM h
  rw [aE] at AM
  show zK _ _ _ _ _ _ _ x _ (λ a'=>zH _ hl a' K)
  exact zA4 (ae (aH _ _) AM) hs λ Ae Ad=>ih _ _ _ (by (erw [ak];erw [aC]);exact lin [_,_] [] (.a (.a (.v 0) (.k 1)) (.v 1)) (.k 900) [(1,.l (.a (.v 0) (.a (.v 1) (.k 1))) (.k 900))] tT9 AM) h
theorem Vw (L:Law1 C){row:List Int}{q b:Int}{d0 d1 d2 d3 d4 d5 d6 d7 d8 d9 d10 d11 d12 d13 d14 d15 d16 d21:Option D}{S:Fl->Rho->zA->Prop}{K:Rho×zA->Prop}(CE:row=[p,q,b])(R:RowOk row)(hs:∀ y,zS src (σ++[y]) True) :
  ∀ (hl:List Hw) (ws:List Int) (u23 u24:Option D),ws.length + hl.length<=900->(∀ m h,hl[m]?=some h->HwOk (ws.length + m) h) ->
  (∀ Ae Ad (bb:Bool) BZ,(match yF row hl ws with | some FI=>bb=false/\BZ=FI.map .int | none=>bb=true)->K ([d0,d1,d2,d3,d4,d5,d6,d7,d8,d9,d10,d11,d12,d13,d14,d15,d16,some (.p (.int p)),some (.p (.int q)),some (.p (.int b)),some (.obj σ.length),d21,some (.p (.bool bb)),Ae,Ad],σ++[.lst BZ])) ->
  zH (zK C T1 (n + 1) (.nm 23) Yz src S) (hl.map Zc) ([d0,d1,d2,d3,d4,d5,d6,d7,d8,d9,d10,d11,d12,d13,d14,d15,d16,some (.p (.int p)),some (.p (.int q)),some (.p (.int b)),some (.obj σ.length),d21,some (.p (.bool false)),u23,u24],σ++[.lst (ws.map .int)]) K:=by
 intro hl
 induction hl with
 | nil=>exact λ ws u23 u24 _ _ h=>h u23 u24 false _ ⟨rfl,rfl⟩
 | cons x hl ih =>
  intro ws u23 u24 AM hh h
  rw [aE] at AM
  show zK _ _ _ _ _ _ _ (Zc x) _ (λ a'=>zH _ (hl.map Zc) a' K)
  refine ve L CE R (ae (aH _ _) AM) (hh 0 x rfl) hs λ Ae Ad=>?_
  have e:yF row (x::hl) ws=(ZS ws row x).bind λ v=>yF row hl (ws++[v]):=rfl
  rw [e] at h
  cases hp:ZS ws row x with
  | none =>
   rw [hp] at h
   exact Wb hs (hl.map Zc) _ _ _ (by (erw [ak];erw [aj];erw [aj];erw [aC]);exact lin [_,_] [] (.a (.a (.v 0) (.k 1)) (.v 1)) (.k 900) [(1,.l (.a (.v 0) (.a (.v 1) (.k 1))) (.k 900))] tT9 AM) λ Ae Ad BZ=>h Ae Ad true BZ rfl
  | some v =>
   rw [hp] at h
   have e2:ws.map be++[Yx (some v)]=(ws++[v]).map .int:=by erw [aT];rfl
   erw [e2]
   refine ih (ws++[v]) Ae Ad (by (erw [ak];erw [aC]);exact lin [_,_] [] (.a (.a (.v 0) (.k 1)) (.v 1)) (.k 900) [(1,.l (.a (.v 0) (.a (.v 1) (.k 1))) (.k 900))] tT9 AM) (λ m h' hm=>?_) h
   have:=hh (m + 1) h' hm
   (erw [ak];erw [aC];refine rwE (show ws.length + 1 + m=ws.length + (m + 1) by exact bl (lin [_,_] [] (.a (.a (.v 0) (.k 1)) (.v 1)) (.a (.v 0) (.a (.v 1) (.k 1))) [] tT9) (lin [_,_] [] (.a (.v 0) (.a (.v 1) (.k 1))) (.a (.a (.v 0) (.k 1)) (.v 1)) [] tT9)) ?_)
   exact this
end
noncomputable def QV (fd:MO)(g:Nat)(ds:List Dd)(es:List (Int×D))(hows:List Hw)(pool:List Th)(X:zA):zA:=stt fd (.p .none) (vb0 g) ds++.idict es::.lst (hows.map Zc)::.lst (pool.map enc)::X
structure LateOk (ds:List Dd)(es:List (Int×D))(X:zA):Prop where
 no:zP (-1) es=none/\zP 0 es=none/\zP 1 es=none/\zP 2 es=none
 at_:∀ m d,ds[m]?=some d->LateX X es ((3 + m:Nat):Int) (za ((3 + m:Nat):Int) d.d)
theorem LateOk.app {es:List (Int×D)}{X:zA}(h:LateOk ds es X)(Y:zA):LateOk ds es (X++Y):=⟨h.no,λ m d hm=>LateX.keep (h.at_ m d hm) rfl λ j mo e=>by erw [aB (av.mp e).1];exact e⟩
theorem zD6 {row l:List Int}(I:Inv g ds)(hr:BR g row)(hl:run row ds=some l)(tn:ds.length<=900):RowOk l:=by
 have h:=I.at hr hl
 refine ⟨by exact lin [_,_] [] (.v 0) (.k 10000) [(1,.l (.v 1) (.k 900)),(1,.e (.v 0) (.a (.k 3) (.v 1)))] tT9 tn h.1,λ p p0 p1=>?_⟩
 have hp:0<=p/\p<((3 + ds.length:Nat):Int):=by refine rwS h.1 ?_;exact ⟨p0,p1⟩
 have hv:=(h.2 p hp).1
 have N:=I.nice hp
 refine Eeaa (vals_mem.mp hv) λ r mr r1 r2=>?_
 exact ⟨ai (by decide) (ai (N.lo r mr) r1),ai (ai r2 (N.hi r mr)) (by decide)⟩
theorem jk:∀ l:List Int,bp (l.map .int)=0
 | []=>rfl
 | x::r=>by
  show max 0 (bp (r.map .int))=0
  erw [jk r];rfl
theorem zBX {l:List Int}:Sh x (.list (l.map .int)):=by
 refine ae (dG _ _) ?_
 show bp (l.map .int) + 1<=64
 erw [jk];decide
section
variable {C:Cx}{n:Nat}{Q:D->zA->Prop}
theorem V6 (L:Law1 C){fd:MO}{gi p q b:Int}{g:Nat}{ds:List Dd}{hows:List Hw}{pool:List Th}{es:List (Int×D)}{X:zA}{s:ab}{u8 u9 u10 u11 u12 u13 u14 u15 u16 u18 u19 u20 u21 u22 u23 u24:Option D}{S:Fl->Rho->zA->Prop}{K:Rho×zA->Prop}
  (I:LapI g ds pool hows) (hr:BR g [p,q,b]) (tn:ds.length<=500) (hh:hows.length<=50) (hX:LateOk ds es X)
  (hK:∀ BK BJ Bw BH By Ae Ad y,K (zx s gi u8 u9 u10 u11 u12 u13 u14 u15 u16 (some (.p (.int p))) BK BJ Bw BH By Ae Ad,QV fd g ds es hows pool (X++[y]))) :
  zK C T1 (n + 4) (.tup [(.nm 18),(.nm 19)]) rowB none S (.tuple [.int q,.int b]) (zx s gi u8 u9 u10 u11 u12 u13 u14 u15 u16 (some (.p (.int p))) u18 u19 u20 u21 u22 u23 u24,QV fd g ds es hows pool X) K:=by
 have FG:=zAJ hr
 have hp:=FG p (.head _)
 have hq:=FG q (.tail _ (.head _))
 have hb:=FG b (.tail _ (.tail _ (.head _)))
 have R0:RowOk [p,q,b]:=(⟨(by decide:3<=1000),FG⟩:LOk [p,q,b]).row
 have H6:pool.length=8 + hows.length:=I.len
 have GP:=I.sem [p,q,b] hr
 have CB:th4.map (λ t=>uM p q b t.2)=th4.map λ t=>zC [p,q,b] t.1:=vN
 have DA:=λ {src d7 d21 u23 u24 S K σ} hs=>Vw (n:=n + 3) (src:=src) (σ:=σ) (d0:=some (.p s)) (d1:=some (.obj 0)) (d2:=some (.obj 2)) (d3:=some (.obj 8)) (d4:=some (.obj 9)) (d5:=some (.p (.int gi))) (d6:=some (.p (.list (Ym th4)))) (d7:=d7) (d8:=u8) (d9:=u9) (d10:=u10) (d11:=u11) (d12:=u12) (d13:=u13) (d14:=u14) (d15:=u15) (d16:=u16) (d21:=d21) (S:=S) (K:=K) (row:=[p,q,b]) (p:=p) (q:=q) (b:=b) L rfl R0 hs hows (th4.map λ t=>zC [p,q,b] t.1) u23 u24
 unfold Yz rowB b_law at DA
 unfold rowB b_law zx QV at *
 simp only [cF] at DA ⊢
 unfold stt at *
 generalize Ek:zE fd (.p .none) (vb0 g++zR 3 ds) ((zN 3 ds).map zJ) (zT 3 ds)++.idict es::.lst (hows.map Zc)::.lst (pool.map enc)::X=σ0
 have hlen:σ0.length=11 + X.length:=by (refine rwS (Ek) ?_;erw [ZY]);erw [aE];exact bl (lin [_] [] (.a (.k 8) (.a (.a (.a (.v 0) (.k 1)) (.k 1)) (.k 1))) (.a (.k 11) (.v 0)) [] tT9) (lin [_] [] (.a (.k 11) (.v 0)) (.a (.k 8) (.a (.a (.a (.v 0) (.k 1)) (.k 1)) (.k 1))) [] tT9)
 have e4:∀ x:MO,σ0++[x]=zE fd (.p .none) (vb0 g++zR 3 ds) ((zN 3 ds).map zJ) (zT 3 ds)++.idict es::(.lst (hows.map Zc)::.lst (pool.map enc)::(X++[x])):=λ x=>by refine rwS (Ek) ?_;simp
 have h9:∀ y,(σ0++[y])[9]?=some (.lst (hows.map Zc)):=λ y=>by erw [e4];rfl
 have H8:∀ y,(σ0++[y])[10]?=some (.lst (pool.map enc)):=λ y=>by erw [e4];rfl
 have h2:∀ y,(σ0++[y])[2]?=some (.inst 510 1):=λ y=>by erw [e4];rfl
 have h1:∀ y,(σ0++[y])[1]?=some (.sdict [(10,.obj 4),(11,.obj 7),(12,.p .none)]):=λ y=>by erw [e4];rfl
 walk_at "st"
 refine zG ?_
 walk_at "st"
 refine ⟨by decide,wI hp hq hb th4 [] (by decide) zDc ?_⟩
 (erw [bP];erw [CB])
 unfold zW
 walk_at "st"
 refine zG ?_
 walk_at "st"
 simp only [h2,h1]
 walk_at "st"
 erw [e4]
 refine SatCall.up (zET (n:=n) (row:=[p,q,b]) (g:=g) (ds:=ds) L hX.no I.inv hr (by exact ae tn (nB9 rfl)) (λ m d hm=>?_) ?_) (by exact lin [_] [] (.a (.v 0) (.k 3)) (.a (.v 0) (.k 4)) [] tT9)
 ·rcases (hX.app [.lst ((th4.map λ t=>zC [p,q,b] t.1).map .int)]).at_ m d hm with h | ⟨i,h,e⟩
  ·exact .inl h
  ·refine .inr ⟨11 + i,h,?_⟩
   refine rwS e ?_
   unfold stt
   (erw [jo (by exact lin [_] [] (.k 8) (.a (.k 11) (.v 0)) [] tT9)];erw [i11]);rfl
 unfold stt
 refine rwS (e4 ..) ?_
 refine zG ?_
 walk_at "st"
 refine zG ?_
 walk_at "st"
 erw [h9]
 walk_at "st"
 refine ⟨by erw [aj];exact ae hh (nB9 rfl),?_⟩
 refine DA (λ y=>⟨h9 y,trivial⟩) (by erw [aj];show 8 + hows.length<=900;exact lin [_] [] (.a (.k 8) (.v 0)) (.k 900) [(1,.l (.v 0) (.k 50))] tT9 hh) (λ m h hm=>I.hok m h hm) λ Ae Ad bb BZ hf=>?_
 rw [<- GP] at hf
 have fin:=hK (some (.p (.int q))) (some (.p (.int b))) (some (.obj σ0.length)) (some (.p (.list (qg (run [p,q,b] ds))))) (some (.p (.bool bb))) Ae Ad (.lst BZ)
 have e5:zE fd (.p .none) (vb0 g++zR 3 ds) ((zN 3 ds).map zJ) (zT 3 ds)++.idict es::.lst (hows.map Zc)::.lst (pool.map enc)::(X++[.lst BZ])=σ0++[.lst BZ]:=(e4 _).symm
 rw [e5] at fin
 walk_at "ds"
 cases CQ:run [p,q,b] ds with
 | none =>
  rw [CQ] at hf fin
  have Hi:bb=true:=hf
  subst Hi
  unfold qg at *
  refine zG ?_
  walk_at "go"
  exact fin
 | some l =>
  rw [CQ] at hf fin
  obtain ⟨Hi,Ev⟩:bb=false/\BZ=(pool.map (zC l)).map .int:=hf
  subst Hi Ev
  have Rl:=zD6 I.inv hr CQ (by exact ae tn (nB9 rfl))
  have Kk:=(I.inv.at hr CQ).1
  unfold qg at *
  refine zG ?_
  walk_at "st"
  refine zG ?_
  walk_at "st"
  erw [H8]
  walk_at "st"
  refine ⟨by erw [aj];exact lin [_,_] [] (.v 0) (.k 100000) [(1,.l (.v 1) (.k 50)),(1,.e (.v 0) (.a (.k 8) (.v 1)))] tT9 hh H6,Xx L Rl (H8 _) pool [] _ (by simp;exact lin [_,_] [] (.v 0) (.k 1000) [(1,.l (.v 1) (.k 50)),(1,.e (.v 0) (.a (.k 8) (.v 1)))] tT9 hh H6) (λ t mt=>?_) ?_⟩
  ·have T:=(I.pl t mt).near.tg
   exact ⟨λ y my=>by have:=T.mem y my;erw [Kk];exact this,T.len⟩
  erw [bP]
  unfold zW
  walk_at "st"
  erw [Jv]
  refine ⟨zBX,?_⟩
  walk_at "go"
  exact fin
end
section
variable {C:Cx}{n:Nat}{Q:D->zA->Prop}
theorem zEr (L:Law1 C){fd:MO}{gi p:Int}{g:Nat}{ds:List Dd}{hows:List Hw}{pool:List Th}{es:List (Int×D)}{X:zA}{s:ab}{u8 u9 u10 u11 u12 u13 u14 u15 u16 u17 u18 u19 u20 u21 u22 u23 u24:Option D}{S:Fl->Rho->zA->Prop}{K:Rho×zA->Prop}
  (I:LapI g ds pool hows) (hp:p∈xv g) (tn:ds.length<=500) (hh:hows.length<=50) (hX:LateOk ds es X)
  (hK:∀ Fg BK BJ Bw BH By Ae Ad Y,K (zx s gi u8 u9 u10 u11 u12 u13 u14 u15 u16 Fg BK BJ Bw BH By Ae Ad,QV fd g ds es hows pool (X++Y))) :
  zK C T1 (n + 4) (.nm 17) [.for (.tup [(.nm 18),(.nm 19)]) (.tup [(.tup [(.c (.int (1))),(.c (.int (0)))]),(.tup [(.c (.int (1))),(.c (.int (1)))]),(.tup [(.c (.int (2))),(.c (.int (0)))]),(.tup [(.c (.int (2))),(.c (.int (1)))])]) rowB] none S (.int p) (zx s gi u8 u9 u10 u11 u12 u13 u14 u15 u16 u17 u18 u19 u20 u21 u22 u23 u24,QV fd g ds es hows pool X) K:=by
 have hr:∀ q b:Int,(q=1∨q=2)->(b=0∨b=1)->BR g [p,q,b]:=λ q b hq hb=>⟨p,q,b,rfl,hp,hq,hb⟩
 have turn:=λ {q b:Int} {X:zA} {BK BJ Bw BH By Ae Ad:Option D} {S:Fl->Rho->zA->Prop} {K:Rho×zA->Prop}=>V6 (n:=n) (fd:=fd) (gi:=gi) (p:=p) (q:=q) (b:=b) (g:=g) (ds:=ds) (hows:=hows) (pool:=pool) (es:=es) (X:=X) (s:=s) (u8:=u8) (u9:=u9) (u10:=u10) (u11:=u11) (u12:=u12) (u13:=u13) (u14:=u14) (u15:=u15) (u16:=u16) (u18:=BK) (u19:=BJ) (u20:=Bw) (u21:=BH) (u22:=By) (u23:=Ae) (u24:=Ad) (S:=S) (K:=K) L I
 unfold zx at *
 walk_at "st"
 refine zG ?_
 walk_at "st"
 refine zq ?_
 refine turn (hr 1 0 (.inl rfl) (.inl rfl)) tn hh hX λ BK BJ Bw BH By Ae Ad y1=>?_
 refine zq ?_
 refine turn (hr 1 1 (.inl rfl) (.inr rfl)) tn hh (hX.app _) λ BK BJ Bw BH By Ae Ad y2=>?_
 refine zq ?_
 refine turn (hr 2 0 (.inr rfl) (.inl rfl)) tn hh ((hX.app _).app _) λ BK BJ Bw BH By Ae Ad y3=>?_
 refine zq ?_
 refine turn (hr 2 1 (.inr rfl) (.inr rfl)) tn hh (((hX.app _).app _).app _) λ BK BJ Bw BH By Ae Ad y4=>?_
 refine ZZ ?_
 have:=hK (some (.p (.int p))) BK BJ Bw BH By Ae Ad ([y1]++([y2]++([y3]++[y4])))
 rw [<- au,<- au,<- au] at this
 exact this
theorem zGS (L:Law1 C){fd:MO}{gi:Int}{g:Nat}{ds:List Dd}{hows:List Hw}{pool:List Th}{es:List (Int×D)}{s:ab}{u8 u9 u10 u11 u12 u13 u14 u15 u16:Option D}{S:Fl->Rho->zA->Prop}{K:Rho×zA->Prop}
  (I:LapI g ds pool hows) (tn:ds.length<=500) (hh:hows.length<=50)
  (hK:∀ Fg BK BJ Bw BH By Ae Ad X,K (zx s gi u8 u9 u10 u11 u12 u13 u14 u15 u16 Fg BK BJ Bw BH By Ae Ad,QV fd g ds es hows pool X)) :
  ∀ (ps:List Int) (X:zA) (u17 u18 u19 u20 u21 u22 u23 u24:Option D),(∀ p,p∈ps->p∈xv g)->LateOk ds es X ->
  zH (zK C T1 (n + 4) (.nm 17) [.for (.tup [(.nm 18),(.nm 19)]) (.tup [(.tup [(.c (.int (1))),(.c (.int (0)))]),(.tup [(.c (.int (1))),(.c (.int (1)))]),(.tup [(.c (.int (2))),(.c (.int (0)))]),(.tup [(.c (.int (2))),(.c (.int (1)))])]) rowB] none S) (ps.map .int) (zx s gi u8 u9 u10 u11 u12 u13 u14 u15 u16 u17 u18 u19 u20 u21 u22 u23 u24,QV fd g ds es hows pool X) K:=by
 intro ps
 induction ps with
 | nil=>exact λ X u17 u18 u19 u20 u21 u22 u23 u24 _ _=>hK _ _ _ _ _ _ _ _ X
 | cons p ps ih =>
  intro X u17 u18 u19 u20 u21 u22 u23 u24 hp hX
  show zK _ _ _ _ _ _ _ (be p) _ (λ a'=>zH _ (ps.map .int) a' K)
  exact zEr L I (hp p (.head _)) tn hh hX λ Fg BK BJ Bw BH By Ae Ad Y=>ih _ _ _ _ _ _ _ _ _ (λ q m=>hp q (.tail _ m)) (hX.app Y)
theorem zCl {g:Int}(g0:0<=g)(g4:g<4):((idx 4 g).bind λ j=>[bE [.int 1,.int 2,.int 3],.tuple [.int 0,.int 1,.int 2],.tuple [.int 0,.int 1,.int 3],.tuple [.int 0,.int 2,.int 3]][j]?)=some (.tuple ((xv (gAt g)).map .int)):=by
 rcases z4 g0 g4 with rfl | rfl | rfl | rfl <;> rfl
theorem zEB (g:Nat):(xv g).length<=3:=by
 match g with
 | 0=>decide
 | 1=>decide
 | 2=>decide
 | g + 3=>exact bn 3
theorem zA2 (X:Law1X C)(hl:ns.length<=63)(q:Q (.p (.bool true)) []):SatCall C T1 60 574 [.p (.list (ns.map .int))] [] Q:=by
 have L:=X.L
 refine zAp X hl λ gi g0 g4=>?_
 have Ar:(ns.take 40).length<=100:=ae (iU ..) (by decide)
 generalize ns.take 40=cells at Ar ⊢
 generalize hS:(λ (fl:Fl) (_:Rho) (σ':zA)=>ZR [] Q fl σ')=S
 have e7:b_law.drop 7=.for (.nm 8) (.call false (.gl 14) [(.c (.int (3)))]) Jd::b_law.drop 8:=rfl
 have e8:b_law.drop 8=.for (.nm 16) (.attr (.attr (.nm 2) 10) 7) QW::b_law.drop 9:=rfl
 have e9:b_law.drop 9=[.for (.nm 17) (.sub (.tup [(.tup [(.c (.int (1))),(.c (.int (2))),(.c (.int (3)))]),(.tup [(.c (.int (0))),(.c (.int (1))),(.c (.int (2)))]),(.tup [(.c (.int (0))),(.c (.int (1))),(.c (.int (3)))]),(.tup [(.c (.int (0))),(.c (.int (2))),(.c (.int (3)))])]) (.nm 5)) [.for (.tup [(.nm 18),(.nm 19)]) (.tup [(.tup [(.c (.int (1))),(.c (.int (0)))]),(.tup [(.c (.int (1))),(.c (.int (1)))]),(.tup [(.c (.int (2))),(.c (.int (0)))]),(.tup [(.c (.int (2))),(.c (.int (1)))])]) rowB],.ret (.c (.bool true))]:=rfl
 (erw [e7];erw [e8];erw [e9])
 have EQ:=λ {S K} (xs:List ab)=>zGo (n:=51) (gi:=gi) (g:=gAt gi) (s:=.list (ns.map .int)) (u16:=none) (u17:=none) (u18:=none) (u19:=none) (u20:=none) (u21:=none) (u22:=none) (u23:=none) (u24:=none) (S:=S) (K:=K) L Ar xs
 unfold zx at *
 refine zG ?_
 walk_at "st"
 have As:(z5 0 3).length=3:=rfl
 erw [As]
 refine ⟨by decide,EQ (z5 0 3) 1 [] [] (th4.map (·.1)) none none none none none none none none (by erw [As];decide) (by erw [As];decide) (by erw [As];decide) (LapI.nil _) λ k' ds hows pool v8 v9 Ck Ce Cy Cj Ca Cv h1 h2 h3 I=>?_⟩
 have AK:=qi ds 3
 have tW:=λ {S K}=>WL (n:=58) (fd:=Zh cells k') (pt:=.p .none) (vars:=vb0 (gAt gi)++zR 3 ds) (tolds:=(zN 3 ds).map zJ) (made:=zT 3 ds) (a:=.lst (hows.map Zc)) (b:=.lst (pool.map enc)) (d0:=some (.p (.list (ns.map .int)))) (d1:=some (.obj 0)) (d2:=some (.obj 2)) (d4:=some (.obj 9)) (d5:=some (.p (.int gi))) (d6:=some (.p (.list (Ym th4)))) (d7:=some (.obj 10)) (d8:=v8) (d9:=v9) (d10:=Ck) (d11:=Ce) (d12:=Cy) (d13:=Cj) (d14:=Ca) (d15:=Cv) (d17:=none) (d18:=none) (d19:=none) (d20:=none) (d21:=none) (d22:=none) (d23:=none) (d24:=none) (S:=S) (K:=K) L ds 3 [] [] none
 unfold qk stt
 refine zG ?_
 walk_at "st"
 refine ⟨by erw [aj];exact lin [_,_] [] (.v 0) (.k 100000) [(3,.l (.v 1) (.k 500)),(1,.l (.v 0) (.m 3 (.v 1)))] tT9 h2 AK,?_⟩
 refine tW (lin [_] [] (.a (.k 3) (.v 0)) (.k 900) [(1,.l (.v 0) (.k 500))] tT9 h2) (λ m d hm=>I.inv.st m d hm) (λ p hp=>rfl) (by decide) λ A7 es X g1 g2 g3=>?_
 have hX:LateOk ds es X:=⟨⟨g2 _ (by decide),g2 _ (by decide),g2 _ (by decide),g2 _ (by decide)⟩,g1⟩
 refine zG ?_
 walk_at "st"
 erw [zCl g0 g4]
 refine ⟨by exact ⟨ai (oD9 rfl) g0,c5 g4 (oD9 rfl)⟩,?_⟩
 walk_at "st"
 refine ⟨by have:=zEB (gAt gi);erw [aj];exact ae this (nB9 rfl),?_⟩
 have C5:=λ {S K} hK=>zGS (n:=55) (fd:=Zh cells k') (gi:=gi) (es:=es) (s:=.list (ns.map .int)) (u8:=v8) (u9:=v9) (u10:=Ck) (u11:=Ce) (u12:=Cy) (u13:=Cj) (u14:=Ca) (u15:=Cv) (u16:=A7) (S:=S) (K:=K) L I h2 h3 hK (xv (gAt gi)) X none none none none none none none none (λ p m=>m) hX
 unfold zx QV stt at C5
 refine C5 λ Fg BK BJ Bw BH By Ae Ad X'=>?_
 refine zG ?_
 walk_at "st"
 subst hS
 exact Zg (σ:=[]) rfl q
end
noncomputable def zFJ (s:fw):Option {q:aL×dD // s=.Expr q.1 q.2}:=by
 apply @rx (λ s=>Option {q:aL×dD // s=.Expr q.1 q.2}) s <;> intros <;> first | exact some ⟨(_,_),rfl⟩ | exact none
noncomputable def zGc (s:fw):Option {q:aL×aL×dD // s=.Assign [q.1] q.2.1 q.2.2}:=zFg (β:=λ s=>{q:aL×aL×dD // s=.Assign [q.1] q.2.1 q.2.2}) s λ t e p=>some ⟨(t,e,p),rfl⟩
noncomputable def zAL (e:aL):Option {q:aL×List aL×List ln×dD // e=.Call q.1 q.2.1 q.2.2.1 q.2.2.2}:=WS (β:=λ e=>{q:aL×List aL×List ln×dD // e=.Call q.1 q.2.1 q.2.2.1 q.2.2.2}) e λ f es kw p=>some ⟨(f,es,kw,p),rfl⟩
noncomputable def zAG (e:aL):Option {q:aL×aN×dD // e=.Attribute q.1 q.2.1 q.2.2}:=WQ (β:=λ e=>{q:aL×aN×dD // e=.Attribute q.1 q.2.1 q.2.2}) e λ o nm p=>some ⟨(o,nm,p),rfl⟩
structure SupV (b:List fw)(sf:aN)(an:List aN)(attr:aN)(sv:SV) where
 as:List aL
 v:aL
 ap:dD
 cp:dD
 body:∃ p0 p1 ep q0 q1 q2,b=[.Expr (.Call (.Attribute (.Call (.Name "super" p0) [] [] p1) "__init__" ap) as [] cp) ep,.Assign [.Attribute (.Name sf q0) attr q1] v q2]
 han:QC as=some an
 hsv:UD v=some sv
 c21:(ap.endLine==cp.line)=true
 c22:gm as.length 29=true
noncomputable def zFk (sf attr:aN)(an:List aN)(sv:SV)(as:List aL)(kw:List ln)(Fc:List aL)(FR:List ln)(x nm Fv y:aN)(v:aL)(ap cp:dD):List Bool:=[kw.isEmpty,Fc.isEmpty,FR.isEmpty,x=="super",nm=="__init__",Fv==attr,y==sf,QC as==some an,UD v==some sv,ap.endLine==cp.line,gm as.length 29]
theorem Vq {s1 s2:fw}{e f o g t o2 v:aL}{as Fc:List aL}{kw FR:List ln}{nm x Fv y:aN}{ep cp ap p1 p0 q2 q1 q0:dD}{sf attr:aN}(h1:s1=.Expr e ep)(h6:s2=.Assign [t] v q2)(h2:e=.Call f as kw cp)(h3:f=.Attribute o nm ap)(h4:o=.Call g Fc FR p1)(h5:g=.Name x p0)(h7:t=.Attribute o2 Fv q1)(h8:o2=.Name y q0)
  (k1:kw=[]) (k2:Fc=[]) (k3:FR=[]) (k4:x="super") (k5:nm="__init__") (k6:Fv=attr) (k7:y=sf) :
  [s1,s2]=[.Expr (.Call (.Attribute (.Call (.Name "super" p0) [] [] p1) "__init__" ap) as [] cp) ep,.Assign [.Attribute (.Name sf q0) attr q1] v q2]:=by
 (erw [h1];erw [h6];erw [h2];erw [h3];erw [h4];erw [h5];erw [h7];erw [h8];erw [k1];erw [k2];erw [k3];erw [k4];erw [k5];erw [k6];erw [k7];rfl)
noncomputable def zGm (b:List fw)(sf:aN)(an:List aN)(attr:aN)(sv:SV):Option (SupV b sf an attr sv):=match b with
 | []=>none
 | s1::r=>match r with
  | []=>none
  | s2::r=>match r with
   | _::_=>none
   | []=>(zFJ s1).bind λ e1=>(zAL e1.1.1).bind λ c1=>(zAG c1.1.1).bind λ a1=>(zAL a1.1.1).bind λ c2=>(yX c2.1.1).bind λ n1=>(zGc s2).bind λ e2=>(zAG e2.1.1).bind λ a2=>(yX a2.1.1).bind λ n2 =>
    gdE (jC (zFk sf attr an sv c1.1.2.1 c1.1.2.2.1 c2.1.2.1 c2.1.2.2.1 n1.1.1 a1.1.2.1 a2.1.2.1 n2.1.1 e2.1.2.1 a1.1.2.2 c1.1.2.2.2)) λ h =>
    some ⟨c1.1.2.1,e2.1.2.1,a1.1.2.2,c1.1.2.2.2,⟨_,_,_,_,_,_,(Vq e1.2 e2.2 c1.2 a1.2 c2.2 n1.2 a2.2 n2.2 (cX.mp (zF (i:=0) h rfl)) (cX.mp (zF (i:=1) h rfl)) (cX.mp (zF (i:=2) h rfl)) (eq_of_beq (zF (i:=3) h rfl)) (eq_of_beq (zF (i:=4) h rfl)) (eq_of_beq (zF (i:=5) h rfl)) (eq_of_beq (zF (i:=6) h rfl)))⟩,eq_of_beq (zF (i:=7) h rfl),eq_of_beq (zF (i:=8) h rfl),zF (i:=9) h rfl,zF (i:=10) h rfl⟩
theorem jH {o:eV}{d:o9}(h:o.data=d):o=⟨o.cls,o.dict,d,o.slots⟩:=h▸rfl
noncomputable def zAO:o9->Option (Option af)
 | .cell c=>some c
 | _=>none
theorem zBE {d:o9}{c:Option af}(h:zAO d=some c):d=.cell c:=by cases d with | cell x=>(erw [so h];rfl) | _=>exact nn h
noncomputable def Vc:o9->Option (Array af)
 | .fields c=>some c
 | _=>none
theorem zDw {d:o9}{c:Array af}(h:Vc d=some c):d=.fields c:=by cases d with | fields x=>(erw [so h];rfl) | _=>exact nn h
noncomputable def VS:af->Option ah
 | .ref a=>some a
 | _=>none
theorem zDU {v:af}{a:ah}(h:VS v=some a):v=.ref a:=by cases v with | ref x=>(erw [so h];rfl) | _=>exact nn h
noncomputable def zAd:af->Option (aN×iv)
 | .str x t=>some (x,t)
 | _=>none
theorem zDR {v:af}{a:aN×iv}(h:zAd v=some a):v=.str a.1 a.2:=by cases v with | str x t=>(refine rwS (so h) ?_;rfl) | _=>exact nn h
noncomputable def zEn (K:fZ)(file:aN)(D:ah)(sf:aN)(ps an:List aN)(sv:SV)(fd:dK)(p:aN×ah)(oc:eV)(ft:aN×iv):List Bool:=[ye fd.params==some (sf::ps),fd.closure==[(("__class__":aN),p.2)],zAO oc.data==some (some (.ref D)),ft.1==file,pO K fd.code fd.qualname,fd.globals==cv,fd.builtins==fH,fd.defaults==.none,!fd.scope.isCoroutine,!fd.scope.isGenerator,fd.scope.kind==.function,
 fd.scope.names.all λ y=>y.2 != .cell,(sf::ps).all λ y=>fd.scope.names.lookup y==some .local,decide (sf::ps).Nodup,an.all λ y=>(sf::ps).contains y&&y != "__debug__",zDQ (sf::ps) sv,sf != "__debug__",fd.scope.names.lookup ("super":aN)==some .globalImplicit,fd.scope.names.lookup ("__class__":aN)==some .free]
noncomputable def zD8 (K:fZ)(file:aN)(f D:ah)(sf:aN)(ps an:List aN)(attr:aN)(sv:SV):Bool :=
 ((K.lookup f).bind λ o=>(dFn o.data).bind λ fd=>(we fd.body).bind λ b=>(zGm b sf an attr sv).bind λ _=>(fd.closure.head?).bind λ p=>(K.lookup p.2).bind λ oc=>(VS fd.code).bind λ cda=>(K.lookup cda).bind λ od=>(Vc od.data).bind λ vsC=>(vsC[2]?).bind λ x=>(zAd x).bind λ ft=>(oG K D).bind λ _=>gd (jC (zEn K file D sf ps an sv fd p oc ft)) (some ())).isSome
theorem zBm {K:fZ}{file:aN}{f D:ah}{ps:List aN}{o:eV}{fd:dK}{b:List fw}{p:aN×ah}{oc od:eV}{cda:ah}{vsC:Array af}{x:af}{ft:aN×iv}{cdD:kK}(hl:K.lookup f=some o)(Hl:dFn o.data=some fd)(hb:we fd.body=some b)(V:SupV b sf an attr sv)(Es:K.lookup p.2=some oc)
  (hcda:VS fd.code=some cda) (GV:K.lookup cda=some od) (D0:Vc od.data=some vsC) (hx:vsC[2]?=some x) (GZ:zAd x=some ft) (ER:oG K D=some cdD) (h:jC (zEn K file D sf ps an sv fd p oc ft)=true):Xf K file f ⟨D,sf,ps,an,attr,sv⟩:=by
 obtain ⟨as,v,ap,cp,⟨p0,p1,ep,q0,q1,q2,F6⟩,han,hsv,c21,c22⟩:=V
 refine ⟨⟨fd,p0,p1,ap,cp,ep,q0,q1,q2,as,v,p.2,cda,vsC,ft.2,cdD⟩,?_⟩
 exact ⟨⟨_,_,_,hl.trans (congrArg some (jH (zAt Hl)))⟩,eq_of_beq (zF (i:=0) h rfl),(W0 hb).trans (congrArg _ F6),eq_of_beq (zF (i:=1) h rfl),zDU hcda,han,hsv,⟨_,_,_,GV.trans (congrArg some (jH (zDw D0)))⟩,by (erw [hx];erw [zDR GZ];erw [eq_of_beq (zF (i:=3) h rfl)];rfl),⟨_,_,_,Es.trans (congrArg some (jH (zBE (eq_of_beq (zF (i:=2) h rfl)))))⟩,ER,zF (i:=4) h rfl,eq_of_beq (zF (i:=5) h rfl),eq_of_beq (zF (i:=6) h rfl),eq_of_beq (zF (i:=7) h rfl),qS (zF (i:=8) h rfl),qS (zF (i:=9) h rfl),eq_of_beq (zF (i:=10) h rfl),
  λ y m=>bne_iff_ne.mp (bR.mp (zF (i:=11) h rfl) y m),λ y m=>eq_of_beq (bR.mp (zF (i:=12) h rfl) y m),of_decide_eq_true (zF (i:=13) h rfl),λ y m=>Ea (zU (bR.mp (zF (i:=14) h rfl) y m)) λ a1 a2=>⟨mN.mp a1,bne_iff_ne.mp a2⟩,zF (i:=15) h rfl,bne_iff_ne.mp (zF (i:=16) h rfl),c21,kC (a9 c22),eq_of_beq (zF (i:=17) h rfl),eq_of_beq (zF (i:=18) h rfl)⟩
theorem zCf {K:fZ}{file:aN}{f D:ah}{ps:List aN}(h:zD8 K file f D sf ps an attr sv=true):Xf K file f ⟨D,sf,ps,an,attr,sv⟩ :=
 Ee (gF.mp h) λ _ h=>Eea (ob h) λ _ hl h=>Eea (ob h) λ _ Hl h=>Eea (ob h) λ _ hb h=>Eea (ob h) λ V _ h=>Eea (ob h) λ _ _ h=>Eea (ob h) λ _ Es h=>Eea (ob h) λ _ hcda h=>Eea (ob h) λ _ GV h=>Eea (ob h) λ _ D0 h=>Eea (ob h) λ _ hx h=>Eea (ob h) λ _ GZ h=>Eea (ob h) λ _ ER h=>zBm hl Hl hb V Es hcda GV D0 hx GZ ER (og h).1
noncomputable def funs1:List (ah×Nat×Nat×List St):=[(28,2,2,yY),(35,3,3,QG),(42,1,3,qh),(49,1,1,Je),(56,1,1,yJ),(151,1,1,Qh),(158,3,3,yx),(165,2,2,Ui),(172,1,1,uh),(179,2,2,Qi),(193,1,1,yH),(200,1,1,Z3),(209,2,2,qa),(216,1,1,Q5),(221,1,1,yO),(228,1,1,jL),(233,3,8,UY),(240,1,1,yG),(261,1,1,Qm),(268,3,6,jY),(275,2,8,Yy),(280,2,9,b_var_of),(285,2,2,yv),(314,2,8,b_all_of),(319,2,2,Y0),(331,2,5,qR),(375,3,5,qf),(430,3,7,b_chosen_of),(437,4,4,b_either),(519,2,3,Qb),(526,0,0,qe),(533,1,1,qD),(538,2,2,QP),(545,1,2,QB),(550,2,5,QD),(555,3,8,Qe),(562,2,3,QH),(569,3,7,qd),(574,1,25,b_law)]
noncomputable abbrev wQ:aN:="/claim/cut.py"
noncomputable def j9 (K:fZ):Bool:=jC [zAF K T1,pa K cv "law"==some (some (.ref 574)),pa K cv "super"==some none,pa K cStatics "thirdparty.any"==some none,mG K 510,keepIn K (.ref 510),findIn K (.ref 510) "__init__"==some (some (.ref 361)),typeIn K (.ref 361)==some (.type "function"),keepIn K (.ref 361),mG K 182,keepIn K (.ref 182),findIn K (.ref 182) "__init__"==some (some (.ref 151)),typeIn K (.ref 151)==some (.type "function"),zD8 K wQ 361 510 "self" [] [] "partial" none,mroIn K 510 (.ref 510)==some true,i9 K 510 510 "__init__"==some (some (.ref 261)),typeIn K (.ref 261)==some (.type "function"),fnIn K 261]
theorem zAq (Y:C.Good)(hb:∀ y:aN,y≠"__name__"->C.mb y=fX y)(hfile:((C.prog.main.file:aN)==wQ)=true)(htop:(C.prog.main.scope.names.lookup ("super":aN)).isSome=false)(Ba:fX "super"=some (.type "super"))
  (hf:funs1.map (λ f=>trF C.K T1 Z1 60 f.1)=funs1.map λ f=>some f.2) (h:j9 C.K=true):Law1X C:=by
 have S:SupX C wQ:=⟨hfile,htop,mg_none_of Y.X Y.g (eq_of_beq (zF (i:=2) h rfl)),(hb _ (by decide)).trans Ba,eq_of_beq (zF (i:=3) h rfl)⟩
 have TT:TOk C T1:=zEq Y hb (zF (i:=0) h rfl)
 have tN:∀ (i:Nat) (f:ah×Nat×Nat×List St),funs1[i]?=some f->trF C.K T1 Z1 60 f.1=some f.2:=λ i f e=>by
  have:=congrArg (λ l:List (Option (Nat×Nat×List St))=>l[i]?) hf
  rw [a6,a6,e] at this
  exact so this
 have L:Law1 C:=⟨Y,TT,tN 0 _ rfl,tN 1 _ rfl,tN 2 _ rfl,tN 3 _ rfl,tN 4 _ rfl,tN 5 _ rfl,tN 6 _ rfl,tN 7 _ rfl,tN 8 _ rfl,tN 9 _ rfl,tN 10 _ rfl,tN 11 _ rfl,tN 12 _ rfl,tN 13 _ rfl,tN 14 _ rfl,tN 15 _ rfl,tN 16 _ rfl,tN 17 _ rfl,tN 18 _ rfl,tN 19 _ rfl,tN 20 _ rfl,tN 21 _ rfl,tN 22 _ rfl,tN 23 _ rfl,tN 24 _ rfl,tN 25 _ rfl,tN 26 _ rfl,tN 27 _ rfl,tN 28 _ rfl,tN 29 _ rfl,tN 30 _ rfl,tN 31 _ rfl,tN 32 _ rfl,tN 33 _ rfl,tN 34 _ rfl,tN 35 _ rfl,tN 36 _ rfl,tN 37 _ rfl,tN 38 _ rfl⟩
 exact ⟨L,S,zF (i:=4) h rfl,zF (i:=5) h rfl,⟨361,eq_of_beq (zF (i:=6) h rfl),eq_of_beq (zF (i:=7) h rfl),zF (i:=8) h rfl,zCf (zF (i:=13) h rfl)⟩,zF (i:=9) h rfl,zF (i:=10) h rfl,eq_of_beq (zF (i:=11) h rfl),eq_of_beq (zF (i:=12) h rfl),eq_of_beq (zF (i:=14) h rfl),eq_of_beq (zF (i:=15) h rfl),eq_of_beq (zF (i:=16) h rfl),zF (i:=17) h rfl⟩
noncomputable def hA:List ah:=[2,3,27,28,34,35,41,42,48,49,55,56,150,151,157,158,164,165,171,172,178,179,181,182,192,193,199,200,201,202,208,209,215,216,220,221,227,228,232,233,239,240,246,247,260,261,267,268,274,275,279,280,284,285,296,297,301,302,308,309,313,314,318,319,330,331,337,338,340,341,349,360,361,367,368,374,375,379,380,400,401,414,415,419,420,424,425,429,430,436,437,509,510,518,519,525,526,532,533,537,538,544,545,549,550,554,555,561,562,568,569,573,574]
noncomputable def Y5 (h:aR):fZ:=hA.filterMap λ a=>(h.get? a).map λ o=>(a,o)
theorem zCo (h:aR):(Y5 h).In h:=λ a o e=>by
 unfold Y5 at e
 refine Eea (cx.mp (mem_of_lookupK e)) λ b hb e'=>?_
 refine Eea (bL.mp e') λ o' h1 h2=>?_
 cases h2
 exact h1
end Mine.Internal
namespace Mine.Internal
open PySem PySem.W PyProof PyProof.Rows
set_option tactic.hygienic true
noncomputable def zA3 (l:List eV):Nat:=dQ 0 (λ _ _ n=>n + 1) l
noncomputable def y0 (l:List eV):Nat->Option eV:=dQ (λ _=>none) (λ o _ ih i=>bif bc i 0 then some o else ih (i - 1)) l
noncomputable def Vm (f:eV->eV)(l:List eV):Nat->List eV:=dQ (λ _=>[]) (λ o r ih i=>bif bc i 0 then f o::r else o::ih (i - 1)) l
noncomputable def XZ (l:List eV)(x:eV):List eV:=dQ [x] (λ o _ ih=>o::ih) l
theorem xQ:∀ l:List eV,zA3 l=l.length
 | []=>rfl
 | _::r=>congrArg (· + 1) (xQ r)
theorem XE:∀ (l:List eV) (i:Nat),y0 l i=l[i]?
 | [],_=>rfl
 | _::_,0=>rfl
 | _::r,i + 1=>XE r i
theorem xh (f:eV->eV):∀ (l:List eV) (i:Nat),Vm f l i=l.modify i f
 | [],i=>by cases i <;> rfl
 | _::_,0=>rfl
 | o::r,i + 1=>(congrArg (o::·) (xh f r i)).trans (List.modify_succ_cons ..).symm
theorem Ud (x:eV):∀ l:List eV,XZ l x=l++[x]
 | []=>rfl
 | o::r=>congrArg (o::·) (Ud x r)
noncomputable def QQ:Option eV->Option eV
 | some o=>match o.data with
  | .freed=>none
  | _=>some o
 | none=>none
noncomputable def XY (Ed:Code->kI oV)(p:bN)(w:cr)(s:ao)(t:pU):Step:=match s,t with
 | ⟨⟨⟨l⟩,m⟩,g,d,k,os⟩,⟨Eo,c,q,st⟩=>match Eo with
  | .load a part f=>match QQ (y0 l a) with
   | some o=>.go ⟨⟨⟨l⟩,m⟩,g,d,k,os⟩ ⟨f o,c,q,st⟩
   | none=>fe Ed p w ⟨⟨⟨l⟩,m⟩,g,d,k,os⟩ ⟨.load a part f,c,q,st⟩
  | .update a part f h=>match QQ (y0 l a) with
   | some _=>.go ⟨⟨⟨Vm f l a⟩,m⟩,g,d,k,os⟩ ⟨h (),c,q,st⟩
   | none=>fe Ed p w ⟨⟨⟨l⟩,m⟩,g,d,k,os⟩ ⟨.update a part f h,c,q,st⟩
  | .alloc o f=>.go ⟨⟨⟨XZ l o⟩,m⟩,g,d,k,os⟩ ⟨f (zA3 l),c,q,st⟩
  | Eo=>fe Ed p w ⟨⟨⟨l⟩,m⟩,g,d,k,os⟩ ⟨Eo,c,q,st⟩
theorem uo (l:List eV)(m:Life)(a:ah):rR ⟨⟨l⟩,m⟩ a=QQ (y0 l a):=by
 rw [XE]
 unfold rR
 show (match (⟨l⟩:Array eV)[a]? with | some ⟨_,_,.freed,_⟩=>none | o=>o)=_
 rw [dU]
 cases l[a]? with
 | none=>rfl
 | some o=>obtain ⟨c,d,dt,sl⟩:=o;cases dt <;> rfl
theorem zDY (f:eV->eV)(l:List eV)(m:Life)(a:ah):Heap.update ⟨⟨l⟩,m⟩ a f=⟨⟨Vm f l a⟩,m⟩:=by
 show Heap.mk ((⟨l⟩:Array eV).modify a f) m=_
 rw [xh,<- Array.toList_modify]
theorem zBZ (l:List eV)(m:Life)(o:eV):rS ⟨⟨l⟩,m⟩ o=⟨⟨XZ l o⟩,m⟩:=by
 show Heap.mk ((⟨l⟩:Array eV).push o) m=_
 rw [Ud,<- gw]
theorem Vz (Ed:Code->kI oV)(p:bN)(w:cr)(s:ao)(t:pU):XY Ed p w s t=step Ed p w s t:=by
 rw [db]
 obtain ⟨⟨⟨l⟩,m⟩,g,d,k,os⟩:=s
 obtain ⟨Eo,c,q,st⟩:=t
 cases Eo with
 | load a part f =>
  show (match QQ (y0 l a) with | some o=>_ | none=>_)=_
  cases h:QQ (y0 l a) with
  | none=>rfl
  | some o =>
   show oO _ _=_
   rw [<- db]
   unfold step
   dsimp only
   rw [uo,h]
 | update a part f kk =>
  show (match QQ (y0 l a) with | some o=>_ | none=>_)=_
  cases h:QQ (y0 l a) with
  | none=>rfl
  | some o =>
   show oO _ _=_
   rw [<- db]
   unfold step
   dsimp only
   rw [uo,h,zDY]
   rfl
 | alloc o f =>
  rw [<- db]
  show oO _ ⟨f (zA3 l),_,_,_⟩=oO ⟨rS ⟨⟨l⟩,m⟩ o,_,_,_,_⟩ ⟨f (rG l),_,_,_⟩
  rw [xQ,zBZ]
 | _=>rfl
noncomputable def VZ (tb:String->Option cH)(p:bN)(w:cr)(AQ:Nat)(C1:Option af)(n:Nat):ao->pU->Option ao:=lh (λ _ _=>none) (λ _ ih s t=>match through t with
 | true=>some s
 | false=>match kb AQ C1 t with
  | false=>none
  | true=>match XY (i7 tb) p w s t with
   | .go s' t'=>ih s' t'
   | .halt _ _=>none) n
theorem xl (tb:String->Option cH)(p:bN)(w:cr)(AQ:Nat)(C1:Option af):∀ (n:Nat) (s:ao) (t:pU),topRun tb p w AQ C1 n s t=VZ tb p w AQ C1 n s t
 | 0,_,_=>rfl
 | n + 1,s,t=>by
  show topRun tb p w AQ C1 (n + 1) s t=(match through t with | true=>some s | false=>match kb AQ C1 t with | false=>none | true=>match XY (i7 tb) p w s t with | .go s' t'=>VZ tb p w AQ C1 n s' t' | .halt _ _=>none)
  rw [<- sD,<- sE,Vz]
  unfold topRun
  cases through t with
  | true=>rfl
  | false =>
   dsimp only
   cases stepOk AQ C1 t with
   | false=>rfl
   | true =>
    dsimp only
    cases step (denote tb) p w s t with
    | go s' t'=>exact xl tb p w AQ C1 n s' t'
    | halt _ _=>rfl
set_option tactic.hygienic false
noncomputable def hP:bN:=PySem.Challenge.pw_pq0383_04
noncomputable def hB:List fw:=hP.main.body.drop 39
noncomputable def hQ:bN:={hP with main:={hP.main with body:=hB}}
noncomputable def hL:List aN:=(hP.main.scope.names.map (·.1)).filter λ x=>x != "law"&&x != "Exception"&&x != "__name__"
noncomputable def Y8 (tb:String->Option cH)(p:bN)(w:cr)(N:Nat)(sQ:ao):Option ao :=
 match sQ.heap.isNs cv&&sQ.gens.size==0 with
 | true=>(VZ tb p w sQ.heap.objs.size (sQ.heap.nsMap cv "__annotations__") N sQ (topStub p)).bind λ sM=>match staticsOk (ik p.main.body) sQ.heap sM.heap&&namesBound p sM.heap&&gensDone sM&&laidKept sQ.heap sM.heap with
   | true=>some sM
   | false=>none
 | false=>none
theorem xH:topFrom=Y8:=by
 funext tb p w N s
 unfold topFrom Y8
 rw [xl]
 rfl
set_option maxHeartbeats 8000000
theorem zGO (w:cr)(os:OsState):(Y8 sF hP w 4000 ⟨me w.params,nv [],lF,mf,os⟩).map (λ s=>(sG hQ hL (ik hP.main.body) (λ _=>true) true s,funs1.map (λ f=>trF (Y5 s.heap) T1 Z1 60 f.1),j9 (Y5 s.heap)))=some (pV hQ hL,funs1.map (λ f=>some f.2),true):=by kernel_rfl
set_option tactic.hygienic true
set_option maxHeartbeats 8000000
noncomputable abbrev hR:OpenRow:=PySem.Challenge.rw_pq0383_04.row
theorem zFw:∀ w:cr,(fencedOpening pd hP w 4000).map (λ s=>(s.heap,s.gens,s.drawn,s.toks))=some (me w.params,nv [],lF,mf):=boot_open (by kernel_rfl) (by decide) (λ s=>by kernel_rfl)
noncomputable def Xw (s:ao):List (Option (Nat×Nat×List St))×Bool:=(funs1.map (λ f=>trF (Y5 s.heap) T1 Z1 60 f.1),j9 (Y5 s.heap))
noncomputable def Xv:List (Option (Nat×Nat×List St))×Bool:=(funs1.map (λ f=>some f.2),true)
theorem zGt (w:cr)(os:OsState):(topFrom pd hP w 4000 ⟨me w.params,nv [],lF,mf,os⟩).map (λ s=>(openSeen hQ hL (ik hP.main.body) (λ _=>true) true s,Xw s))=some (pV hQ hL,Xv):=by
 have:=zGO w os
 rw [<- xH,<- sH,<- sI] at this
 exact this
theorem zFF (w:cr):(openEnds pd hP w 4000).map (λ s=>(openSeen hQ hL (ik hP.main.body) (λ _=>true) true s,Xw s))=some (pV hQ hL,Xv):=by
 obtain ⟨s,hs,hv⟩:=bL.mp (zFw w)
 obtain ⟨h1,hv⟩:=iM hv
 obtain ⟨h2,hv⟩:=iM hv
 obtain ⟨h3,h4⟩:=iM hv
 unfold openEnds
 rw [hs,cB]
 have e:s=⟨me w.params,nv [],lF,mf,s.os⟩:=by rw [<- h1,<- h2,<- h3,<- h4]
 rw [e]
 exact zGt w s.os
theorem zFb:LeftO hR.prog hQ hL (λ _=>true) Xw (λ _=>Xv) 4000:=zFF
set_option maxHeartbeats 8000000
theorem zDe:(defOf hQ hR.name).isSome=true:=by kernel_rfl
noncomputable def hD:DefRec×List (aN×aL):=(defOf hQ hR.name).get zDe
theorem zGk:defOf hQ hR.name=some (hD.1,hD.2):=(Option.some_get zDe).symm
theorem zGp:hR.prog.theDef hR.name=some (hD.1.params,hD.1.body,hD.1.scope):=by kernel_rfl
theorem zGD:kwWritten? hD.1.params.kwonlyargs hD.1.params.kw_defaults=some hD.2:=by kernel_rfl
theorem zFc:hR.prog.bare:=⟨rfl,rfl,rfl,rfl,rfl,by decide +kernel⟩
theorem ok1:(chainsOk hQ&&opensWell hR.prog&&(frees hR.toRowW&&hR.within.isEmpty))=true:=by decide +kernel
theorem zFL:((hR.prog.main.file:aN)==wQ)=true:=by kernel_rfl
theorem zGM:(hR.prog.main.scope.names.lookup ("super":aN)).isSome=false:=by kernel_rfl
theorem zGh:fX "super"=some (.type "super"):=by kernel_rfl
def YP1 (_:cr)(h:aR):Prop:=∃ K:fZ,K.In h/\funs1.map (λ f=>trF K T1 Z1 60 f.1)=funs1.map (λ f=>some f.2)/\j9 K=true
theorem yp1 (w:cr)(s:ao)(e:Xw s=Xv):YP1 w s.heap:=⟨Y5 s.heap,zCo _,(iM e).1,(iM e).2⟩
theorem zGJ (w:cr)(h h':aR):YP1 w h->(∀ b o,h.get? b=some o->h'.get? b=some o)->YP1 w h':=λ ⟨K,i,e⟩ k=>⟨K,i.keeps k,e⟩
theorem zFO {K:fZ}(h:j9 K=true):pa K cv "law"=some (some (.ref 574)):=by
 exact eq_of_beq (zF (i:=1) h rfl)
theorem zF1:WalkO hQ hL (λ _ _=>True) YP1 hR.toRowW hD.1 hD.2 λ f vs=>PySem.call f vs:=by
 intro w sQ sM mg mb G Y fa o pm cd Lw dV kV ho hd Lp Lg H7 hg args vals as Gg Hy IN Kj Fy
 (refine Eeaa (Y) λ K hK hf hB=>?_;try clear Y)
 have GU:mg (ag "law")=some (.ref fa):=H7
 refine Ground.open G ?_
 intro T B D TE TW
 clear H7
 wrow_args Gg Hy IN Kj Fy
 rename sM.heap.IsList _ _=>hL
 rename cM _ _=>hI
 rename ¬ ((63:Nat):Int)<_=>hlen
 rename List Int=>ns
 have e1:=GU.symm.trans (mg_of hK T.g (zFO hB))
 have Iy:fa=574:=by
  injection e1 with e
  injection e
 have A:Law1X ⟨hR.prog,w,K,sM.heap,mg,mb⟩:=zAq ⟨hK,T.g,T.b,T.nolimit⟩ T.builtins zFL zGM zGh hf hB
 rw [Iy]
 have go:=(zA2 (Q:=λ d _=>d=.p (.bool true)) A (ns:=ns) (ew.mp (cy.mp hlen)) rfl).run callerA sM _ [] [.ref _] xB wC wz (.cons (.p (.lst ⟨_,hL.choose_spec.1⟩ hL (Un hI))) .nil)
 refine ay go (λ v s' hv=>?_) λ _ _ z=>z.elim
 obtain ⟨h',tk,j',sJ,d,σ',rfl,R,X',V',rfl⟩:=hv
 refine GoodW.toG ⟨.inl ?_,R.keep,rfl,hg⟩
 refine ⟨.bool true,.bool true,[],?_,?_,.bool true,?_,λ _=>⟨.nil,λ _ ha=>nomatch ha⟩⟩
 ·cases V' with
  | p V'=>cases V' with
   | bool=>rfl
 ·exact λ cls=>rfl
 ·refine postW_of (X:=(true==true)) (by rfl) ?_ rfl
  show (WTm.eq .res (.lit (.bool true))).value _ _=_
  exact w_eq_bool (w_res rfl) w_lit
theorem zFs:PySem.Challenge.rw_pq0383_04.wellSaid=true:=by kernel_rfl
theorem holds1:PySem.Challenge.rw_pq0383_04.Holds :=
 holds_law zFs λ GD=>PySem.W.holds_open (Xt:=λ _=>true) (XP:=λ _ _=>True) (YP:=YP1) zFb yp1 zGJ (λ _ _=>trivial) (λ _ _ _ _ _=>trivial) zGk zGp zGD (λ _ _=>recFacts_nil rfl) rfl GD ok1 zFc (by w_witness2) zF1
end Mine.Internal
end
theorem PySem.Challenge.cw_pq0383_04_holds : PySem.Challenge.rw_pq0383_04.Holds :=
 Mine.Internal.holds1
