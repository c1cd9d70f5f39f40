import PyProof.Rows.All
import Wide.All
import OpenK.AllK
import Wide.FinOn
import PySem.Challenge.RW_nu0252_01
set_option Elab.async false
set_option maxRecDepth 100000
set_option linter.all false
set_option tactic.hygienic false
set_option genSizeOf false
set_option bootstrap.genMatcherCode false
set_option maxHeartbeats 4000000
universe u u1 u2 u3 u4 u5 u6 u7 v z
open Array renaming all_toList->MA,forIn_toList->ZY,getD->FO,getElem?_toList->ZS,length_toList->wq,mem_toList_iff->Nj,size_map->ZV,toList->YQ,toList_filterMap->Z5,toList_inj->M9,toList_map->ZX,toList_push->Z2
open Array.Perm renaming rfl->ZM
open Bool renaming and_eq_true->mH,and_eq_true_iff->KM,and_self->YT,and_true->Bs,false->bn,false_eq_true->uD,false_ne_true->MR,not_eq_true'->Fi,or_eq_false_iff->YY,or_eq_true->aag,or_eq_true_iff->uB,or_true->ZD,true->M,true_and->Nn
open Char renaming toNat->Bq
open Classical renaming byContradiction->BF
open Decidable renaming decide->ci
open False renaming elim->Ps
open ForIn renaming forIn->wi
open ForInStep renaming yield->uA
open Int renaming add_comm->Mm,add_zero->Zs,fmod->ZB,fmod_lt_of_pos->aak,le_of_eq->EV,le_of_lt->ME,le_trans->qK,lt_iff_le_and_ne->YD,lt_irrefl->YB,lt_of_le_of_lt->EU,lt_of_lt_of_le->ET,lt_trans->EW,min_eq_left->YH,mul_one->Y0,natCast_nonneg->pE,ne_of_gt->YE,negSucc->EO,negSucc_lt_zero->E4,neg_le_neg->YK,not_lt->qL,ofNat->n5,ofNat_inj->wu,ofNat_le->sr,ofNat_lt->pD,subNatNat_add_left->Yw,sub_zero->Yy,toNat->Mx,toNat_natCast->Zm,zero_add->E_
open Int.ofNat renaming inj->Mr
open LawfulMonad renaming pure_bind->FG
open List renaming all_append->YS,all_cons->pJ,all_eq_true->Do,any_cons->ue,any_eq_false->Zc,any_eq_true->Bv,append_assoc->qU,append_nil->SZ,cons_append->YR,drop_drop->Y7,drop_eq_nil_of_le->Zx,drop_succ_cons->Zw,drop_take->Y2,ext_getElem->ZP,filterMap_cons->BH,filterMap_map->Y1,filter_congr->Np,filter_cons->sR,filter_filter->aai,filter_sublist->BN,flatMap_cons->pP,forIn_cons->MW,getD_eq_getElem?_getD->BJ,getElem?_eq_getElem->FP,getElem?_eq_none->YV,getElem?_eq_some_iff->Z_,getElem?_toArray->yu,getElem_map->ZQ,getElem_mem->Nt,head?_drop->Y6,isEmpty_iff->uu,length->Nk,length_append->xz,length_cons->Da,length_eq_zero_iff->yn,length_filterMap_le->ZC,length_filter_le->pQ,length_map->sw,length_nil->Bx,length_reverse->FJ,length_take->Y4,map->mM,map_append->uk,map_cons->UV,map_flatMap->FU,map_inj_left->Zb,map_map->mL,mem_append->pI,mem_cons->wl,mem_cons_of_mem->wv,mem_cons_self->wf,mem_filter->yP,mem_filterMap->Zy,mem_flatMap->FV,mem_map->No,mem_of_getElem?->E6,mem_reverse->M4,mem_singleton->IR,nil_append->qX,nodup_append->yv,nodup_cons->uj,nodup_nil->sy,not_mem_nil->sI,pairwise_cons->sQ,pairwise_iff_getElem->M_,pairwise_map->Nq,pairwise_singleton->ZO,push_toArray->MZ,range->mJ,rec->Mh,reverse_cons->wm,size_toArray->wP,take_of_length_le->Fu,toArray->mG
open List.Pairwise renaming nil->Nb
open List.Perm renaming append_left->Z4,of_eq->Z3,refl->yO,swap->Na,trans->ZR
open List.Sublist renaming refl->Z8
open List.cons renaming inj->Fv,injEq->Mz
open Max renaming max->wT
open Min renaming min->Fa
open Nat renaming add->Bg,add_assoc->Ms,add_le_add->yl,add_le_add_left->qI,add_le_add_right->Sc,add_left_cancel->Zt,add_sub_cancel_left->Ml,beq->pi,beq_refl->Bw,ble->u8,ble_eq_true_of_le->qY,eq_of_beq_eq_true->AC,exists_eq_add_of_le->Yv,le_add_left->E',le_add_of_sub_le->Mk,le_add_right->GM,le_antisymm->KE,le_max_left->wS,le_max_right->zn,le_of_ble_eq_true->ww,le_of_eq->nY,le_of_lt->ML,le_of_lt_succ->Bj,le_of_not_lt->Mq,le_of_succ_le_succ->EX,le_refl->ul,le_sub_one_of_lt->Yz,le_succ->Fe,le_succ_of_le->MC,le_total->YG,le_trans->io,lt_irrefl->mF,lt_of_le_of_lt->W1,lt_of_le_of_ne->ES,lt_of_lt_of_le->qJ,lt_of_not_le->YA,lt_of_succ_lt_succ->vY,lt_or_ge->n6,lt_succ_of_lt->sO,lt_succ_self->uz,lt_trans->MB,min_eq_left->ER,min_eq_right->Mn,min_le_left->ym,min_le_right->vX,mul_comm->YF,mul_le_mul->M3,mul_le_mul_left->Yu,mul_le_mul_right->Bi,mul_one->Mj,ne_of_gt->pC,ne_of_lt->PP,noConfusion->yM,not_le_of_lt->My,not_lt->yw,not_lt_of_le->FL,not_lt_zero->uC,not_succ_le_self->YC,rec->Mi,sub_add_cancel->lm,sub_le->n7,sub_le_of_le_add->Mp,sub_lt_sub_left->Mo,succ_le_succ->v7,succ_mul->yG,succ_ne_self->Zv,succ_ne_zero->YI,two_mul->Yx,zero_add->sq,zero_le->Gc,zero_mul->Bh
open Nat.succ renaming inj->n0
open Ne renaming symm->SB
open Option renaming bind->FT,bind_eq_some_iff->sD,bind_some->wo,getD_none->MG,isSome_iff_exists->Bz,map_eq_some_iff->On,map_some->Z6,ne_none_iff_exists'->lJ,none->am,some->O
open Option.some renaming inj->ii
open Or renaming imp->wx
open Prod.mk renaming inj->Op,injEq->Mt
open Pure renaming pure->re
open PyProof.Rows renaming Assign_Tuple->Zz,IntsAre->n4,get?_update_seq->Nd,joinParts_cons->MP,listUpdate_at->Nc,seqObj->FS,slot_tuple_getitem->E7,subscriptTail->v8
open PyProof.Rows.F renaming plain_set_update_loop->FR
open PySem renaming Addr->be,Around->pc,CmpOp->sA,Comprehension->yp,Draws->sL,Env->ln,Expr->kt,Fin->TD,FuncData->Bk,GenState->EZ,Heap->li,IsPair->n8,IsPart->Bu,IsZip->qV,NameKind->SL,Obj->Db,Operator->Bn,OsState->t_,Params->xL,Pos->KF,Program->EY,PyData->Br,Reads->qP,ReadsAll->qO,Scope->na,Sem->wE,SetTable->qR,Shared->ce,Slot->Fo,Stmt->sB,Str->f8,Tok->SC,Value->bm,Within->yy,World->lw,arm_eval_Call->Fp,arm_eval_Call_Name'->yB,assign->wh,assignEach->sJ,assignInOrder->wg,backTo->yz,behindInMarks->Mw,binaryOp->pH,bootBuiltins->MM,builtinLookup_eq_fast->Z9,builtinsNs->Ff,cLine->NE,call->po,callEnvC->BI,callWith->wd,call_list_seq->MI,callerA->yo,codeAny->mK,codeAny_builtin->ui,codeAny_call_builtin->M6,codeAny_mono->BG,codeAny_of_tree->MV,compEnvC->BE,compTurn->wk,compareOp->Tl,comprehension->M0,constantsAlone->Mu,entryFor->Fc,eval->Fk,exec->pM,execs->uy,field->sE,foldedForSure->Mv,foldedSetIterable->sP,getItem->uc,getMethod_builtin->Fs,getattributeRaised->Y5,holding->mI,importedModules->Bl,int_text_length_le10->Ze,isTrue->sG,keeperOf->Fj,mainGlobals->ua,mem_of_lookup->M',merged->yt,methodCall->Fq,methodCallPos->ur,model->cr,newList->Bo,nsFind->sx,ofAClassStatement->ZZ,ofString_length->Zf,plainId_quiet->wb,plainObj_wpAny_Assign_Attribute->FK,pyIter->lK,pyNext->n9,rawInt->wa,recursionLimit->MN,searchCouldBeSeen->Z0,seqIndex?->yq,setAddHashed->BL,setsByText->Nm,sizeLine->E0,sizeLine_eq->pG,sliceBounds->MF,slot_dict_getitem->YX,slot_list_getitem->YW,spliced->uq,standAt->qQ,starEach->uo,storeName->BC,stored->pL,strKind->AT,strLen_append->we,swappedStores->FI,swapsWith->yH,sysModules->ub,treeTable->v5,tupleKind->E8,tupleKind_room_in1->YZ,typeOf->Bt,valueAt->Rs,wpAny->ca,wpAny_Assign_Name->FH,wpAny_Assign_Subscript->ZE,wpAny_Constant_str->Zd,wpAny_Expr_any->FN,wpAny_Name->um,wpAny_askSetting->yF,wpAny_assign_Name->Fw,wpAny_attempt->FA,wpAny_bind->dL,wpAny_call->yJ,wpAny_callSpecial?_slot->v9,wpAny_call_entry->qT,wpAny_eqIsQuiet_tuple->Z1,wpAny_execs_cons->Re,wpAny_execs_nil->FF,wpAny_forIn_list->Ni,wpAny_holding->sF,wpAny_letTemporaryGo->YU,wpAny_list_append_plain->MY,wpAny_load->MO,wpAny_mono->ss,wpAny_newList->Bp,wpAny_newObj_type->uh,wpAny_newTuple->E3,wpAny_notOrdered_dict->Y',wpAny_of_eq->sH,wpAny_onRaise->FE,wpAny_pure->lf,wpAny_pyIter_enum->Zu,wpAny_pyIter_list->MK,wpAny_setField_rec->E9,wpAny_setItem_pairs->M5,wpAny_specialOf->MD,wpAny_storeSet_of->Z7,wpAny_truthy_bool->Fg,wpAny_updateSeq_pair->MT
open PySem.Around renaming under_plainId->wc
open PySem.Builtin.Dict renaming selfAndRest->Y9,updateFrom->Y8
open PySem.Builtin.List renaming listExtendWith->aad,listSameRef->aae
open PySem.Builtin.Slice renaming sliceAdjust->MH,sliceApplied->Y3,slicePlaces->Fb
open PySem.Builtin.SmallTypes renaming nextOf->uw,ownedTupleHandOut->Zr,ownedTupleIsFree->FD
open PySem.Calls renaming callWith_builtin->Ft,spliced_cons->yA
open PySem.Data renaming noConfusion->Fh
open PySem.Expr renaming Call->ZK,FormattedValue->ZL
open PySem.F renaming args_tuple_add_2->YN,args_tuple_iterator_next_1->Zl,args_zip_next_1->Zq,called_set->uF,entry_tuple_add->YM,entry_tuple_iterator_next->Zj,entry_zip_next->Zp,plainAttrs_dict->Zh,plainAttrs_list->BB,plain_list_iadd->aac,slot_dict_items->Zi,slot_dict_update->M8,slot_list_append->ZH,slot_list_extend->M7,slot_list_getattribute->MJ,slot_list_remove->ZF,slot_set_iter->aab,slot_tuple_add->YL,slot_tuple_iterator_next->Fx,slot_zip_next->FC,type_list_append->ZJ
open PySem.Heap renaming ExtBut->BD,SameBut->ug,get?_none_of_le->MU,get?_push_ne->ZU,get?_push_of_some->tz,get?_push_size->Ix,get?_update_ne->yL,get?_update_other->aaf,get?_update_self->yE,lt_size->FM,size_push->ux
open PySem.Heap.DictOf renaming new->Fd
open PySem.Heap.SameBut renaming update->Fy
open PySem.NameKind renaming free->pO,noConfusion->qW
open PySem.Obj renaming data_mapFields->Zn,mapSeq->lL,putSet->BK
open PySem.PyData renaming canLayAll0->qN,depthAll->ud,eqv->Tk,eqvAll->E5,strOk->sC
open PySem.SetTable renaming Met->Ng,below->FQ,grown->Nh,insertAt->KB
open PySem.Shared renaming TypeIs->Nl
open PySem.Spec renaming countIn->MQ
open PySem.Spec.Shape renaming bool->Zg
open PySem.Str renaming ofString->to,ofStringByList->YP,ofString_eq_byList->YO
open PySem.Value renaming isStr->uf,none->Uf,ref->Ev,str->By,type->uE
open PySem.Value.ref renaming inj->Os
open PySem.W renaming Frag->TT,KTurns->sM,SharedT->vZ,boot_heap->su,emptyDict->wt,findIn->Wp,instObj->uG,makesIn->BM,openGood->Bm,plainOver->Fn
open ToString renaming toString->qM
open _root_ renaming Array->sK,Bool->an,Decidable->Mg,DecidableEq->YJ,False->wn,Int->al,List->W,Nat->X,Option->im,String->IN,True->WF,Unit->UF,absurd->nw,beq_eq_false_iff_ne->Za,beq_iff_eq->v_,beq_self_eq_true->ZG,bne_self_eq_false->ZW,cond_false->FW,cond_true->Nr,congr->EN,congrArg->lc,decide_eq_decide->lM,decide_eq_false->EQ,decide_eq_false_iff_not->aah,decide_eq_true->FB,decide_eq_true_eq->yr,decide_true->Y_,funext->T0,if_false->pK,if_neg->f0,if_pos->jp,if_true->qS,not_or->wj,of_decide_eq_false->Nf,of_decide_eq_true->ut,or_false->yD,propext->BA,rfl->N,trivial->tt
namespace Internal
open PySem PySem.W PySem.W.X PyProof.Rows PySem.SeqAt PySem.Calls
section
variable{A:Sort z}{x y:A}{i:A->Prop}
@[elab_as_elim] theorem eR (h:x=y) (k:i y):i x:=by cases h;exact k
@[elab_as_elim] theorem eL (h:y=x) (k:i y):i x:=by cases h;exact k
@[elab_as_elim] theorem bE (e:z=cond b x y) (t:b=M->i x) (f:b=bn->i y):i z:=by
 cases e;cases b
 ·exact f N
 ·exact t N
theorem bT(h:b=M):cond b x y=x:=h▸N
theorem bF(h:b=bn):cond b x y=y:=h▸N
theorem cT{p:Prop} [Mg p](h:p):cond (ci p) x y=x:=bT (FB h)
theorem cF{p:Prop} [Mg p](h:¬p):cond (ci p) x y=y:=bF (EQ h)
@[reducible] noncomputable def lr {A:Type u} {B:Sort v} (n:B) (c:A->W A->B->B) (l:W A):B:=Mh n c l
@[reducible] noncomputable def nr {B:Sort v} (z:B) (s:X->B->B) (n:X):B:=Mi z s n
noncomputable def HT{A:Type u}(d:A)(l:W A):X->A:=lr (λ_=>d) (λa _ B n=>nr a (λn _=>B n) n) l
@[elab_as_elim] theorem cB {A:Type u} {P:W A->Prop} (l:W A) (n:P []) (c:∀x r,P r->P (x::r)):P l:=Mh n c l
@[elab_as_elim] theorem gV {A:Type u} {B:Type v} {P:W (A×B)->Prop} (l:W (A×B)) (n:P []) (c:∀x y r,P r->P ((x,y)::r)):P l:=Mh n (λx=>c x.1 x.2) l
@[elab_as_elim] theorem w9 {P:X->Prop} (l:X) (n:P 0) (c:∀r,P r->P (r+1)):P l:=Mi n c l
end
set_option genInjectivity false in
set_option genCtorIdx false in
inductive Tm|v (i:X)|n (k:X)|a (x y:Tm)|m (k:X) (x:Tm)
set_option genInjectivity false in
structure Fm where
 k:X
 w:X
 l:Tm
 r:Tm
noncomputable def HU:W X->X->X
 |[],_=>0
 |x::_,0=>x
 |_::c,i+1=>HU c i
noncomputable def Tm.d(c:W X):Tm->X
 |.v i=>HU c i
 |.n k=>k
 |.a x y=>x.d c+y.d c
 |.m k x=>k*x.d c
noncomputable def Fm.d(c:W X)(f:Fm):Prop:=
 match f.k with
 |0=>f.l.d c≤f.r.d c
 |1=>f.l.d c<f.r.d c
 |_=>f.l.d c=f.r.d c
noncomputable def QN(c:W X)(l:W Fm):Prop->Prop:=lr (λp=>p) (λf _ A p=>A (f.d c->p)) l
noncomputable def qk(c:W X):W Fm->Prop
 |[]=>WF
 |g::t=>QN c t (g.d c)
noncomputable def ki(p:W X):W X->W X:=lr (λq=>q) (λx p A q=>lr (x::p) (λy q _=>(x+y)::A q) q) p
noncomputable def CJ(k:X)(p:W X):W X:=lr [] (λx _ A=>(k*x)::A) p
noncomputable def xh(p:W X):W X->an:=lr (λ_=>M) (λx _ A q=>lr (u8 x 0&&A []) (λy q _=>u8 x y&&A q) q) p
noncomputable def Qk(i:X):W X:=nr [1] (λ_ A=>0::A) i
noncomputable def Tm.p(t:Tm):W X:=Tm.rec (λi=>0::Qk i) (λk=>[k]) (λ_ _ a b=>ki a b) (λk _ a=>CJ k a) t
noncomputable def fO(c:W X):W X->X:=lr (λ_=>0) (λa _ A p=>lr 0 (λk p _=>k*a+A p) p) c
theorem B0(p):fO [] p=0:=by cases p<;>rfl
theorem uL(c):∀p q,fO c (ki p q)=fO c p+fO c q:=by
 induction c with
 |nil=>intro p q;simp only [B0]
 |cons a c A=>
  intro p q
  cases p with
  |nil=>exact (sq _).symm
  |cons x p=>cases q with
   |nil=>rfl
   |cons y q=>exact (EN (lc Bg (Nat.add_mul x y a)) (A p q)).trans (Nat.add_add_add_comm ..)
theorem Gw(k)(c):∀p,fO c (CJ k p)=k*fO c p:=by
 induction c with
 |nil=>intro p;simp only [B0,Nat.mul_zero]
 |cons a c A=>
  intro p
  cases p with
  |nil=>rfl
  |cons x p=>exact (EN (lc Bg (Nat.mul_assoc k x a)) (A p)).trans (Nat.mul_add ..).symm
theorem adE(c):∀p q,xh p q=M->fO c p≤fO c q:=by
 induction c with
 |nil=>intro p q _;simp only [B0];exact ul 0
 |cons a c A=>
  intro p q h
  cases p with
  |nil=>exact Gc _
  |cons x p=>cases q with
   |nil=>
    have h:(u8 x 0&&xh p [])=M:=h
    have B:=A _ _ ((KM.mp h).2)
    have:x=0:=Nat.le_zero.mp (ww ((KM.mp h).1))
    subst this
    show 0*a+fO c p≤0
    rw [Bh,sq]
    cases c<;>exact B
   |cons y q=>
    have h:(u8 x y&&xh p q)=M:=h
    exact yl (Bi a (ww ((KM.mp h).1))) (A _ _ ((KM.mp h).2))
theorem ack(c):∀i,fO c (Qk i)=HU c i:=by
 induction c with
 |nil=>intro i;simp only [B0];rfl
 |cons a c A=>intro i;cases i with
  |zero=>cases c<;>exact Nat.one_mul a
  |succ i=>exact (EN (lc Bg (Bh a)) (A i)).trans (sq _)
theorem kP(c)(t:Tm):fO (1::c) t.p=t.d c:=by
 induction t with
 |v i=>exact (lc (Bg (0*1)) (ack c i)).trans (sq _)
 |n k=>cases c<;>exact Mj k
 |a x y A B=>exact (uL ..).trans (EN (lc Bg A) B)
 |m k x A=>exact (Gw ..).trans (lc (Nat.mul k) A)
noncomputable def Fm.lp(f:Fm):W X:=match f.k with|0=>f.l.p|1=>ki f.l.p [1]|3=>f.r.p|_=>f.l.p
noncomputable def Fm.rp(f:Fm):W X:=match f.k with|3=>f.l.p|_=>f.r.p
noncomputable def CK(l:W Fm):W X:=lr [] (λf _ A=>ki (CJ f.w f.lp) A) l
noncomputable def CL(l:W Fm):W X:=lr [] (λf _ A=>ki (CJ f.w f.rp) A) l
noncomputable def nt:W Fm->an
 |[]=>M
 |g::t=>bif u8 g.k 1 then xh (ki g.lp (CL t)) (ki g.rp (CK t))else bn
theorem Fm.ok{c:W X}{f:Fm}(h:f.d c):fO (1::c) f.lp≤fO (1::c) f.rp:=by
 match f,h with
 |⟨0,_,l,r⟩,h=>exact (kP c l).symm▸(kP c r).symm▸h
 |⟨1,_,l,r⟩,h=>
  show fO (1::c) (ki l.p [1])≤fO (1::c) r.p
  refine eR (uL ..) (eR (kP ..) (eR (kP ..) ?_))
  have:fO (1::c) [1]=1:=by cases c<;>rfl
  rw [this];exact h
 |⟨2,_,l,r⟩,h=>exact (kP c l).symm▸(kP c r).symm▸nY h
 |⟨3,_,l,r⟩,h=>exact (kP c l).symm▸(kP c r).symm▸nY (Eq.symm h)
 |⟨_+4,_,l,r⟩,h=>exact (kP c l).symm▸(kP c r).symm▸nY h
theorem Fm.of{c:W X}{f:Fm}(k:u8 f.k 1=M)(h:fO (1::c) f.lp≤fO (1::c) f.rp):f.d c:=by
 match f,k,h with
 |⟨0,_,l,r⟩,_,h=>
  have h:fO (1::c) l.p≤fO (1::c) r.p:=h
  rw [kP,kP]at h;exact h
 |⟨1,_,l,r⟩,_,h=>
  have h:fO (1::c) (ki l.p [1])≤fO (1::c) r.p:=h
  rw [uL,kP,kP]at h
  have e:fO (1::c) [1]=1:=by cases c<;>rfl
  rw [e]at h;exact h
theorem adF(c:W X):∀(t:W Fm) (p:Prop),(fO (1::c) (CK t)≤fO (1::c) (CL t)->p)->QN c t p:=λt=>cB t (λY h=>h (ul _)) λf t A p h=>A (f.d c->p) λB C=>h (by
   show fO (1::c) (ki _ _)≤fO (1::c) (ki _ _)
   exact eR (uL ..) (eR (uL ..) (eR (Gw ..) (eR (Gw ..) (yl (Yu _ (Fm.ok C)) B)))))
theorem q6(h:nt B=M):qk c B:=by
 match B,h with
 |[],_=>trivial
 |g::t,h=>
  refine adF c t _ λC=>?_
  cases A:u8 g.k 1 with
  |false=>exact nomatch(lc (λb=>bif b then xh (ki g.lp (CL t)) (ki g.rp (CK t))else bn) A).symm.trans h
  |true=>
   have h:=adE (1::c) _ _ ((lc (λb=>bif b then xh (ki g.lp (CL t)) (ki g.rp (CK t))else bn) A).symm.trans h)
   rw [uL,uL]at h
   exact Fm.of A (Nat.le_of_add_le_add_right (io h (qI C _)))
noncomputable def Tm.j:Tm->Tm->Tm
 |.n x,.n y=>.n (10*x+y)
 |x,_=>x
noncomputable def Tm.t:Tm->Tm->Tm
 |.n x,y=>.m x y
 |x,_=>x
noncomputable def eO:X->X->W Tm->W Fm->W Fm
 |0,_,_,o=>o
 |f+1,n,s,o=>
  match n %32,s,o with
  |0,_,o=>o
  |1,y::x::s,o=>eO f (n/32) (.a x y::s) o
  |2,y::x::s,o=>eO f (n/32) (x.t y::s) o
  |3,y::x::s,o=>eO f (n/32) (x.j y::s) o
  |4,y::x::s,o=>eO f (n/32) s (⟨0,1,x,y⟩::o)
  |5,y::x::s,o=>eO f (n/32) s (⟨1,1,x,y⟩::o)
  |6,y::x::s,o=>eO f (n/32) s (⟨2,1,x,y⟩::o)
  |7,y::x::s,o=>eO f (n/32) s (⟨3,1,x,y⟩::o)
  |8,s,⟨k,w,x,y⟩::o=>eO f (n/32) s (⟨k,w+1,x,y⟩::o)
  |9,s,⟨k,_,x,y⟩::o=>eO f (n/32) s (⟨k,0,x,y⟩::o)
  |10,s,o=>eO f (n/32) (.n 100000::s) o
  |11,s,o=>eO f (n/32) (.n 4096::s) o
  |12,s,o=>eO f (n/32) (.n 900::s) o
  |13,s,o=>eO f (n/32) (.n 100::s) o
  |t+14,s,o=>eO f (n/32) ((bif u8 10 t then .v (t-10)else .n t)::s) o
  |_,_,o=>o
theorem L0(n:X)(h:nt (eO 64 n [] [])=M):qk [] (eO 64 n [] []):=q6 h
theorem L1(n:X)(h:nt (eO 64 n [] [])=M):qk [a] (eO 64 n [] []):=q6 h
theorem L2(n:X)(h:nt (eO 64 n [] [])=M):qk [a,b] (eO 64 n [] []):=q6 h
theorem L3(n:X)(h:nt (eO 64 n [] [])=M):qk [a,b,c] (eO 64 n [] []):=q6 h
theorem L4(n:X)(h:nt (eO 64 n [] [])=M):qk [a,b,c,d] (eO 64 n [] []):=q6 h
theorem L5(n:X)(h:nt (eO 64 n [] [])=M):qk [a,b,c,d,e] (eO 64 n [] []):=q6 h
theorem L6(n:X)(h:nt (eO 64 n [] [])=M):qk [a,b,c,d,e,f] (eO 64 n [] []):=q6 h
theorem L7(n:X)(h:nt (eO 64 n [] [])=M):qk [a,b,c,d,e,f,g] (eO 64 n [] []):=q6 h
theorem Vv{a b:X}:a≤a-b+b:=Mk (ul _)
theorem OR{a n:X}(h:a+1≤n):EO a+(n:al)=((n-(a+1):X):al):=by
 obtain ⟨m,rfl⟩:=Yv h
 exact Yw.trans (lc Nat.cast (Ml ..).symm)
theorem HG(h:x≤y):(x+y)/2≤y:=Nat.div_le_of_le_mul ((Yx y).symm▸Sc h y)
theorem Ql(h:x<y):(x+y)/2<y:=Nat.div_lt_of_lt_mul ((Yx y).symm▸Nat.add_lt_add_right h y)
theorem ax0:(1+((A:X):al))=(((A:X):al)+1):=Mm _ _
theorem ax1{A:X}{B:X}:(Fa A B)<A->(Fa A B)=B:=λh=>Mn (Nat.le_of_not_le λk=>nw h ((ER k).symm▸mF _))
theorem ax2{A:X}{B:X}:A≤(Fa A B)->(Fa A B)=A:=λh=>KE (ym ..) h
theorem ax3{A:X}{B:X}{C:X}:A<(Fa B C)->A<B:=λh=>qJ h (ym ..)
theorem ax4{A:X}{C:X}{B:X}:A<(Fa C B)->A<B:=λh=>qJ h (vX ..)
theorem QO:((A+1)+((B:X):al))=(A+(((B+1):X):al)):=(Int.add_assoc ..).trans (lc _ (Mm ..))
theorem ax6:((A:X):al)≤1000->A≤4096:=λh=>io (sr.mp h) (by decide)
theorem ax7:(0+(((0:X):al)*1))=0:=N
theorem ax8:(((A:X):al)-((0:X):al))=((A:X):al):=Yy _
theorem ax9:(B+4096)≤16777216->A≤4096->(B+(A*1))≤16777216:=λh k=>(Mj A).symm▸io (qI k _) h
theorem Qm{A:X}{B:X}:¬(A=B)->B≤A->B<A:=λh k=>ES k (SB h)
theorem afp:(((0+A)-1)-B)=((A-1)-B):=eR (sq ..) N
theorem afq:C<A->A<B->((B-1)-A)<((B-1)-C):=λh k=>Mo (qJ h (Yz k)) h
theorem afr:2≤A->B≤(1+(A-1))->(B-1)<A:=λh k=>qJ (W1 (Nat.sub_le_sub_right k 1) (eR (Ml ..) (Nat.sub_lt (qJ (by decide) h) (by decide)))) (ul _)
theorem zE:B<C->D≤A->A≤B->((D+A)/2)<C:=λh a b=>W1 (io (HG a) b) h
theorem afs:A≤B->A≤((A+B)/2):=λh=>(Nat.le_div_iff_mul_le (by decide)).mpr ((Nat.mul_two A).symm▸qI h A)
theorem aft:B≤A->A≤C->((B+A)/2)≤C:=λh k=>io (HG h) k
theorem afu:(B-A)≤(C+1)->(((A+B)/2)-A)≤C:=λh=>Mp (Bj ((Nat.div_lt_iff_lt_mul (by decide)).mpr (by
 have D:=Mk h
 lia)))
theorem afv:¬(A≤B)->(((B+A)/2)+1)≤A:=λh=>Ql (YA h)
theorem afw:(A-B)≤(D+1)->(A-(((B+A)/2)+1))≤D:=λh=>Mp (by
 have C:=Nat.lt_mul_div_succ (B+A) (by decide:0<2)
 have E:=Mk h
 revert C
 generalize (B+A)/2=m
 intro C
 lia)
theorem afx:B<C->D≤A->A≤B->E<(((D+A)/2)+1)->E<C:=λh a b k=>W1 (io (Bj k) (io (HG a) b)) h
theorem Qn:A≤B->¬(A≤C)->((C+A)/2)<B:=λh k=>qJ (Ql (YA k)) h
theorem afy:A≤B->¬(A≤C)->¬(B=((C+A)/2)):=λh k=>pC (Qn h k)
theorem afz:C≤B->A<(B+1)->¬(A=C)->¬((C<A∧A≤B))->A<B:=λh k a b=>ES (Bj k) λe=>b ⟨e▸ES h λq=>a (e.trans q.symm),nY e⟩
theorem afA:1≤A->(wT A 1)=A:=Nat.max_eq_left
theorem afB{A:al}{B:al}:A=B->¬(A<B):=λh=>h▸YB _
theorem afC:A=B->B=C->(C-D)=(E+1)->D<A:=λa b c=>a▸b▸Nat.lt_of_sub_eq_succ c
theorem afD:¬(((63:X):al)<((A:X):al))->A≤63:=λh=>Mq λk=>h (pD.mpr k)
theorem afE:B≤A->¬(((B:X):al)=(((A+1):X):al)):=λh e=>nw (Mr e▸h:A+1≤A) (YC _)
theorem afF{A:al}:¬(A<A):=YB _
theorem HH:0<A->0<((A:X):al):=λh=>pD.mpr h
theorem afG:((A:X):al)<((B:X):al)->A<B:=pD.mp
theorem afH:(0≤A∧A≤100000)->((-1000000000)<A∧A<1000000000):=λh=>⟨ET (by decide) h.1,EU h.2 (by decide)⟩
theorem afI:A≤100000->((-1000000000)<((A:X):al)∧((A:X):al)<1000000000):=λh=>⟨ET (by decide) (pE _),pD.mpr (W1 h (by decide))⟩
theorem afJ:A≤100000->((-1000000000)<(31*((A:X):al))∧(31*((A:X):al))<1000000000):=λh=>⟨ET (by decide) (pE (31*A)),pD.mpr (W1 (Yu 31 h) (by decide))⟩
theorem afK:0≤((A:X):al):=pE _
theorem afL:(0≤A∧A≤(88*((C:X):al)))->0≤B->B<89->(0≤(B+A)∧(B+A)≤(88*(((C:X):al)+1))):=λh k l=>⟨Int.add_nonneg k h.1,qK (EV (Mm ..)) (qK (Int.add_le_add h.2 (Int.le_of_lt_add_one l)) (EV (Int.mul_add ..).symm))⟩
theorem afM:(Fa 60 A)≤60:=ym ..
theorem afN:(0≤A∧A≤(88*((B:X):al)))->B≤60->A≤100000:=λh k=>qK h.2 (qK (Int.mul_le_mul_of_nonneg_left (sr.mpr k) (by decide)) (by decide))
theorem afO:A≤3->(A*9)≤27:=Bi 9
theorem afP:A≤3->(A*3)≤4096:=λh=>io (Bi 3 h) (by decide)
theorem afQ{A:al}{B:al}:¬(A<B)->¬(A=B)->B<A:=λh k=>YD.mpr ⟨qL.mp h,SB k⟩
theorem afR{A:al}{B:al}:A<B->¬(B<A):=Int.lt_asymm
theorem afS{A:al}{B:al}:A<B->¬(B=A):=YE
theorem afT{A:al}{B:al}{C:al}:A<B->B<C->A<C:=EW
theorem afU{A:al}{B:al}{C:al}:A<B->B=C->A<C:=λh e=>e▸h
theorem afV{A:al}{B:al}{C:al}:A=B->B<C->A<C:=λe h=>e▸h
theorem afW{A:al}{B:al}{C:al}:¬(A<B)->¬(B<C)->¬(A<C):=λh k=>qL.mpr (qK (qL.mp k) (qL.mp h))
theorem afX:A=B->B=C->A=C:=Eq.trans
theorem afY{A:al}:0<A->¬(A=0):=YE
theorem afZ:(A+1)≤(B+1)->(A/128)≤B:=λh=>io (Nat.div_le_self ..) (EX h)
theorem af0:(((A/128)*128)+((A %128)+1))=(A+1):=eL (Ms ..) (eR (Nat.div_add_mod' ..) N)
theorem af1:A<128->(((B*128)+A)%128)=A:=λh=>eR (YF ..) (eR (Nat.mul_add_mod ..) (eR (Nat.mod_eq_of_lt h ..) N))
theorem af2:A<128->(((B*128)+A)/128)=B:=λh=>eR (YF ..) (eR (Nat.mul_add_div (by decide) ..) (eR (Nat.div_eq_of_lt h ..) (eR (Nat.add_zero ..) N)))
theorem af3:((A*128)+(C+1))≤(B+1)->A≤B:=λh=>io (Nat.le_mul_of_pos_right _ (by decide)) (io (GM ..) (EX h))
theorem Qo:(A+4)<B->C≤1->((A+1)+(Fa D C))<B:=λh k=>W1 (qI (io (vX ..) k) _) (W1 (qI (by decide:1+1≤4) A) h)
theorem af4:(Fa ((A:X):al) ((B:X):al))=(((Fa A B):X):al):=by
 rcases YG A B with h|h
 ·rw [ER h,YH (sr.mpr h)]
 ·rw [Mn h,Int.min_eq_right (sr.mpr h)]
theorem af5:A=0->0=((A:X):al):=λh=>h▸N
theorem af6:A=B->((B:X):al)=((A:X):al):=λh=>h▸N
theorem af7:((A:X):al)<B->¬(B≤((A:X):al)):=Int.not_le.mpr
theorem ff{p q:Prop}(A:p)(B:q):p∧q:=⟨A,B⟩
theorem bt{p q r:Prop}(A:p)(B:q)(C:r):p∧q∧r:=⟨A,B,C⟩
theorem HV{p q r s:Prop}(A:p)(B:q)(C:r)(D:s):p∧q∧r∧s:=⟨A,B,C,D⟩
theorem C2{p q r s t:Prop}(A:p)(B:q)(C:r)(D:s)(E:t):p∧q∧r∧s∧t:=⟨A,B,C,D,E⟩
theorem l9{p q r s t u:Prop}(A:p)(B:q)(C:r)(D:s)(E:t)(F:u):p∧q∧r∧s∧t∧u:=⟨A,B,C,D,E,F⟩
theorem zT{A:Sort u1}{p:A->Prop}(x:A)(B:p x):∃(x:A),p x:=⟨x,B⟩
theorem ay{A:Sort u1}{p q:A->Prop}(x:A)(B:p x)(C:q x):∃(x:A),p x∧q x:=⟨x,B,C⟩
theorem cq{A:Sort u1}{p q r:A->Prop}(x:A)(B:p x)(C:q x)(D:r x):∃(x:A),p x∧q x∧r x:=⟨x,B,C,D⟩
theorem dG{A:Sort u1}{p q r s:A->Prop}(x:A)(B:p x)(C:q x)(D:r x)(E:s x):∃(x:A),p x∧q x∧r x∧s x:=⟨x,B,C,D,E⟩
theorem cz{A:Sort u1}{p q r s t:A->Prop}(x:A)(B:p x)(C:q x)(D:r x)(E:s x)(F:t x):∃(x:A),p x∧q x∧r x∧s x∧t x:=⟨x,B,C,D,E,F⟩
theorem QP{A:Sort u1}{p q r s t u:A->Prop}(x:A)(B:p x)(C:q x)(D:r x)(E:s x)(F:t x)(H:u x):∃(x:A),p x∧q x∧r x∧s x∧t x∧u x:=⟨x,B,C,D,E,F,H⟩
theorem dC{A:Sort u1}{B:Sort u2}{p:A->B->Prop}(x:A)(y:B)(C:p x y):∃(x:A) (y:B),p x y:=⟨x,y,C⟩
theorem fV{A:Sort u1}{B:Sort u2}{p q:A->B->Prop}(x:A)(y:B)(C:p x y)(D:q x y):∃(x:A) (y:B),p x y∧q x y:=⟨x,y,C,D⟩
theorem d_{A:Sort u1}{B:Sort u2}{p q r:A->B->Prop}(x:A)(y:B)(C:p x y)(D:q x y)(E:r x y):∃(x:A) (y:B),p x y∧q x y∧r x y:=⟨x,y,C,D,E⟩
theorem zU{A:Sort u1}{B:Sort u2}{p q r s:A->B->Prop}(x:A)(y:B)(C:p x y)(D:q x y)(E:r x y)(F:s x y):∃(x:A) (y:B),p x y∧q x y∧r x y∧s x y:=⟨x,y,C,D,E,F⟩
theorem ql{A:Sort u1}{B:Sort u2}{C:Sort u3}{p:A->B->C->Prop}(x:A)(y:B)(z:C)(D:p x y z):∃(x:A) (y:B) (z:C),p x y z:=⟨x,y,z,D⟩
theorem nu{A:Sort u1}{B:Sort u2}{C:Sort u3}{p q:A->B->C->Prop}(x:A)(y:B)(z:C)(D:p x y z)(E:q x y z):∃(x:A) (y:B) (z:C),p x y z∧q x y z:=⟨x,y,z,D,E⟩
theorem HW{A:Sort u1}{B:Sort u2}{C:Sort u3}{p q r:A->B->C->Prop}(x:A)(y:B)(z:C)(D:p x y z)(E:q x y z)(F:r x y z):∃(x:A) (y:B) (z:C),p x y z∧q x y z∧r x y z:=⟨x,y,z,D,E,F⟩
theorem gB{A:Sort u1}{B:Sort u2}{C:Sort u3}{p q r s:A->B->C->Prop}(x:A)(y:B)(z:C)(D:p x y z)(E:q x y z)(F:r x y z)(H:s x y z):∃(x:A) (y:B) (z:C),p x y z∧q x y z∧r x y z∧s x y z:=⟨x,y,z,D,E,F,H⟩
theorem xi{A:Sort u1}{B:Sort u2}{C:Sort u3}{D:Sort u4}{p:A->B->C->D->Prop}(x:A)(y:B)(z:C)(i:D)(E:p x y z i):∃(x:A) (y:B) (z:C) (i:D),p x y z i:=⟨x,y,z,i,E⟩
theorem zV{A:Sort u1}{B:Sort u2}{C:Sort u3}{D:Sort u4}{p q:A->B->C->D->Prop}(x:A)(y:B)(z:C)(i:D)(E:p x y z i)(F:q x y z i):∃(x:A) (y:B) (z:C) (i:D),p x y z i∧q x y z i:=⟨x,y,z,i,E,F⟩
theorem xj{A:Sort u1}{B:Sort u2}{C:Sort u3}{D:Sort u4}{p q r s:A->B->C->D->Prop}(x:A)(y:B)(z:C)(i:D)(E:p x y z i)(F:q x y z i)(H:r x y z i)(I:s x y z i):∃(x:A) (y:B) (z:C) (i:D),p x y z i∧q x y z i∧r x y z i∧s x y z i:=⟨x,y,z,i,E,F,H,I⟩
theorem d6{A:Sort u1}{B:Sort u2}{C:Sort u3}{D:Sort u4}{p q r s t:A->B->C->D->Prop}(x:A)(y:B)(z:C)(i:D)(E:p x y z i)(F:q x y z i)(H:r x y z i)(I:s x y z i)(J:t x y z i):∃(x:A) (y:B) (z:C) (i:D),p x y z i∧q x y z i∧r x y z i∧s x y z i∧t x y z i:=⟨x,y,z,i,E,F,H,I,J⟩
section
variable{G:Prop}
section
variable{p q r s t u v w a b:Prop}
theorem rB(h:p∧q)(k:p->q->G):G:=k h.1 h.2
theorem oK(h:p∧q∧r)(k:p->q->r->G):G:=rB h.2 (k h.1)
theorem zX(h:p∧q∧r∧s)(k:p->q->r->s->G):G:=oK h.2 (k h.1)
theorem rC(h:p∧q∧r∧s∧t)(k:p->q->r->s->t->G):G:=zX h.2 (k h.1)
theorem jd(h:p∧q∧r∧s∧t∧u)(k:p->q->r->s->t->u->G):G:=rC h.2 (k h.1)
theorem C'(h:p∧q∧r∧s∧t∧u∧v)(k:p->q->r->s->t->u->v->G):G:=jd h.2 (k h.1)
theorem X08(h:p∧q∧r∧s∧t∧u∧v∧w)(k:p->q->r->s->t->u->v->w->G):G:=C' h.2 (k h.1)
theorem X09(h:p∧q∧r∧s∧t∧u∧v∧w∧a)(k:p->q->r->s->t->u->v->w->a->G):G:=X08 h.2 (k h.1)
theorem X0a(h:p∧q∧r∧s∧t∧u∧v∧w∧a∧b)(k:p->q->r->s->t->u->v->w->a->b->G):G:=X09 h.2 (k h.1)
end
section
variable{A:Sort _}
variable{p q r s t u:A->Prop}
theorem je(h:∃x,p x)(f:∀x,p x->G):G:=h.elim λx h=>f x h
theorem aQ(h:∃x,p x∧q x)(f:∀x,p x->q x->G):G:=h.elim λx h=>rB h (f x)
theorem dk(h:∃x,p x∧q x∧r x)(f:∀x,p x->q x->r x->G):G:=h.elim λx h=>oK h (f x)
theorem dn(h:∃x,p x∧q x∧r x∧s x)(f:∀x,p x->q x->r x->s x->G):G:=h.elim λx h=>zX h (f x)
theorem rD(h:∃x,p x∧q x∧r x∧s x∧t x)(f:∀x,p x->q x->r x->s x->t x->G):G:=h.elim λx h=>rC h (f x)
theorem xk(h:∃x,p x∧q x∧r x∧s x∧t x∧u x)(f:∀x,p x->q x->r x->s x->t x->u x->G):G:=h.elim λx h=>jd h (f x)
end
section
variable{A:Sort _}{B:Sort _}
variable{p q r s t u:A->B->Prop}
theorem fP(h:∃x y,p x y)(f:∀x y,p x y->G):G:=h.elim λx h=>h.elim λy h=>f x y h
theorem eD(h:∃x y,p x y∧q x y)(f:∀x y,p x y->q x y->G):G:=h.elim λx h=>h.elim λy h=>rB h (f x y)
theorem bX(h:∃x y,p x y∧q x y∧r x y)(f:∀x y,p x y->q x y->r x y->G):G:=h.elim λx h=>h.elim λy h=>oK h (f x y)
theorem qm(h:∃x y,p x y∧q x y∧r x y∧s x y)(f:∀x y,p x y->q x y->r x y->s x y->G):G:=h.elim λx h=>h.elim λy h=>zX h (f x y)
theorem X25(h:∃x y,p x y∧q x y∧r x y∧s x y∧t x y)(f:∀x y,p x y->q x y->r x y->s x y->t x y->G):G:=h.elim λx h=>h.elim λy h=>rC h (f x y)
theorem zY(h:∃x y,p x y∧q x y∧r x y∧s x y∧t x y∧u x y)(f:∀x y,p x y->q x y->r x y->s x y->t x y->u x y->G):G:=h.elim λx h=>h.elim λy h=>jd h (f x y)
end
section
variable{A:Sort _}{B:Sort _}{C:Sort _}
variable{p q r s t u v w a b:A->B->C->Prop}
theorem cC(h:∃x y z,p x y z)(f:∀x y z,p x y z->G):G:=h.elim λx h=>h.elim λy h=>h.elim λz h=>f x y z h
theorem zZ(h:∃x y z,p x y z∧q x y z)(f:∀x y z,p x y z->q x y z->G):G:=h.elim λx h=>h.elim λy h=>h.elim λz h=>rB h (f x y z)
theorem xl(h:∃x y z,p x y z∧q x y z∧r x y z)(f:∀x y z,p x y z->q x y z->r x y z->G):G:=h.elim λx h=>h.elim λy h=>h.elim λz h=>oK h (f x y z)
theorem cw(h:∃x y z,p x y z∧q x y z∧r x y z∧s x y z)(f:∀x y z,p x y z->q x y z->r x y z->s x y z->G):G:=h.elim λx h=>h.elim λy h=>h.elim λz h=>zX h (f x y z)
theorem rE(h:∃x y z,p x y z∧q x y z∧r x y z∧s x y z∧t x y z)(f:∀x y z,p x y z->q x y z->r x y z->s x y z->t x y z->G):G:=h.elim λx h=>h.elim λy h=>h.elim λz h=>rC h (f x y z)
theorem HX(h:∃x y z,p x y z∧q x y z∧r x y z∧s x y z∧t x y z∧u x y z)(f:∀x y z,p x y z->q x y z->r x y z->s x y z->t x y z->u x y z->G):G:=h.elim λx h=>h.elim λy h=>h.elim λz h=>jd h (f x y z)
theorem X3a(h:∃x y z,p x y z∧q x y z∧r x y z∧s x y z∧t x y z∧u x y z∧v x y z∧w x y z∧a x y z∧b x y z)(f:∀x y z,p x y z->q x y z->r x y z->s x y z->t x y z->u x y z->v x y z->w x y z->a x y z->b x y z->G):G:=h.elim λx h=>h.elim λy h=>h.elim λz h=>X0a h (f x y z)
end
section
variable{A:Sort _}{B:Sort _}{C:Sort _}{D:Sort _}
variable{p q r s t u v:A->B->C->D->Prop}
theorem qn(h:∃x y z i,p x y z i)(f:∀x y z i,p x y z i->G):G:=h.elim λx h=>h.elim λy h=>h.elim λz h=>h.elim λi h=>f x y z i h
theorem QQ(h:∃x y z i,p x y z i∧q x y z i)(f:∀x y z i,p x y z i->q x y z i->G):G:=h.elim λx h=>h.elim λy h=>h.elim λz h=>h.elim λi h=>rB h (f x y z i)
theorem qp(h:∃x y z i,p x y z i∧q x y z i∧r x y z i)(f:∀x y z i,p x y z i->q x y z i->r x y z i->G):G:=h.elim λx h=>h.elim λy h=>h.elim λz h=>h.elim λi h=>oK h (f x y z i)
theorem rF(h:∃x y z i,p x y z i∧q x y z i∧r x y z i∧s x y z i)(f:∀x y z i,p x y z i->q x y z i->r x y z i->s x y z i->G):G:=h.elim λx h=>h.elim λy h=>h.elim λz h=>h.elim λi h=>zX h (f x y z i)
theorem rG(h:∃x y z i,p x y z i∧q x y z i∧r x y z i∧s x y z i∧t x y z i)(f:∀x y z i,p x y z i->q x y z i->r x y z i->s x y z i->t x y z i->G):G:=h.elim λx h=>h.elim λy h=>h.elim λz h=>h.elim λi h=>rC h (f x y z i)
theorem C_(h:∃x y z i,p x y z i∧q x y z i∧r x y z i∧s x y z i∧t x y z i∧u x y z i)(f:∀x y z i,p x y z i->q x y z i->r x y z i->s x y z i->t x y z i->u x y z i->G):G:=h.elim λx h=>h.elim λy h=>h.elim λz h=>h.elim λi h=>jd h (f x y z i)
theorem HY(h:∃x y z i,p x y z i∧q x y z i∧r x y z i∧s x y z i∧t x y z i∧u x y z i∧v x y z i)(f:∀x y z i,p x y z i->q x y z i->r x y z i->s x y z i->t x y z i->u x y z i->v x y z i->G):G:=h.elim λx h=>h.elim λy h=>h.elim λz h=>h.elim λi h=>C' h (f x y z i)
end
section
variable{A:Sort _}{B:Sort _}{C:Sort _}{D:Sort _}{E:Sort _}
variable{p q r s t:A->B->C->D->E->Prop}
theorem HZ(h:∃x y z i j,p x y z i j∧q x y z i j)(f:∀x y z i j,p x y z i j->q x y z i j->G):G:=h.elim λx h=>h.elim λy h=>h.elim λz h=>h.elim λi h=>h.elim λj h=>rB h (f x y z i j)
theorem QR(h:∃x y z i j,p x y z i j∧q x y z i j∧r x y z i j)(f:∀x y z i j,p x y z i j->q x y z i j->r x y z i j->G):G:=h.elim λx h=>h.elim λy h=>h.elim λz h=>h.elim λi h=>h.elim λj h=>oK h (f x y z i j)
theorem l_(h:∃x y z i j,p x y z i j∧q x y z i j∧r x y z i j∧s x y z i j∧t x y z i j)(f:∀x y z i j,p x y z i j->q x y z i j->r x y z i j->s x y z i j->t x y z i j->G):G:=h.elim λx h=>h.elim λy h=>h.elim λz h=>h.elim λi h=>h.elim λj h=>rC h (f x y z i j)
end
section
variable{A:Sort _}{B:Sort _}{C:Sort _}{D:Sort _}{E:Sort _}{F:Sort _}{H:Sort _}
variable{p:A->B->C->D->E->F->H->Prop}
theorem QS(h:∃x y z i j k l,p x y z i j k l)(f:∀x y z i j k l,p x y z i j k l->G):G:=h.elim λx h=>h.elim λy h=>h.elim λz h=>h.elim λi h=>h.elim λj h=>h.elim λk h=>h.elim λl h=>f x y z i j k l h
end
theorem aH(h:am=O a):G:=nomatch h
theorem Dc(h:O a=am):G:=nomatch h
theorem jf(h:M=bn):G:=nomatch h
theorem bY(h:bn=M):G:=nomatch h
theorem QT(h:o=am)(k:o=O a):G:=nomatch h.symm.trans k
theorem zF{A:Type _}{n:X}{P:W A->Prop}{l:W A}(h:l.length=n+1)(k:∀a t,t.length=n->P (a::t)):P l:=by
 cases l with
 |nil=>exact nw h.symm (YI n)
 |cons a t=>exact k a t (n0 h)
theorem Qp{A:Type _}{P:W A->Prop}{l:W A}(h:l.length=1)(k:∀a,P [a]):P l:=zF h λa Y h=>yn.mp h▸k a
theorem Qq{A:Type _}{P:W A->Prop}{l:W A}(h:l.length=2)(k:∀a b,P [a,b]):P l:=zF h λa Y h=>Qp (P:=λl=>P (a::l)) h (k a)
theorem af8{A:Type _}{P:W A->Prop}{l:W A}(h:l.length=3)(k:∀a b c,P [a,b,c]):P l:=zF h λa Y h=>Qq (P:=λl=>P (a::l)) h (k a)
theorem af9{A:Type _}{P:W A->Prop}{l:W A}(h:l.length=5)(k:∀a b c d e,P [a,b,c,d,e]):P l:=zF h λa Y h=>zF (P:=λl=>P (a::l)) h λb Y h=>af8 (P:=λl=>P (a::b::l)) h (k a b)
theorem lt1{P:X->Prop}{j:X}(h:j<1)(a:P 0):P j:=Nat.lt_one_iff.mp h▸a
theorem rH{P:X->Prop}{n j:X}(h:j<n+1)(a:P 0)(k:∀j,j<n->P (j+1)):P j:=by
 cases j with
 |zero=>exact a
 |succ j=>exact k j (vY h)
theorem rI{P:X->Prop}{j:X}(h:j<2)(a:P 0)(b:P 1):P j:=rH h a λY h=>lt1 (P:=λj=>P (j+1)) h b
theorem oM{P:X->Prop}{j:X}(h:j<3)(a:P 0)(b:P 1)(c:P 2):P j:=rH h a λY h=>rI (P:=λj=>P (j+1)) h b c
theorem xm{P:X->Prop}{j:X}(h:j<4)(a:P 0)(b:P 1)(c:P 2)(d:P 3):P j:=rH h a λY h=>oM (P:=λj=>P (j+1)) h b c d
theorem QU{P:X->Prop}{j:X}(h:j<5)(a:P 0)(b:P 1)(c:P 2)(d:P 3)(e:P 4):P j:=rH h a λY h=>xm (P:=λj=>P (j+1)) h b c d e
theorem H0{P:X->Prop}{j:X}(h:j<9)(a:P 0)(b:P 1)(c:P 2)(d:P 3)(e:P 4)(A:P 5)(B:P 6)(C:P 7)(D:P 8):P j:=rH h a λY h=>rH (P:=λj=>P (j+1)) h b λY h=>rH (P:=λj=>P (j+2)) h c λY h=>rH (P:=λj=>P (j+3)) h d λY h=>QU (P:=λj=>P (j+4)) h e A B C D
theorem Qr{P:X->Prop}{j:X}(h:j<10)(a:P 0)(b:P 1)(c:P 2)(d:P 3)(e:P 4)(A:P 5)(B:P 6)(C:P 7)(D:P 8)(E:P 9):P j:=rH h a λY h=>H0 (P:=λj=>P (j+1)) h b c d e A B C D E
theorem Qs{P:X->Prop}(j:X)(a:P 0)(b:P 1)(k:∀j,P (j+2)):P j:=by
 cases j with
 |zero=>exact a
 |succ j=>cases j with
  |zero=>exact b
  |succ j=>exact k j
theorem Qt{P:X->Prop}(j:X)(a:P 0)(b:P 1)(c:P 2)(k:∀j,P (j+3)):P j:=Qs j a b λj=>by
 cases j with
 |zero=>exact c
 |succ j=>exact k j
end
@[reducible]noncomputable def Ho:=@PySem.W.Fast.tw10156331382660048174
@[reducible]noncomputable def Gx:=@PySem.W.Fast.tw11892475500146522536
@[reducible]noncomputable def Hd:=@PySem.W.Fast.tw14364793385576792824
@[reducible]noncomputable def Gy:=@PySem.W.Fast.tw6613529449190102663
@[reducible]noncomputable def Ph:=@PySem.W.Fast.tw4187177175401517315
@[reducible]noncomputable def Pj:=@PySem.W.Fast.tw9446332074065402090
@[reducible]noncomputable def pw:=PySem.Challenge.pw_nu0252_01
noncomputable def wD(p:EY)(w:lw)(A:X)(B:im bm)(n:X):vZ->Thread->im vZ:=
 @Mi (λY=>vZ->Thread->im vZ) (λY Y=>am) (λY C s t=>bif through t then O s else bif Gy A B t then match Ho (Gx Hd) p w s t with
    |some (D,E)=>C D E
    |none=>am else am) n
theorem Vw:∀(n:X) {s C:vZ} {t:Thread},wD p w A B n s t=O C->topRun v5 p w A B n s.abs t=O C.abs:=λn=>no_implicit_lambda% (w9 n (@λY Y Y h=>by cases h) λn J {s} {C} {t} h=>by
  have L:Gy=@stepOk:=PySem.W.Fast.te6613529449190102663.symm
  have P:Ho=@stepT:=PySem.W.Fast.te10156331382660048174.symm
  have R:Gx=@denote:=PySem.W.Fast.te11892475500146522536.symm
  have S:Hd=v5:=PySem.W.Fast.te14364793385576792824.symm
  change (bif through t then O s else bif Gy A B t then match Ho (Gx Hd) p w s t with
     |some (C,U)=>wD p w A B n C U
     |none=>am else am)=O C at h
  rw [L,P,R,S]at h
  unfold topRun
  cases E:through t with
  |true=>rw [E]at h;cases h;rfl
  |false=>
   rw [E]at h
   cases F:stepOk A B t with
   |false=>rw [F]at h;cases h
   |true=>
    rw [F]at h
    cases D:stepT (denote v5) p w s t with
    |none=>rw [D]at h;cases h
    |some r=>obtain ⟨H,I⟩:=r;rw [D]at h;rw [stepT_spec D];exact J h)
noncomputable def adG(l:W Db):X->BT->BT:=lr (λ_ T=>T) (λo _ A n T=>A (n+1) (T.ins n o)) l
noncomputable def S0(w:lw)(A:t_):vZ:=⟨adG (su w.params).objs.toList 0 .nil,11,(su w.params).life,#[],boot_drawn,boot_toks,A⟩
theorem adH(w:lw)(A:t_):(S0 w A).abs=⟨su w.params,#[],boot_drawn,boot_toks,A⟩:=by kernel_rfl
noncomputable def b_(i:X):sB:=(pw.main.body[i]?).getD (.Pass ⟨0,0,0,0⟩)
noncomputable def acm:sB->W sB
 |.ClassDef _ _ _ b _ _ _ _ _ _ _=>b
 |_=>[]
noncomputable def au(i j:X):sB:=((acm (b_ i))[j]?).getD (.Pass ⟨0,0,0,0⟩)
noncomputable def Pm:sB->Arguments
 |.FunctionDef _ a _ _ _ _ _ _ _ _=>a
 |_=>⟨[],[],am,[],[],am,[]⟩
noncomputable def lR:sB->W sB
 |.FunctionDef _ _ b _ _ _ _ _ _ _=>b
 |_=>[]
noncomputable def cR:sB->na
 |.FunctionDef _ _ _ _ _ _ s _ _ _=>s
 |_=>⟨.module,[],bn,bn,[]⟩
noncomputable def z0(name A:f8)(C:sB)(D B:bm):Bk:=
 {name:=name,qualname:=A,params:=Pm C,body:=.stmts (lR C),scope:=cR C,globals:=3,closure:=[],defaults:=.none,kwdefaults:=.none,doc:=.none,pyModule:=D,annotations:=am,code:=B,closureTuple:=.none,builtins:=0}
noncomputable def hs(P:xL)(x:f8):al:=PyData.keyHash P x
noncomputable def de(P:xL)(x:f8)(t:SC)(v:bm):DictEntry:=⟨hs P x,.str x t,v⟩
noncomputable def co5(n q:f8)(t l a r e:X):Db:=⟨.type "code",am,.fields #[.str n t,.str q (t+1),.str "/claim/cut.py" (t+2),.int l 0,.int a 0,.int 0 0,.int 0 0,.int 3 0,.ref r,.bool M,.int 181 0,.ref (r+1),.none,.ref (r+2),.ref (r+3),.ref (r+4),.int e 0,.int l 0,.str "/claim/cut.py" (e+1)],#[]⟩
noncomputable def co3(n q:f8)(t l a r e:X):Db:=⟨.type "code",am,.fields #[.str n t,.str q (t+1),.str "/claim/cut.py" (t+2),.int l 0,.int a 0,.int 0 0,.int 0 0,.int 3 0,.ref r,.bool M,.int 181 0,.ref (r+1),.none,.none,.none,.ref (r+2),.int e 0,.int l 0,.str "/claim/cut.py" (e+1)],#[]⟩
noncomputable def fe(c:Db)(a:X)(n q:f8)(A:sB)(B:bm)(k:TT):TT:=(a,c)::(a+1,⟨.type "function",am,.func (z0 n q A B (.ref a)),#[]⟩)::k
noncomputable def cA(a:X)(n q:f8)(t l m e:X)(A:sB)(B:bm):TT->TT:=fe (co5 n q t l m (a-5) e) a n q A B
noncomputable def fW(a:X)(n q:f8)(t l m e:X)(A:sB)(B:bm):TT->TT:=fe (co3 n q t l m (a-3) e) a n q A B
noncomputable def dt:bm:=.str "relfinder.opening" 285
noncomputable def gC:bm:=.str "relfinder.sigs" 834
noncomputable def iR:bm:=.str "law_nu0252_01" 1063
set_option maxRecDepth 100000 in
noncomputable def K(P:xL):TT:=
 (3,⟨.type "dict",am,.dict #[de P "__name__" 165 (.str "law_nu0252_01" 1063),de P "__doc__" 166 .none,de P "__package__" 167 .none,de P "__loader__" 168 (.builtin "__main__.__loader__#opaque"),de P "__spec__" 169 .none,de P "__annotations__" 170 (.ref 6),de P "__builtins__" 171 (.ref 4),de P "__file__" 173 (.str "/claim/cut.py" 172),de P "__cached__" 174 .none,de P "_wall" 193 (.ref 21),de P "FinderError" 233 (.ref 47),de P "SpotFault" 268 (.ref 76),de P "KindFault" 284 (.ref 88),de P "NUMBER_HEADS" 294 (.ref 91),de P "NUMBER_CALLS" 304 (.ref 92),de P "TRUTH_HEADS" 323 (.ref 93),de P "ORDER_CALLS" 342 (.ref 94),de P "ORDER_NAMES" 347 (.ref 95),de P "SET_SIGNS" 369 (.ref 96),de P "TURNED" 373 (.ref 97),de P "all_of" 380 (.ref 104),de P "united" 389 (.ref 111),de P "Names" 509 (.ref 193),de P "Opener" 833 (.ref 403),de P "ORDERING" 837 (.str "util/ordering" 836),de P "Signatures" 1062 (.ref 572),de P "_law_draw" 1073 (.ref 583),de P "_law_name" 1080 (.ref 590),de P "_law_decl" 1091 (.ref 597),de P "_law_set" 1105 (.ref 604),de P "_law_number" 1116 (.ref 611),de P "_law_truth" 1131 (.ref 618),de P "_law_joined" 1137 (.ref 623),de P "_law_mixed" 1143 (.ref 628),de P "_law_many" 1152 (.ref 635),de P "_law_ways" 1158 (.ref 640),de P "_law_called" 1170 (.ref 647),de P "_law_bin" 1176 (.ref 652),de P "_law_node" 1182 (.ref 657),de P "_law_choices" 1188 (.ref 662),de P "_law_rows" 1194 (.ref 667),de P "_law_count" 1200 (.ref 672),de P "_law_holds" 1206 (.ref 677),de P "_law_world" 1212 (.ref 682),de P "law" 1218 (.ref 687)] 45,#[]⟩)::
 (91,⟨.type "tuple",am,.seq #[.str "num" 287,.str "count" 288,.str "plus" 289,.str "less" 290,.str "times" 291,.str "sum" 292,.str "choose" 293] 0,#[]⟩)::
 (92,⟨.type "dict",am,.dict #[de P "plus" 295 (.str "plus" 296),de P "minus" 297 (.str "less" 298),de P "mul" 299 (.str "times" 300)] 3,#[]⟩)::
 (93,⟨.type "tuple",am,.seq #[.str "true" 305,.str "false" 306,.str "not" 307,.str "and" 308,.str "or" 309,.str "implies" 310,.str "iff" 311,.str "in" 312,.str "same" 313,.str "some" 314,.str "no" 315,.str "one" 316,.str "lone" 317,.str "all" 318,.str "exists" 319,.str "le" 320,.str "lt" 321,.str "eq" 322] 0,#[]⟩)::
 (94,⟨.type "dict",am,.dict #[de P "nexts" 324 (.int 1 325),de P "prevs" 326 (.int 1 327),de P "lt" 328 (.int 2 329),de P "lte" 330 (.int 2 331),de P "gt" 332 (.int 2 333),de P "gte" 334 (.int 2 335)] 6,#[]⟩)::
 (95,⟨.type "tuple",am,.seq #[.str "first" 343,.str "last" 344,.str "next" 345,.str "prev" 346] 0,#[]⟩)::
 (96,⟨.type "dict",am,.dict #[de P "+" 348 (.str "union" 349),de P "&" 350 (.str "meet" 351),de P "-" 352 (.str "minus" 353),de P "." 354 (.str "join" 355),de P "++" 356 (.str "override" 357),de P "<:" 358 (.str "ahead" 359),de P ":>" 360 (.str "behind" 361)] 7,#[]⟩)::
 (97,⟨.type "tuple",am,.seq #[.str "~" 370,.str "^" 371,.str "*" 372] 0,#[]⟩)::
 (cA 103 "all_of" "all_of" 374 31 1 378 (b_ 13) dt<|
 cA 110 "united" "united" 381 35 1 387 (b_ 14) dt<|
 cA 124 "__init__" "Names.__init__" 402 42 5 411 (au 15 0) dt<|
 cA 131 "fresh" "Names.fresh" 414 53 2 419 (au 15 1) dt<|
 cA 138 "rel" "Names.rel" 422 57 2 427 (au 15 2) dt<|
 fW 143 "owners" "Names.owners" 430 60 2 433 (au 15 3) dt<|
 fW 148 "orders_of" "Names.orders_of" 436 63 2 439 (au 15 4) dt<|
 fW 153 "places" "Names.places" 442 67 2 445 (au 15 5) dt<|
 fW 158 "named" "Names.named" 448 77 3 451 (au 15 6) dt<|
 cA 165 "order_expr" "Names.order_expr" 454 88 4 463 (au 15 7) dt<|
 fW 170 "steps" "Names.steps" 466 95 3 469 (au 15 8) dt<|
 cA 177 "this_env" "Names.this_env" 472 99 3 478 (au 15 9) dt<|
 cA 184 "arity" "Names.arity" 481 102 2 487 (au 15 10) dt<|
 fW 189 "arity_of_relation" "Names.arity_of_relation" 490 118 2 493 (au 15 11) dt<|
 (192,⟨.type "dict",am,.dict #[de P "__module__" 397 (.str "relfinder.opening" 285),de P "__firstlineno__" 401 (.int 40 400),de P "__init__" 413 (.ref 125),de P "fresh" 421 (.ref 132),de P "rel" 429 (.ref 139),de P "owners" 435 (.ref 144),de P "orders_of" 441 (.ref 149),de P "places" 447 (.ref 154),de P "named" 453 (.ref 159),de P "order_expr" 465 (.ref 166),de P "steps" 471 (.ref 171),de P "this_env" 480 (.ref 178),de P "arity" 489 (.ref 185),de P "arity_of_relation" 495 (.ref 190),de P "__static_attributes__" 502 (.ref 191),de P "__dict__" 504 (.ref 194),de P "__weakref__" 506 (.ref 195),de P "__doc__" 507 .none] 4,#[]⟩)::
 (193,⟨.type "type",am,.cls {name:="Names",bases:=[.type "object"],mro:=[.ref 193,.type "object"],ns:=192,qualname:="Names",hasDict:=M,slotNames:=[],subclasses:=[.ref 403],abstract:=bn,collection:=am,hasDel:=bn},#[am,am,O (.str "Names" 390),O (.str "Names" 398),O (.builtin "object.__new__"),O (.bool M)]⟩)::
 (cA 210 "form" "Opener.form" 522 125 3 532 (au 16 0) dt<|
 cA 217 "form_of_call" "Opener.form_of_call" 535 143 2 540 (au 16 1) dt<|
 cA 224 "value" "Opener.value" 543 150 3 550 (au 16 2) dt<|
 cA 231 "let_env" "Opener.let_env" 553 156 3 560 (au 16 3) dt<|
 cA 238 "begun" "Opener.begun" 563 161 3 571 (au 16 4) dt<|
 cA 245 "call_of" "Opener.call_of" 574 174 3 582 (au 16 5) dt<|
 fW 250 "call_env" "Opener.call_env" 585 180 4 588 (au 16 6) dt<|
 fW 255 "truth" "Opener.truth" 591 184 3 594 (au 16 7) dt<|
 cA 262 "ordered" "Opener.ordered" 597 211 5 609 (au 16 8) dt<|
 cA 269 "compared" "Opener.compared" 612 219 3 623 (au 16 9) dt<|
 fW 274 "decls_of" "Opener.decls_of" 626 236 3 629 (au 16 10) dt<|
 cA 281 "quantified" "Opener.quantified" 632 250 5 644 (au 16 11) dt<|
 cA 288 "expr" "Opener.expr" 647 260 3 661 (au 16 12) dt<|
 fW 293 "all_atoms" "Opener.all_atoms" 664 293 1 667 (au 16 13) dt<|
 cA 300 "same_atoms" "Opener.same_atoms" 670 297 1 674 (au 16 14) dt<|
 cA 307 "turned" "Opener.turned" 677 300 3 683 (au 16 15) dt<|
 cA 314 "wanted" "Opener.wanted" 686 305 4 694 (au 16 16) dt<|
 cA 321 "called_expr" "Opener.called_expr" 697 311 5 706 (au 16 17) dt<|
 cA 328 "number" "Opener.number" 709 319 3 722 (au 16 18) dt<|
 cA 335 "is_marked" "Opener.is_marked" 725 342 2 730 (au 16 19) dt<|
 cA 342 "bounded" "Opener.bounded" 733 347 4 741 (au 16 20) dt<|
 cA 349 "marked" "Opener.marked" 744 353 4 759 (au 16 21) dt<|
 cA 356 "side" "Opener.side" 762 369 5 771 (au 16 22) dt<|
 fW 361 "each_of" "Opener.each_of" 774 373 2 777 (au 16 23) dt<|
 cA 368 "guarded" "Opener.guarded" 780 384 3 786 (au 16 24) dt<|
 cA 375 "within" "Opener.within" 789 387 5 798 (au 16 25) dt<|
 cA 382 "facts" "Opener.facts" 801 393 1 805 (au 16 26) dt<|
 fW 387 "goal" "Opener.goal" 808 396 2 811 (au 16 27) dt<|
 cA 394 "asserted" "Opener.asserted" 814 406 3 821 (au 16 28) dt<|
 fW 399 "witnessed" "Opener.witnessed" 824 412 3 827 (au 16 29) dt<|
 (402,⟨.type "dict",am,.dict #[de P "__module__" 517 (.str "relfinder.opening" 285),de P "__firstlineno__" 521 (.int 123 520),de P "form" 534 (.ref 211),de P "form_of_call" 542 (.ref 218),de P "value" 552 (.ref 225),de P "let_env" 562 (.ref 232),de P "begun" 573 (.ref 239),de P "call_of" 584 (.ref 246),de P "call_env" 590 (.ref 251),de P "truth" 596 (.ref 256),de P "ordered" 611 (.ref 263),de P "compared" 625 (.ref 270),de P "decls_of" 631 (.ref 275),de P "quantified" 646 (.ref 282),de P "expr" 663 (.ref 289),de P "all_atoms" 669 (.ref 294),de P "same_atoms" 676 (.ref 301),de P "turned" 685 (.ref 308),de P "wanted" 696 (.ref 315),de P "called_expr" 708 (.ref 322),de P "number" 724 (.ref 329),de P "is_marked" 732 (.ref 336),de P "bounded" 743 (.ref 343),de P "marked" 761 (.ref 350),de P "side" 773 (.ref 357),de P "each_of" 779 (.ref 362),de P "guarded" 788 (.ref 369),de P "within" 800 (.ref 376),de P "facts" 807 (.ref 383),de P "goal" 813 (.ref 388),de P "asserted" 823 (.ref 395),de P "witnessed" 829 (.ref 400),de P "__static_attributes__" 830 (.ref 401),de P "__doc__" 831 .none] 2,#[]⟩)::
 (403,⟨.type "type",am,.cls {name:="Opener",bases:=[.ref 193],mro:=[.ref 403,.ref 193,.type "object"],ns:=402,qualname:="Opener",hasDict:=M,slotNames:=[],subclasses:=[],abstract:=bn,collection:=am,hasDel:=bn},#[O (.ref 198),am,O (.str "Opener" 510),O (.str "Opener" 518),O (.builtin "object.__new__"),O (.bool M)]⟩)::
 (cA 418 "__init__" "Signatures.__init__" 850 422 2 857 (au 19 0) gC<|
 cA 425 "take_sig" "Signatures.take_sig" 860 438 2 866 (au 19 1) gC<|
 cA 432 "look_above" "Signatures.look_above" 869 447 2 875 (au 19 2) gC<|
 cA 439 "direct" "Signatures.direct" 878 454 2 883 (au 19 3) gC<|
 fW 444 "parents_first" "Signatures.parents_first" 886 457 1 889 (au 19 4) gC<|
 cA 451 "all_fields" "Signatures.all_fields" 892 467 1 905 (au 19 5) gC<|
 cA 458 "look_fields" "Signatures.look_fields" 908 476 1 920 (au 19 6) gC<|
 fW 463 "take_order" "Signatures.take_order" 923 486 2 926 (au 19 7) gC<|
 cA 470 "names" "Signatures.names" 929 497 1 933 (au 19 8) gC<|
 cA 477 "has" "Signatures.has" 936 500 2 941 (au 19 9) gC<|
 cA 484 "spot" "Signatures.spot" 944 503 2 949 (au 19 10) gC<|
 cA 491 "parent" "Signatures.parent" 952 506 2 957 (au 19 11) gC<|
 cA 498 "supers" "Signatures.supers" 960 509 2 965 (au 19 12) gC<|
 cA 505 "is_subset" "Signatures.is_subset" 968 512 2 973 (au 19 13) gC<|
 cA 512 "children" "Signatures.children" 976 515 2 981 (au 19 14) gC<|
 cA 519 "above" "Signatures.above" 984 518 2 990 (au 19 15) gC<|
 cA 526 "top" "Signatures.top" 993 525 2 998 (au 19 16) gC<|
 cA 533 "all_above" "Signatures.all_above" 1001 530 2 1009 (au 19 17) gC<|
 cA 540 "is_abstract" "Signatures.is_abstract" 1012 539 2 1017 (au 19 18) gC<|
 cA 547 "mult" "Signatures.mult" 1020 542 2 1025 (au 19 19) gC<|
 cA 554 "fields" "Signatures.fields" 1028 545 1 1032 (au 19 20) gC<|
 cA 561 "facts" "Signatures.facts" 1035 548 2 1040 (au 19 21) gC<|
 cA 568 "orders" "Signatures.orders" 1043 551 1 1047 (au 19 22) gC<|
 (571,⟨.type "dict",am,.dict #[de P "__module__" 845 (.str "relfinder.sigs" 834),de P "__firstlineno__" 849 (.int 420 848),de P "__init__" 859 (.ref 419),de P "take_sig" 868 (.ref 426),de P "look_above" 877 (.ref 433),de P "direct" 885 (.ref 440),de P "parents_first" 891 (.ref 445),de P "all_fields" 907 (.ref 452),de P "look_fields" 922 (.ref 459),de P "take_order" 928 (.ref 464),de P "names" 935 (.ref 471),de P "has" 943 (.ref 478),de P "spot" 951 (.ref 485),de P "parent" 959 (.ref 492),de P "supers" 967 (.ref 499),de P "is_subset" 975 (.ref 506),de P "children" 983 (.ref 513),de P "above" 992 (.ref 520),de P "top" 1000 (.ref 527),de P "all_above" 1011 (.ref 534),de P "is_abstract" 1019 (.ref 541),de P "mult" 1027 (.ref 548),de P "fields" 1034 (.ref 555),de P "facts" 1042 (.ref 562),de P "orders" 1049 (.ref 569),de P "__static_attributes__" 1055 (.ref 570),de P "__dict__" 1057 (.ref 573),de P "__weakref__" 1059 (.ref 574),de P "__doc__" 1060 .none] 4,#[]⟩)::
 (572,⟨.type "type",am,.cls {name:="Signatures",bases:=[.type "object"],mro:=[.ref 572,.type "object"],ns:=571,qualname:="Signatures",hasDict:=M,slotNames:=[],subclasses:=[],abstract:=bn,collection:=am,hasDel:=bn},#[am,am,O (.str "Signatures" 838),O (.str "Signatures" 846),O (.builtin "object.__new__"),O (.bool M)]⟩)::
 (cA 582 "_law_draw" "_law_draw" 1065 554 2 1071 (b_ 21) iR<|
 cA 589 "_law_name" "_law_name" 1074 560 1 1078 (b_ 22) iR<|
 cA 596 "_law_decl" "_law_decl" 1081 562 2 1089 (b_ 23) iR<|
 cA 603 "_law_set" "_law_set" 1092 568 3 1103 (b_ 24) iR<|
 cA 610 "_law_number" "_law_number" 1106 588 3 1114 (b_ 25) iR<|
 cA 617 "_law_truth" "_law_truth" 1117 596 3 1129 (b_ 26) iR<|
 fW 622 "_law_joined" "_law_joined" 1132 616 2 1135 (b_ 27) iR<|
 fW 627 "_law_mixed" "_law_mixed" 1138 618 3 1141 (b_ 28) iR<|
 cA 634 "_law_many" "_law_many" 1144 622 3 1150 (b_ 29) iR<|
 fW 639 "_law_ways" "_law_ways" 1153 624 3 1156 (b_ 30) iR<|
 cA 646 "_law_called" "_law_called" 1159 629 4 1168 (b_ 31) iR<|
 fW 651 "_law_bin" "_law_bin" 1171 632 3 1174 (b_ 32) iR<|
 fW 656 "_law_node" "_law_node" 1177 648 3 1180 (b_ 33) iR<|
 fW 661 "_law_choices" "_law_choices" 1183 672 3 1186 (b_ 34) iR<|
 fW 666 "_law_rows" "_law_rows" 1189 677 3 1192 (b_ 35) iR<|
 fW 671 "_law_count" "_law_count" 1195 689 3 1198 (b_ 36) iR<|
 fW 676 "_law_holds" "_law_holds" 1201 697 3 1204 (b_ 37) iR<|
 fW 681 "_law_world" "_law_world" 1207 719 1 1210 (b_ 38) iR<|
 fW 686 "law" "law" 1213 724 1 1216 (b_ 39) iR<|[]))))
noncomputable def CM:W be:=[3,91,92,93,94,95,96,97,103,104,110,111,124,125,131,132,138,139,143,144,148,149,153,154,158,159,165,166,170,171,177,178,184,185,189,190,192,193,210,211,217,218,224,225,231,232,238,239,245,246,250,251,255,256,262,263,269,270,274,275,281,282,288,289,293,294,300,301,307,308,314,315,321,322,328,329,335,336,342,343,349,350,356,357,361,362,368,369,375,376,382,383,387,388,394,395,399,400,402,403,418,419,425,426,432,433,439,440,444,445,451,452,458,459,463,464,470,471,477,478,484,485,491,492,498,499,505,506,512,513,519,520,526,527,533,534,540,541,547,548,554,555,561,562,568,569,571,572,582,583,589,590,596,597,603,604,610,611,617,618,622,623,627,628,634,635,639,640,646,647,651,652,656,657,661,662,666,667,671,672,676,677,681,682,686,687]
theorem acn(P:xL):CM=(K P).map (·.1):=by kernel_rfl
noncomputable def te:W f8:=[to "_wall",to "FinderError",to "SpotFault",to "KindFault",to "NUMBER_HEADS",to "NUMBER_CALLS",to "TRUTH_HEADS",to "ORDER_CALLS",to "ORDER_NAMES",to "SET_SIGNS",to "TURNED",to "all_of",to "united",to "Names",to "Opener",to "ORDERING",to "Signatures",to "_law_draw",to "_law_name",to "_law_decl",to "_law_set",to "_law_number",to "_law_truth",to "_law_joined",to "_law_mixed",to "_law_many",to "_law_ways",to "_law_called",to "_law_bin",to "_law_node",to "_law_choices",to "_law_rows",to "_law_count",to "_law_holds",to "_law_world"]
noncomputable def q:EY:=view pw [39]
noncomputable def CN:im bm:=O (.ref 6)
noncomputable def GA(s:ce)(w:lw):=
 (staticsOk (Bl pw.main.body) (su w.params) s.heap&&namesBound pw s.heap&&gensDone s&&laidKept (su w.params) s.heap,Ph q te (Bl pw.main.body) (λY=>M) M s,obsZ CM s)
theorem aga:∀(w:lw) (A:t_),((wD pw (w.withFollow "special-get-raises" bn) 11 CN 9000 (S0 w A) (topStub pw)).map λs=>GA s.abs w)=O (M,Bm q te,valZ K 688 1219 w):=by
 intro w A;kernel_rfl
theorem agb:∀(w:lw) (A:t_),((wD pw (w.withFollow "special-get-raises" M) 11 CN 9000 (S0 w A) (topStub pw)).map λs=>GA s.abs w)=O (M,Bm q te,valZ K 688 1219 w):=by
 intro w A;kernel_rfl
theorem Vx:opening pw=plainProg pw.main.scope.names:=by kernel_rfl
theorem aal:∀s,fenceModules? pw s=O s:=by intro s;kernel_rfl
theorem Vy(P:xL):((su P).isNs ua&&(#[]:sK EZ).size==0,(su P).objs.size,(su P).nsMap ua "__annotations__")=(M,11,CN):=by kernel_rfl
theorem uS(w:lw):(fencedOpening v5 pw w 9000).map (λs=>(s.heap,s.gens,s.drawn,s.toks))=O (su w.params,Array.mk [],boot_drawn,boot_toks):=
 boot_open Vx (by decide) aal w
theorem agc(w:lw)(B:t_):((wD pw w 11 CN 9000 (S0 w B) (topStub pw)).map λs=>GA s.abs w)=O (M,Bm q te,valZ K 688 1219 w):=by
 have e:=World.withFollow_self w "special-get-raises"
 have A:w.params.followText "special-get-raises" =bn∨w.params.followText "special-get-raises" =M:=by cases w.params.followText "special-get-raises" <;>simp
 rcases A with A|A<;>rw [A]at e
 ·have:=aga w B;rw [e]at this;exact this
 ·have:=agb w B;rw [e]at this;exact this
theorem aam{p q:EY}{C:W f8}{j:Type}{l:ce->j}{m:lw->j}{a:X}{A:xL->li}{B:sK EZ}{D:Drawn}{E F:X}{S:im bm}{H:lw->t_->vZ}{I:lw->_}
  (J:∀w:lw,(fencedOpening v5 p w a).map (λs=>(s.heap,s.gens,s.drawn,s.toks))=O (A w.params,B,D,E))
  (U:∀P:xL,((A P).isNs ua&&B.size==0,(A P).objs.size,(A P).nsMap ua "__annotations__")=(M,F,S))
  (f:∀w L,(H w L).abs=⟨A w.params,B,D,E,L⟩)
  (i:∀(w:lw) (L:t_),((wD p w F S a (H w L) (topStub p)).map λs=>(staticsOk (Bl p.main.body) (A w.params) s.abs.heap&&namesBound p s.abs.heap&&gensDone s.abs&&laidKept (A w.params) s.abs.heap,
   openSeen q C (Bl p.main.body) (λY=>M) M s.abs,l s.abs))=O (M,I w,m w))
  (R:∀w,I w=Bm q C):LeftO p q C (λY=>M) l m a:=λw=>by
 obtain ⟨Z,e,r⟩:=On.mp (J w)
 obtain ⟨h,n,d,k,L⟩:=Z
 obtain ⟨rfl,rfl,rfl,rfl⟩:h=A w.params∧n=B∧d=D∧k=E:=by simpa using r
 obtain ⟨b,y,hl⟩:=On.mp (i w L)
 have c:=Vw _ y
 rw [f]at c
 obtain ⟨l1,o,l3⟩:_∧_∧_:=by simpa only [Mt] using hl
 obtain ⟨z1,z2,z3⟩:_∧_∧_:=by simpa only [Mt] using U w.params
 have t:topFrom v5 p w a ⟨A w.params,n,d,k,L⟩=O b.abs:=by
  unfold topFrom
  dsimp only
  refine eR z1 (eR z2 (eR z3 (eR c (?_:(bif staticsOk (Bl p.main.body) (A w.params) b.abs.heap&&namesBound p b.abs.heap&&gensDone b.abs&&laidKept (A w.params) b.abs.heap then _ else _)=_))))
  exact eR l1 N
 unfold openEnds
 refine eR e (?_:(topFrom v5 p w a _).map _=_)
 refine eR t ?_
 rw [R]at o
 exact lc O (Prod.ext o l3)
theorem aan:@openSeen=@Ph:=PySem.W.Fast.te4187177175401517315
theorem Qv:LeftO pw q te (λY=>M) (obsZ CM) (valZ K 688 1219) 9000:=by
 refine aam (I:=λY=>Bm q te) uS Vy adH ?_ (λY=>N)
 exact eR aan agc
abbrev ku:=PySem.Challenge.rw_nu0252_01
noncomputable def oA:DefRec:={name:="law",params:=Pm (b_ 39),body:=lR (b_ 39),scope:=cR (b_ 39),pos:=(b_ 39).pos}
theorem aco:defOf q "law" =O (oA,[]):=by kernel_rfl
theorem acp:pw.theDef "law" =O (oA.params,oA.body,oA.scope):=by kernel_rfl
theorem adI:kwWritten? oA.params.kwonlyargs oA.params.kw_defaults=O []:=by kernel_rfl
theorem ok3:(chainsOk q&&opensWell pw&&(frees ku.row.toRowW&&ku.row.within.isEmpty))=M:=by kernel_rfl
theorem agd:pw.bare:=(l9 N N N N N (by decide+kernel))
theorem age:ku.row.toRowW.promised:=by w_witness2
theorem adJ(A:ku.wellSaid=M)(walk:WalkX q te (λY Y=>WF) (obsZ CM) (valZ K 688 1219) ku.row.toRowW oA [] (λf B=>po f B)):ku.Holds:=
 holds_law A λC=>holds_openX (r:=ku.row) (d:=oA) (kwd:=[]) Qv (λY Y=>tt) (λY Y Y Y Y=>tt) aco acp adI (λY Y=>recFacts_nil N) N C ok3 agd age walk
structure Cr(w:lw)(s:ce)(vs:W bm)(ns:W al):Prop where
 c_:ns.length≤63
 acq:n4 vs ns
 aj:s.heap.get? 688=O {cls:=.type "list",data:=.seq vs.toArray}
 K:(K w.params).In s.heap
 b_:∃RH mg mb,Top q (looseW q te) RH mg mb s.heap
 p8:s.heap.objs.size=689
 i8:s.gens=#[]
set_option tactic.hygienic true in
theorem acr(C:ku.wellSaid=M)
  (walk:∀(w:lw) (s:ce) (S:W bm) (U:W al),Cr w s S U->
   ca (cr pw w) yo (po (.ref 687) [.ref 688])
    (λv R=>v=.bool M∧(∀b o,s.heap.get? b=O o->R.heap.get? b=O o)∧R.os=s.os∧R.gens=#[]) (λY Y=>wn) s):ku.Holds:=by
 refine adJ C ?_
 intro w E A mg mb G y fa o pm cd doc dV kV ho hd hcd hD Z hg args m as L F H a c d
 obtain ⟨ZA,ZI,ZN,ZT⟩:=z_facts acn y
 have n:InK K w A.heap:=InK.keeps w E.heap A.heap ZI L.keeps
 refine Ground.open G ?_
 intro T B D TE TW
 wrow_args F H a c d
 obtain ⟨I,J⟩:=script_at L
 rw [ZN]at I J
 subst I
 rename_i U _ _ _ _ _ _ _ S _ _ hI _ P _ hL _ _
 have e:fa=687:=by
  obtain ⟨o',r,ep,h1,t,h3,h4⟩:=T.g
  have f:=n 3 _ N
  have:o'=_:=ii (h1.symm.trans f)
  subst this
  have i:=h4 oA.name
  rw [Z]at i
  simp only [Data.dict.injEq]at t
  rw [←t.1]at i
  have e6:sx _ oA.name=O (.ref 687):=(by kernel_rfl:nsFind (match(K w.params).lookup 3 with|some ⟨_,_,.dict r _,_⟩=>r|_=>#[]) oA.name=some (.ref 687))
  exact Os (ii (i.symm.trans e6))
 subst e
 refine ss (walk w A S U ⟨afD P,hI,(script_obj L hL),n,(ql _ _ _ T),J,hg⟩) ?_ (λY Y h=>h.elim)
 rintro v R ⟨rfl,hk,j,l⟩
 exact (HV (.inl ⟨_,_,[],N,λY=>N,ReadsW.bool M,(by wrow_post),λY=>⟨sy,λY hm=>(nomatch hm)⟩⟩) (.of_keep hk) j (.of_eq l))
section
set_option genSizeOf false
set_option genInjectivity false
structure V where
 k:X:=0
 s:f8:=""
 c:Const:=.none
 q:KF:=⟨0,0,0,0⟩
 op:Bn:=.Add
 co:sA:=.Eq
 bo:BoolOp:=.And
 un:UnaryOp:=.Not
 i:al:=0
 es:W kt:=[]
 os:W (im kt):=[]
 gs:W yp:=[]
 sc:na:=⟨.module,[],bn,bn,[]⟩
noncomputable def bP:kt->V
 |.Constant c _ _=>{k:=1,c}
 |.Name s _=>{k:=2,s}
 |.Tuple A _ _=>{k:=3,es:=A}
 |.List A _=>{k:=4,es:=A}
 |.Dict B A _=>{k:=5,os:=B,es:=A}
 |.Attribute o s q=>{k:=6,es:=[o],s,q}
 |.Subscript a b _=>{k:=7,es:=[a,b]}
 |.Slice a b am _=>{k:=8,os:=[a,b]}
 |.BinOp a C b _=>{k:=9,op:=C,es:=[a,b]}
 |.Compare a [D] [b] _=>{k:=10,co:=D,es:=[a,b]}
 |.BoolOp E A _=>{k:=11,bo:=E,es:=A}
 |.UnaryOp F a _=>{k:=12,un:=F,es:=[a]}
 |.IfExp a b c _=>{k:=13,es:=[a,b,c]}
 |.Call f A [] q=>{k:=14,es:=f::A,q}
 |.ListComp a H I _=>{k:=15,es:=[a],gs:=H,sc:=I}
 |.JoinedStr A _=>{k:=16,es:=A}
 |.FormattedValue a i am _=>{k:=17,es:=[a],i}
 |.Set ..=>{k:=18}
 |.SetComp ..|.DictComp ..=>{k:=19}
 |_=>{}
noncomputable def Qw(e:kt):X->Prop
 |1=>∃c k p,e=.Constant c k p
 |2=>∃x p,e=.Name x p
 |3=>∃l k p,e=.Tuple l k p
 |4=>∃l p,e=.List l p
 |5=>∃l m p,e=.Dict l m p
 |6=>∃o a p,e=.Attribute o a p
 |7=>∃a b p,e=.Subscript a b p
 |8=>∃a b p,e=.Slice a b am p
 |9=>∃a o b p,e=.BinOp a o b p
 |10=>∃a o b p,e=.Compare a [o] [b] p
 |11=>∃o l p,e=.BoolOp o l p
 |12=>∃o a p,e=.UnaryOp o a p
 |13=>∃a b c p,e=.IfExp a b c p
 |14=>∃f l p,e=.Call f l [] p
 |15=>∃a l s p,e=.ListComp a l s p
 |16=>∃l p,e=.JoinedStr l p
 |17=>∃a i p,e=.FormattedValue a i am p
 |_=>WF
theorem acs(e:kt):Qw e (bP e).k:=by
 cases e with
 |Slice a b s p=>cases s<;>first|exact tt|exact (ql _ _ _ N)
 |FormattedValue a i s p=>cases s<;>first|exact tt|exact (ql _ _ _ N)
 |Call f l k p=>cases k<;>first|exact tt|exact (ql _ _ _ N)
 |Compare a o b p=>
  rcases o with _|⟨o,_|_⟩
  ·trivial
  ·rcases b with _|⟨b,_|_⟩
   ·trivial
   ·exact (xi _ _ _ _ N)
   ·trivial
  ·trivial
 |_=>first|exact tt|exact (dC _ _ N)|exact (ql _ _ _ N)|exact (xi _ _ _ _ N)
noncomputable def cX(e:kt)(k:X):an:=ci ((bP e).k=k)
theorem dH(h:cX e k=M):Qw e k:=ut h▸acs e
noncomputable def Qx(l:W kt):X->kt:=HT (.Name "" ⟨0,0,0,0⟩) l
noncomputable def cg(e:kt)(i:X):kt:=Qx (bP e).es i
structure SV' where
 k:X:=0
 es:W kt:=[]
 a:W sB:=[]
 b:W sB:=[]
noncomputable def ri:sB->SV'
 |.Return (O e) _=>{k:=1,es:=[e]}
 |.Assign [t] e _=>{k:=2,es:=[t,e]}
 |.Expr e _=>{k:=3,es:=[e]}
 |.If t a b _=>{k:=4,es:=[t],a,b}
 |.For t i a [] _=>{k:=5,es:=[t,i],a}
 |.While t a [] _=>{k:=6,es:=[t],a}
 |_=>{}
noncomputable def Qy(e:sB):X->Prop
 |1=>∃a p,e=.Return (O a) p
 |2=>∃t a p,e=.Assign [t] a p
 |3=>∃a p,e=.Expr a p
 |4=>∃t a b p,e=.If t a b p
 |5=>∃t i a p,e=.For t i a [] p
 |6=>∃t a p,e=.While t a [] p
 |_=>WF
theorem aao(e:sB):Qy e (ri e).k:=by
 cases e with
 |Return v p=>cases v<;>first|exact tt|exact (dC _ _ N)
 |Assign t v p=>
  rcases t with _|⟨t,_|_⟩
  ·trivial
  ·exact (ql _ _ _ N)
  ·trivial
 |For t i a o p=>cases o<;>first|exact tt|exact (xi _ _ _ _ N)
 |While t a o p=>cases o<;>first|exact tt|exact (ql _ _ _ N)
 |_=>first|exact tt|exact (dC _ _ N)|exact (xi _ _ _ _ N)
noncomputable def jS(e:sB)(k:X):an:=ci ((ri e).k=k)
theorem kl(h:jS e k=M):Qy e k:=ut h▸aao e
noncomputable def dw(e:sB)(i:X):kt:=Qx (ri e).es i
noncomputable def aW(x:f8):X:=x.cps.toList.foldr (λc n=>n*128+(c+1)) 0
noncomputable def rq(f:X):X->W X:=nr (λ_=>[]) (λ_ A n=>nr [] (λn _=>(n %128)::A (n/128)) n) f
noncomputable def aZ(n:X):f8:=⟨(rq n n).toArray⟩
noncomputable def Dd(x:f8):an:=!x.cps.toList.contains 39
noncomputable def jg(c:X):an:=Dd (aZ c)&&sC (aZ c)&&u8 (aZ c).cps.size 1000
set_option genCtorIdx false in
inductive eK where
 |ak (x:X)
 |bS (xs:W X)
inductive ky where
 |bK|qq|p9|hY
set_option genCtorIdx false in
inductive MX where
 |eE
 |bG
 |aJ (b:an)
 |ab (i:al)
 |ae (c:X)
 |aa (x:X)
 |gZ (x:X)
 |af (es:W MX)
 |cK (es:W MX)
 |cD (kvs:W MX)
 |cW (e:MX) (a:X)
 |ag (e i:MX)
 |iS (e lo hi:MX)
 |bj (op:Bn) (a b:MX)
 |ao (op:sA) (a b:MX)
 |cE (op:BoolOp) (es:W MX)
 |d3 (e:MX)
 |kz (e:MX)
 |aF (t a b:MX)
 |fn (a:X) (args:W MX)
 |bi (f:X) (args:W MX)
 |uM (e:MX)
 |uT (e:MX)
 |au (o:MX) (m:X) (args:W MX)
 |dM (fs:W X) (bL:MX) (t:eK) (k:ky) (df:W MX) (ifs:W MX)
 |kX (fs:W X) (bL:MX) (t:eK) (k:ky) (df:W MX) (ifs:W MX) (t2:eK) (k2:ky) (nO:W MX) (hV:W MX)
 |iJ (a b:MX)
 |uU (a b:MX)
 |dW (e:MX)
set_option genCtorIdx false in
inductive MS where
 |eE
 |bI (t:eK) (e:MX)
 |gh (xs:W X) (es:W MX)
 |mP (o k e:MX)
 |eH (o:MX) (a:X) (e:MX)
 |gq (o:X) (m:X) (e:MX)
 |aF (t:MX) (a b:W MS)
 |d9 (t:eK) (k:ky) (df:W MX) (body:W MS)
 |aB (e:MX)
 |vd (t:MX) (body:W MS)
 |w' (t:MX) (a b:W MS)
 |tf (o:MX) (m:X) (e:MX)
noncomputable def aG{A:Type}(l:W (X×A))(x:X):im A:=lr am (λp _ B=>bif pi p.1 x then O p.2 else B) l
noncomputable def GB:W (X×X):=[(3569320949474,104),(3497961109494,111),(8702589651692074720,583),(7412233935257122528,590),(7911024842577065696,597),(66317757047158496,604),(136716016479375560586976,611),(976951740288153990880,618),(120188596202134725768928,623),(938979037257089464032,628),(8853948731609364192,635),(8427795960466814688,640),(120188453713983340852960,647),(62957065397122784,652),(7407228958327486176,657),(17650774768549604147902176,662),(8426731461412435680,667),(1087199845387928647392,672),(1077250831032912492256,677),(939480089447510882016,682),(1978733,687)]
noncomputable def En:W (X×X):=[(232585319,211),(16601209929626604510443623,218),(27629678967,225),(527209049453421,232),(30045516643,239),(456873081532772,246),(67482758313374052,251),(28433037813,256),(447738476591600,263),(57310523955066980,270),(58479756315276133,275),(938970579681827928946,282),(243039462,289),(8421102031084418786,294),(1077901059978790941044,301),(3497948674933,308),(3497961189752,315),(136819054238151137259876,322),(3978959764335,329),(7335716860011756138,336),(447734737647715,343),(3497942380910,350),(215577972,357),(456873072996710,362),(447734745709416,369),(3842607248760,376),(31385530727,383),(230209640,388),(57310597214976610,395),(7335752079819765112,400),(54469456771592288,125),(28430678503,132),(1799027,139),(4016815471728,144),(7485408809970137584,149),(4013321402097,154),(27327705455,159),(1068898861239313725936,166),(31377177332,171),(67482758328005877,178),(32996243938,185),(580922095379647869257067334142179810,190)]
noncomputable def GC:W (X×X):=[(54469456771592288,419),(59016999801139573,426),(949422290644340848749,433),(4047148741989,440),(2280775311893305951921172849,445),(1077250787088636016354,452),(137888100747345408047213,459),(1068095026425088389493,464),(31354237295,471),(1913193,478),(247216372,485),(4050101530993,492),(4016815504244,499),(8488673004616170090,506),(62940024286131428,513),(27631825378,520),(1865845,527),(7417361645658928866,534),(139058683729666914138730,541),(247167854,548),(4013071906151,555),(31385530727,562),(4016815307248,569)]
@[reducible]noncomputable def Cs:X:=1913314
@[reducible]noncomputable def Ct:X:=1831789
@[reducible]noncomputable def zt:X:=1817460
@[reducible]noncomputable def q8:X:=247018853
@[reducible]noncomputable def q9:X:=247281005
@[reducible]noncomputable def Hp:X:=1930100
@[reducible]noncomputable def uH:X:=3497961257076
@[reducible]noncomputable def Cu:X:=1865083
@[reducible]noncomputable def D6:X:=7416174723959994342
@[reducible]noncomputable def GD:X:=27600351603
@[reducible]noncomputable def B3:X:=27610872693
@[reducible]noncomputable def uI:X:=3500345686242
@[reducible]noncomputable def yQ:X:=3500345752806
@[reducible]noncomputable def yR:X:=3536307452150
@[reducible]noncomputable def Oa:X:=31370885866
@[reducible]noncomputable def yS:X:=3536873829235
@[reducible]noncomputable def wF:X:=31641679972
noncomputable def oa(A:na)(x:f8)(l:W SL):an:=match A.names.lookup x with
 |some k=>ci (k∈l)
 |none=>bn
noncomputable def fv(x:f8):an:=(aZ (aW x)==x)&&!(x==("__debug__" :f8))&&!(x==("__classdict__" :f8))
noncomputable def e9(A:na)(x:f8):an:=oa A x [.local,.cell]&&fv x
noncomputable def gU(A:na)(x:f8):an:=oa A x [.globalImplicit,.globalExplicit]&&fv x
noncomputable def uN(e:kt):an:=!cX e 14&&!cX e 0
noncomputable def wG(e:kt):an:=!cX e 0
noncomputable def OS(e:kt):an:=!cX e 18
noncomputable def s_(B A:na):an:=ci (A.kind=.function)&&A.names.all λx=>match x.2 with
 |.local=>ci (A.names.lookup x.1=O .local)
 |.cell=>bn
 |.free=>fv x.1&&ci (A.names.lookup x.1=O .free)&&oa B x.1 [.cell,.free]
 |_=>M
noncomputable def xo(x:X)(A:na)(e:kt):an:=cX e 2&&(e9 A (bP e).s&&pi (aW (bP e).s) x)
noncomputable def iz(B:W X)(C:na):W kt->an:=lr (λA=>A.isEmpty) (λx _ D A=>lr bn (λe A _=>xo x C e&&D A) A) B
noncomputable def iB(t:eK)(A:na)(e:kt):an:=match t with
 |.ak x=>xo x A e
 |.bS B=>cX e 3&&iz B A (bP e).es
noncomputable def jr(A:na):W X:=A.names.filterMap λx=>match x.2 with
 |.free=>O (aW x.1)
 |_=>am
noncomputable def Ca(l:W X):an:=lr M (λx r A=>!r.any (pi x)&&A) l
noncomputable def Hq(o:im kt)(d:an)(K:kt->an):an:=match o with
 |none=>d
 |some e=>K e
noncomputable def GF:MX->an
 |.bG=>M
 |_=>bn
noncomputable def itC:ky->X
 |.bK=>0
 |.qq=>Cu
 |.p9=>D6
 |.hY=>GD
noncomputable def zc(k:ky)(e:kt):W kt:=match k with
 |.bK=>[e]
 |_=>(bP e).es.drop 1
noncomputable def g6(f:X)(A:na)(e:kt):an:=cX e 14&&(cX (cg e 0) 2&&(gU A (bP (cg e 0)).s&&pi (aW (bP (cg e 0)).s) f))
noncomputable def zd(k:ky)(A:na)(e:kt):an:=OS e&&match k with
 |.bK=>M
 |.qq=>g6 Cu A e&&pi (bP e).es.length 3
 |k=>g6 (itC k) A e&&pi (bP e).es.length 2
noncomputable def jy(e:kt)(i:X):yp:=match(bP e).gs.drop i with
 |c::_=>c
 |[]=>⟨e,e,[],1⟩
noncomputable def qr(m:X)(e:kt):an:=cX e 14&&(cX (cg e 0) 6&&(uN (cg (cg e 0) 0)&&(fv (bP (cg e 0)).s&&(pi (aW (bP (cg e 0)).s) m&&((bP (cg e 0)).q.endLine==(bP e).q.line)))))
noncomputable def xq(x:f8)(e:kt):an:=cX e 16&&(pi (bP e).es.length 3&&(cX (cg e 0) 17&&(ci ((bP (cg e 0)).i= -1)&&(cX (cg e 1) 1&&(ci ((bP (cg e 1)).c=.str x)&&(cX (cg e 2) 17&&ci ((bP (cg e 2)).i= -1)))))))
noncomputable def aeD(A:W kt):an:=(!A.all (Mu 8)||A.all (Mv 8))&&u8 A.length 100
mutual
noncomputable def cM:MX->na->kt->an
 |.eE,_,_=>M
 |.bG,_,e=>cX e 1&&ci ((bP e).c=.none)
 |.aJ b,_,e=>cX e 1&&ci ((bP e).c=.bool b)
 |.ab i,_,e=>cX e 1&&ci ((bP e).c=.int i)
 |.ae c,_,e=>cX e 1&&(ci ((bP e).c=.str (aZ c))&&jg c)
 |.aa x,A,e=>cX e 2&&(oa A (bP e).s [.local,.cell,.free]&&(fv (bP e).s&&pi (aW (bP e).s) x))
 |.gZ x,A,e=>cX e 2&&(gU A (bP e).s&&pi (aW (bP e).s) x)
 |.af l,A,e=>cX e 3&&f' l A (bP e).es
 |.cK l,A,e=>cX e 4&&f' l A (bP e).es
 |.cD l,A,e=>cX e 5&&(u8 (bP e).os.length 15&&De l A (bP e).os (bP e).es)
 |.cW m a,A,e=>cX e 6&&(uN (cg e 0)&&(fv (bP e).s&&(pi (aW (bP e).s) a&&cM m A (cg e 0))))
 |.ag a b,A,e=>cX e 7&&(cM a A (cg e 0)&&cM b A (cg e 1))
 |.iS a l h,A,e=>cX e 7&&(cX (cg e 1) 8&&(cM a A (cg e 0)&&match(bP (cg e 1)).os with
  |[x,y]=>Hq x (GF l) (cM l A)&&Hq y (GF h) (cM h A)
  |_=>bn))
 |.bj E a b,A,e=>cX e 9&&(ci ((bP e).op=E)&&(cM a A (cg e 0)&&cM b A (cg e 1)))
 |.ao E a b,A,e=>cX e 10&&(ci ((bP e).co=E)&&(!Mw E (cg e 1)&&(cM a A (cg e 0)&&cM b A (cg e 1))))
 |.cE E l,A,e=>cX e 11&&(ci ((bP e).bo=E)&&f' l A (bP e).es)
 |.d3 m,A,e=>cX e 12&&(ci ((bP e).un=.Not)&&cM m A (cg e 0))
 |.kz m,A,e=>cX e 12&&(ci ((bP e).un=.USub)&&cM m A (cg e 0))
 |.aF t a b,A,e=>cX e 13&&(cM t A (cg e 0)&&(cM a A (cg e 1)&&cM b A (cg e 2)))
 |.fn a l,A,e=>cX e 14&&(cX (cg e 0) 2&&(gU A (bP (cg e 0)).s&&(ci (aG GB (aW (bP (cg e 0)).s)=O a)&&f' l A ((bP e).es.drop 1))))
 |.bi f l,A,e=>g6 f A e&&f' l A ((bP e).es.drop 1)
 |.uM m,A,e=>g6 uH A e&&(pi (bP e).es.length 2&&(g6 Hp A (cg e 1)&&(pi (bP (cg e 1)).es.length 2&&(wG (cg (cg e 1) 1)&&cM m A (cg (cg e 1) 1)))))
 |.uT m,A,e=>g6 q9 A e&&(pi (bP e).es.length 2&&(qr Oa (cg e 1)&&(pi (bP (cg e 1)).es.length 1&&cM m A (cg (cg (cg e 1) 0) 0))))
 |.au o m l,A,e=>qr m e&&(Nat.blt (bP e).es.length 21&&(cM o A (cg (cg e 0) 0)&&f' l A ((bP e).es.drop 1)))
 |.dM I B t k C D,A,e=>cX e 15&&(pi (bP e).gs.length 1&&(s_ A (bP e).sc&&(ci (jr (bP e).sc=I)&&(iB t (bP e).sc (jy e 0).target&&(ci ((jy e 0).is_async=0)&&(zd k A (jy e 0).iter&&
  (f' C A (zc k (jy e 0).iter)&&(f' D (bP e).sc (jy e 0).ifs&&cM B (bP e).sc (cg e 0)))))))))
 |.kX I B t k C D L J F H,A,e=>cX e 15&&(pi (bP e).gs.length 2&&(s_ A (bP e).sc&&(ci (jr (bP e).sc=I)&&(iB t (bP e).sc (jy e 0).target&&(ci ((jy e 0).is_async=0)&&(zd k A (jy e 0).iter&&
  (f' C A (zc k (jy e 0).iter)&&(f' D (bP e).sc (jy e 0).ifs&&((iB L (bP e).sc (jy e 1).target&&(ci ((jy e 1).is_async=0)&&(zd J (bP e).sc (jy e 1).iter&&
  (f' F (bP e).sc (zc J (jy e 1).iter)&&f' H (bP e).sc (jy e 1).ifs))))&&cM B (bP e).sc (cg e 0))))))))))
 |.iJ a b,A,e=>xq "'" e&&(cM a A (cg (cg e 0) 0)&&cM b A (cg (cg e 2) 0))
 |.uU a b,A,e=>xq "." e&&(cM a A (cg (cg e 0) 0)&&cM b A (cg (cg e 2) 0))
 |.dW _,_,_=>bn
noncomputable def f':W MX->na->W kt->an
 |[],_,A=>A.isEmpty
 |m::C,B,A=>match A with
  |[]=>bn
  |e::A=>wG e&&(cM m B e&&f' C B A)
noncomputable def De:W MX->na->W (im kt)->W kt->an
 |k::v::r,C,A,B=>match A,B with
  |some a::A,b::B=>cM k C a&&(cM v C b&&De r C A B)
  |_,_=>bn
 |[],_,A,B=>A.isEmpty&&B.isEmpty
 |[_],_,_,_=>bn
end
noncomputable def ze:MX->an
 |.dM ..=>M
 |.kX ..=>M
 |_=>bn
noncomputable def rr:MX->im MX
 |.dW m=>O m
 |_=>am
noncomputable def H6(t:eK)(m:MX)(A:na)(e:kt):an:=match t with
 |.bS _=>!cX e 3&&cM m A e
 |.ak _=>match rr m with
  |some m=>ze m&&cM m A e
  |none=>(ze m||!cX e 15&&!cX e 19)&&cM m A e
mutual
noncomputable def fQ:MS->na->sB->an
 |.eE,_,_=>M
 |.bI t m,B,A=>jS A 2&&(iB t B (dw A 0)&&H6 t m B (dw A 1))
 |.gh C E,B,A=>jS A 2&&(cX (dw A 0) 3&&(cX (dw A 1) 3&&(aeD (bP (dw A 1)).es&&(iz C B (bP (dw A 0)).es&&(Ca C&&(pi C.length (bP (dw A 1)).es.length&&f' E B (bP (dw A 1)).es))))))
 |.mP o k m,B,A=>jS A 2&&(cX (dw A 0) 7&&(cM o B (cg (dw A 0) 0)&&(cM k B (cg (dw A 0) 1)&&cM m B (dw A 1))))
 |.eH o a m,B,A=>jS A 2&&(cX (dw A 0) 6&&(fv (bP (dw A 0)).s&&(pi (aW (bP (dw A 0)).s) a&&(cM o B (cg (dw A 0) 0)&&cM m B (dw A 1)))))
 |.gq x m e,B,A=>jS A 3&&(qr m (dw A 0)&&(xo x B (cg (cg (dw A 0) 0) 0)&&f' [e] B ((bP (dw A 0)).es.drop 1)))
 |.tf o m e,B,A=>jS A 3&&(qr m (dw A 0)&&(cX (cg (cg (dw A 0) 0) 0) 6&&(cM o B (cg (cg (dw A 0) 0) 0)&&f' [e] B ((bP (dw A 0)).es.drop 1))))
 |.aF t a b,B,A=>jS A 4&&(cM t B (dw A 0)&&(mZ a B (ri A).a&&mZ b B (ri A).b))
 |.w' t a b,B,A=>jS A 4&&(cM t B (dw A 0)&&(mZ a B (ri A).a&&mZ b B (ri A).b))
 |.d9 t k D b,B,A=>jS A 5&&(iB t B (dw A 0)&&(zd k B (dw A 1)&&(f' D B (zc k (dw A 1))&&mZ b B (ri A).a)))
 |.aB m,B,A=>jS A 1&&cM m B (dw A 0)
 |.vd t b,B,A=>jS A 6&&(cM t B (dw A 0)&&mZ b B (ri A).a)
noncomputable def mZ:W MS->na->W sB->an
 |[],_,l=>l.isEmpty
 |m::B,A,l=>match l with
  |[]=>bn
  |s::l=>fQ m A s&&mZ B A l
end
end
noncomputable def aap:W MS:=[(.aF (.ao .Eq (.bi 1831789 [(.aa 65736980274411623)]) (.ab 1)) [(.aB (.ag (.aa 65736980274411623) (.ab 0)))] []),(.aB (.aF (.ao .Gt (.bi 1831789 [(.aa 65736980274411623)]) (.ab 0)) (.af [(.ae 1669090),(.bi 27610872693 [(.aa 65736980274411623)])]) (.af [(.ae 215857653)])))]
noncomputable def aaq:W MS:=[(.bI (.ak 27346712679) (.ag (.aa 31381552358) (.ab 0))),(.d9 (.ak 243039462) .bK [(.iS (.aa 31381552358) (.ab 1) .bG)] [(.bI (.ak 27346712679) (.af [(.ae 30032967670),(.aa 27346712679),(.aa 243039462)]))]),(.aB (.aa 27346712679))]
noncomputable def Tj:W MS:=[(.eH (.aa 217805684) 1077326293127784969588 (.aa 1077326293127784969588)),(.eH (.aa 217805684) 31352157548 (.aa 31352157548)),(.eH (.aa 217805684) 31370885866 (.aa 31370885866)),(.eH (.aa 217805684) 514152355052399 (.aa 514152355052399)),(.eH (.aa 217805684) 31368900964 (.cD [])),(.d9 (.ak 232372970) .bK [(.aa 31370885866)] [(.aF (.ao .In (.ag (.aa 232372970) (.ab 0)) (.af [(.ae 213498353),(.ae 1833831)])) [(.mP (.cW (.aa 217805684) 31368900964) (.ag (.aa 232372970) (.ab 2)) (.aa 232372970))] [])]),(.eH (.aa 217805684) 31641679972 (.ab 0))]
noncomputable def T3:W MS:=[(.eH (.aa 217805684) 31641679972 (.bj .Add (.cW (.aa 217805684) 31641679972) (.ab 1))),(.aB (.iJ (.aa 215724399) (.cW (.aa 217805684) 31641679972)))]
noncomputable def UT:W MS:=[(.aB (.af [(.ae 1799027),(.ag (.cW (.aa 217805684) 514152355052399) (.aa 215724399))]))]
noncomputable def TH:W MS:=[(.aB (.dM [215724399] (.ag (.aa 27342255463) (.ab 1)) (.ak 27342255463) .bK [(.au (.cW (.aa 217805684) 1077326293127784969588) 4013071906151 [])] [(.ao .Eq (.ag (.aa 27342255463) (.ab 0)) (.aa 215724399))]))]
noncomputable def Tf:W MS:=[(.bI (.bS [31345784546,228389230,247279981]) (.au (.aa 215724399) 1031924937563414509811 [(.ae 48)])),(.aB (.af [(.aa 247279981),(.dM [31345784546] (.aa 1685488) (.ak 1685488) .bK [(.au (.cW (.aa 217805684) 1077326293127784969588) 4016815307248 [])] [(.ao .In (.aa 31345784546) (.af [(.ae 0),(.ag (.aa 1685488) (.ab 0))]))])]))]
noncomputable def TJ:W MS:=[(.aF (.cE .Or [(.au (.cW (.aa 217805684) 1077326293127784969588) 1913193 [(.aa 215724399)]),(.ao .NotEq (.au (.aa 217805684) 4016815471728 [(.aa 215724399)]) (.cK []))]) [(.aB (.kz (.ab 1)))] []),(.aF (.ao .In (.aa 215724399) (.cW (.aa 217805684) 31368900964)) [(.aB (.bi 1831789 [(.kX [] (.aa 1685488) (.ak 230241125) .bK [(.ag (.ag (.cW (.aa 217805684) 31368900964) (.aa 215724399)) (.ab 3))] [] (.ak 1685488) .bK [(.ag (.aa 230241125) (.ab 2))] [])]))] []),(.aF (.ao .In (.aa 215724399) (.gZ 12785341654902571414039375)) [(.aB (.ab 2))] []),(.bI (.bS [247279981,4016815307248]) (.au (.aa 217805684) 7485408809970137584 [(.aa 215724399)])),(.aB (.aF (.ao .NotEq (.aa 4016815307248) (.cK [])) (.au (.gZ 99885481678926339205584) 1930088 [(.aa 247279981),(.kz (.ab 1))]) (.kz (.ab 1))))]
noncomputable def T4:W MS:=[(.aF (.au (.cW (.aa 217805684) 1077326293127784969588) 1913193 [(.aa 215724399)]) [(.aB (.au (.aa 217805684) 1799027 [(.aa 215724399)]))] []),(.bI (.ak 4016815471728) (.au (.aa 217805684) 4016815471728 [(.aa 215724399)])),(.aF (.ao .NotEq (.aa 4016815471728) (.cK [])) [(.aB (.fn 111 [(.dM [215724399,217805684] (.au (.aa 217805684) 1799027 [(.uU (.aa 1717620) (.aa 215724399))]) (.ak 1717620) .bK [(.aa 4016815471728)] [])]))] []),(.bI (.bS [247279981,4016815307248]) (.au (.aa 217805684) 7485408809970137584 [(.aa 215724399)])),(.aF (.cE .Or [(.ao .NotIn (.aa 247279981) (.gZ 99820990180640905325008)),(.ao .Eq (.aa 4016815307248) (.cK []))]) [.eE] []),(.aB (.fn 111 [(.dM [247279981,217805684] (.au (.aa 217805684) 1068898861239313725936 [(.aa 247279981),(.aa 31345784546),(.aa 1717620)]) (.bS [31345784546,1717620]) .bK [(.aa 4016815307248)] [])]))]
noncomputable def T5:W MS:=[(.bI (.ak 213431145) (.ag (.aa 243039462) (.ab 0))),(.aF (.ao .Eq (.aa 213431145) (.ae 1799027)) [(.aB (.au (.aa 217805684) 580922095379647869257067334142179810 [(.ag (.aa 243039462) (.ab 1))]))] []),(.aF (.ao .In (.aa 213431145) (.af [(.ae 4013340523381),(.ae 215742575)])) [(.aB (.ag (.aa 243039462) (.ab 1)))] []),(.aF (.ao .In (.aa 213431145) (.af [(.ae 1896823),(.ae 251312118)])) [(.aB (.ab 1))] []),(.aF (.ao .In (.aa 213431145) (.af [(.ae 234468074),(.ae 234683253),(.ae 452584034547428),(.ae 242793204)])) [(.aB (.ab 2))] []),(.aF (.ao .In (.aa 213431145) (.af [(.ae 234535019),(.ae 518039304681969)])) [(.aB (.bj .Sub (.bj .Add (.au (.aa 217805684) 32996243938 [(.ag (.aa 243039462) (.ab 1))]) (.au (.aa 217805684) 32996243938 [(.ag (.aa 243039462) (.ab 2))])) (.aF (.ao .Eq (.aa 213431145) (.ae 234535019)) (.ab 2) (.ab 0))))] []),(.aF (.ao .Eq (.aa 213431145) (.ae 238794852)) [(.aB (.bi 1831789 [(.ag (.aa 243039462) (.ab 1))]))] []),(.aB (.au (.aa 217805684) 32996243938 [(.aF (.ao .In (.aa 213431145) (.af [(.ae 27319186658),(.ae 3978972460390)])) (.ag (.aa 243039462) (.ab 2)) (.ag (.aa 243039462) (.ab 1)))]))]
noncomputable def SW:W MS:=[(.d9 (.ak 27342255463) .bK [(.au (.cW (.aa 217805684) 1077326293127784969588) 4013071906151 [])] [(.aF (.ao .Eq (.ag (.cW (.aa 217805684) 514152355052399) (.uU (.ag (.aa 27342255463) (.ab 1)) (.ag (.aa 27342255463) (.ab 0)))) (.aa 115)) [(.aB (.ag (.au (.cW (.aa 217805684) 31352157548) 939619119670505354599 [(.ag (.aa 27342255463) (.ab 1)),(.ag (.aa 27342255463) (.ab 0))]) (.ab 1)))] [])]),(.aB (.aF (.ao .In (.aa 115) (.dM [217805684] (.ag (.cW (.aa 217805684) 514152355052399) (.bj .Add (.aa 31345784546) (.ae 31662389168))) (.bS [31345784546,1717620]) .bK [(.au (.cW (.aa 217805684) 1077326293127784969588) 4016815307248 [])] [])) (.ab 2) (.ab 1)))]
noncomputable def T6:W MS:=[(.bI (.ak 14576) (.ag (.aa 215578735) (.ab 0))),(.aF (.ao .In (.aa 14576) (.af [(.ae 1817455),(.ae 31641353074)])) [(.aB (.aF (.cE .Or [(.ao .Eq (.aa 14576) (.ae 1817455)),(.ao .Eq (.ag (.aa 215578735) (.ab 2)) (.ae 1817460))]) (.ae 3978959764335) (.ae 28433037813)))] []),(.aF (.ao .Eq (.aa 14576) (.ae 14326)) [(.aB (.aF (.ao .In (.ag (.aa 215578735) (.ab 2)) (.af [(.ae 36),(.ae 46)])) (.ae 3978959764335) (.aF (.ao .In (.ag (.aa 215578735) (.ab 2)) (.gZ 2389779475285)) (.ae 1930100) (.ae 28433037813))))] []),(.aF (.cE .Or [(.ao .Eq (.aa 14576) (.ae 29202593507)),(.cE .And [(.ao .Eq (.aa 14576) (.ae 1832291)),(.ao .NotIn (.ag (.aa 215578735) (.ab 2)) (.gZ 6097630170226975572))])]) [(.aB (.ae 28433037813))] []),(.aF (.ao .Eq (.aa 14576) (.ae 13290)) [(.aB (.au (.aa 217805684) 232585319 [(.ag (.aa 215578735) (.ab 3)),(.aa 1964006)]))] []),(.aF (.ao .Eq (.aa 14576) (.ae 1930093)) [(.aB (.au (.aa 217805684) 232585319 [(.ag (.aa 215578735) (.ab 4)),(.au (.aa 217805684) 527209049453421 [(.aa 215578735),(.aa 1964006)])]))] []),(.aF (.cE .And [(.ao .Eq (.aa 14576) (.ae 215724399)),(.ao .In (.ag (.aa 215578735) (.ab 2)) (.aa 1964006))]) [(.bI (.ak 213431145) (.ag (.ag (.aa 1964006) (.ag (.aa 215578735) (.ab 2))) (.ab 0))),(.aB (.aF (.ao .In (.aa 213431145) (.gZ 12775795755889552639896399)) (.ae 3978959764335) (.aF (.ao .In (.aa 213431145) (.gZ 99810904342884477413845)) (.ae 28433037813) (.ae 1930100))))] []),(.bI (.bS [215724399,244988386]) (.au (.aa 217805684) 456873081532772 [(.aa 215578735),(.aa 1964006)])),(.aB (.aF (.ao .Eq (.aa 215724399) (.ae 0)) (.ae 1930100) (.au (.aa 217805684) 16601209929626604510443623 [(.aa 215724399)])))]
noncomputable def S5:W MS:=[(.aF (.ao .In (.aa 215724399) (.cW (.aa 217805684) 31368900964)) [(.aB (.aF (.ao .Eq (.ag (.ag (.cW (.aa 217805684) 31368900964) (.aa 215724399)) (.ab 0)) (.ae 213498353)) (.ae 28433037813) (.ae 1930100)))] []),(.aF (.ao .In (.aa 215724399) (.gZ 12785341654902571414039375)) [(.aB (.ae 3978959764335))] []),(.aB (.aF (.ao .In (.ag (.au (.aa 217805684) 7485408809970137584 [(.aa 215724399)]) (.ab 0)) (.af [(.ae 15085),(.ae 1686253),(.ae 15080),(.ae 1686248)])) (.ae 28433037813) (.ae 1930100)))]
noncomputable def TK:W MS:=[(.bI (.ak 232585319) (.au (.aa 217805684) 232585319 [(.aa 215578735),(.aa 1964006)])),(.aF (.ao .Eq (.aa 232585319) (.ae 28433037813)) [(.aB (.au (.aa 217805684) 28433037813 [(.aa 215578735),(.aa 1964006)]))] []),(.aB (.aF (.ao .Eq (.aa 232585319) (.ae 3978959764335)) (.au (.aa 217805684) 3978959764335 [(.aa 215578735),(.aa 1964006)]) (.au (.aa 217805684) 243039462 [(.aa 215578735),(.aa 1964006)])))]
noncomputable def Tn:W MS:=[(.bI (.ak 27346712679) (.bi 247018853 [(.aa 1964006)])),(.mP (.aa 27346712679) (.ag (.aa 215578735) (.ab 2)) (.au (.aa 217805684) 27629678967 [(.ag (.aa 215578735) (.ab 3)),(.aa 1964006)])),(.aB (.aa 27346712679))]
noncomputable def TL:W MS:=[(.aF (.cE .And [(.ao .Eq (.ag (.aa 215578735) (.ab 0)) (.ae 215724399)),(.ao .NotIn (.ag (.aa 215578735) (.ab 2)) (.aa 1964006)),(.ao .GtE (.au (.aa 217805684) 4013321402097 [(.ag (.aa 215578735) (.ab 2))]) (.ab 0))]) [(.aB (.af [(.ag (.aa 215578735) (.ab 2)),(.af [])]))] []),(.aF (.ao .Eq (.ag (.aa 215578735) (.ab 0)) (.ae 1996899)) [(.bI (.bS [215724399,244988386]) (.au (.aa 217805684) 30045516643 [(.ag (.aa 215578735) (.ab 2)),(.aa 1964006)])),(.aF (.cE .And [(.ao .NotEq (.aa 215724399) (.ae 0)),(.ao .LtE (.bi 1831789 [(.ag (.aa 215578735) (.ab 3))]) (.bj .Sub (.au (.aa 217805684) 4013321402097 [(.aa 215724399)]) (.bi 1831789 [(.aa 244988386)])))]) [(.aB (.af [(.aa 215724399),(.bj .Add (.aa 244988386) (.bi 27610872693 [(.ag (.aa 215578735) (.ab 3))]))]))] [])] []),(.aF (.cE .And [(.ao .Eq (.ag (.aa 215578735) (.ab 0)) (.ae 1832291)),(.ao .Eq (.ag (.aa 215578735) (.ab 2)) (.ae 47))]) [(.bI (.bS [215724399,244988386]) (.au (.aa 217805684) 30045516643 [(.ag (.aa 215578735) (.ab 4)),(.aa 1964006)])),(.aF (.cE .And [(.ao .NotEq (.aa 215724399) (.ae 0)),(.ao .Lt (.bi 1831789 [(.aa 244988386)]) (.au (.aa 217805684) 4013321402097 [(.aa 215724399)]))]) [(.aB (.af [(.aa 215724399),(.bj .Add (.af [(.ag (.aa 215578735) (.ab 3))]) (.aa 244988386))]))] [])] []),(.aB (.af [(.ae 0),(.af [])]))]
noncomputable def To:W MS:=[(.bI (.bS [215724399,244988386]) (.au (.aa 217805684) 30045516643 [(.aa 215578735),(.aa 1964006)])),(.aF (.cE .And [(.ao .NotEq (.aa 215724399) (.ae 0)),(.ao .Lt (.bi 1831789 [(.aa 244988386)]) (.au (.aa 217805684) 4013321402097 [(.aa 215724399)]))]) [.eE] []),(.aB (.af [(.aa 215724399),(.aa 244988386)]))]
noncomputable def Tg:W MS:=[(.bI (.ak 4015464968561) (.kX [] (.aa 1685488) (.ak 230241125) .bK [(.ag (.ag (.cW (.aa 217805684) 31368900964) (.aa 215724399)) (.ab 3))] [] (.ak 1685488) .bK [(.ag (.aa 230241125) (.ab 2))] [])),(.aB (.bi 247018853 [(.dM [1964006,217805684] (.af [(.aa 29735317873),(.au (.aa 217805684) 27629678967 [(.aa 1718754),(.aa 1964006)])]) (.bS [29735317873,1718754]) .qq [(.aa 4015464968561),(.aa 244988386)] [])]))]
noncomputable def TM:W MS:=[(.bI (.ak 14576) (.ag (.aa 215578735) (.ab 0))),(.aF (.ao .Eq (.aa 14576) (.ae 29202593507)) [(.aB (.fn 104 [(.dM [1964006,217805684] (.au (.aa 217805684) 28433037813 [(.aa 1685488),(.aa 1964006)]) (.ak 1685488) .bK [(.ag (.aa 215578735) (.ab 2))] [])]))] []),(.aF (.cE .And [(.ao .Eq (.aa 14576) (.ae 14326)),(.ao .Eq (.ag (.aa 215578735) (.ab 2)) (.ae 34))]) [(.aB (.af [(.ae 1931375),(.au (.aa 217805684) 28433037813 [(.ag (.aa 215578735) (.ab 3)),(.aa 1964006)])]))] []),(.aF (.cE .And [(.ao .Eq (.aa 14576) (.ae 14326)),(.ao .In (.ag (.aa 215578735) (.ab 2)) (.af [(.ae 215726196),(.ae 14447),(.ae 215742573),(.ae 1685488)]))]) [(.aB (.af [(.ag (.aa 215578735) (.ab 2)),(.au (.aa 217805684) 243039462 [(.ag (.aa 215578735) (.ab 3)),(.aa 1964006)])]))] []),(.aF (.cE .And [(.ao .Eq (.aa 14576) (.ae 1832291)),(.ao .NotIn (.ag (.aa 215578735) (.ab 2)) (.gZ 6097630170226975572))]) [(.aB (.au (.aa 217805684) 57310523955066980 [(.aa 215578735),(.aa 1964006)]))] []),(.aF (.ao .Eq (.aa 14576) (.ae 13290)) [(.bI (.bS [100,1685488,31085722352]) (.dM [1964006,217805684] (.au (.aa 217805684) 28433037813 [(.aa 247263601),(.aa 1964006)]) (.ak 247263601) .bK [(.iS (.aa 215578735) (.ab 2) (.ab 5))] [])),(.aB (.af [(.ae 1669090),(.af [(.af [(.ae 513706773215082),(.aa 100),(.aa 1685488)]),(.af [(.ae 513706773215082),(.af [(.ae 1931375),(.aa 100)]),(.aa 31085722352)])])]))] []),(.aF (.ao .Eq (.aa 14576) (.ae 1930093)) [(.aB (.au (.aa 217805684) 28433037813 [(.ag (.aa 215578735) (.ab 4)),(.au (.aa 217805684) 527209049453421 [(.aa 215578735),(.aa 1964006)])]))] []),(.aF (.cE .And [(.ao .Eq (.aa 14576) (.ae 31641353074)),(.ao .NotEq (.ag (.aa 215578735) (.ab 2)) (.ae 1817460))]) [(.aB (.au (.aa 217805684) 938970579681827928946 [(.ag (.aa 215578735) (.ab 2)),(.ag (.aa 215578735) (.ab 3)),(.ag (.aa 215578735) (.ab 4)),(.aa 1964006)]))] []),(.aF (.cE .And [(.ao .Eq (.aa 14576) (.ae 215724399)),(.ao .In (.ag (.aa 215578735) (.ab 2)) (.aa 1964006)),(.ao .In (.ag (.ag (.aa 1964006) (.ag (.aa 215578735) (.ab 2))) (.ab 0)) (.gZ 99810904342884477413845))]) [(.aB (.ag (.aa 1964006) (.ag (.aa 215578735) (.ab 2))))] []),(.bI (.bS [215724399,244988386]) (.aF (.ao .In (.aa 14576) (.af [(.ae 215724399),(.ae 1996899),(.ae 1832291)])) (.au (.aa 217805684) 456873081532772 [(.aa 215578735),(.aa 1964006)]) (.af [(.ae 0),(.af [])]))),(.aF (.ao .Eq (.aa 215724399) (.ae 0)) [.eE] []),(.aF (.ao .In (.aa 215724399) (.cW (.aa 217805684) 31368900964)) [(.bI (.ak 31085819882) (.au (.aa 217805684) 67482758313374052 [(.aa 215724399),(.aa 244988386),(.aa 1964006)])),(.aB (.fn 104 [(.dM [31085819882,217805684] (.au (.aa 217805684) 28433037813 [(.aa 1685488),(.aa 31085819882)]) (.ak 1685488) .bK [(.ag (.ag (.cW (.aa 217805684) 31368900964) (.aa 215724399)) (.ab 4))] [])]))] []),(.aB (.au (.aa 217805684) 447738476591600 [(.aa 215724399),(.aa 244988386),(.aa 1964006),(.ag (.aa 215578735) (.ab 1))]))]
noncomputable def Th:W MS:=[(.bI (.bS [234501492,247067501,31628866931]) (.iS (.aa 215578735) (.ab 2) (.ab 5))),(.aF (.ao .In (.aa 234501492) (.af [(.ae 5031),(.ae 16125)])) [(.aB (.af [(.aF (.ao .Eq (.aa 234501492) (.ae 5031)) (.ae 1669090) (.ae 14832)),(.af [(.au (.aa 217805684) 28433037813 [(.aa 247067501),(.aa 1964006)]),(.au (.aa 217805684) 28433037813 [(.aa 31628866931),(.aa 1964006)])])]))] []),(.aF (.ao .In (.aa 234501492) (.af [(.ae 8126),(.ae 1040189)])) [(.aB (.af [(.aF (.ao .Eq (.aa 234501492) (.ae 8126)) (.ae 513706773215082) (.ae 1700842)),(.au (.aa 217805684) 28433037813 [(.aa 247067501),(.aa 1964006)]),(.au (.aa 217805684) 28433037813 [(.aa 31628866931),(.aa 1964006)])]))] []),(.aF (.ao .In (.aa 234501492) (.af [(.ae 7970),(.ae 1832226)])) [(.aB (.af [(.ae 1931375),(.au (.aa 217805684) 57310523955066980 [(.af [(.ae 1832291),(.ag (.aa 215578735) (.ab 1)),(.iS (.aa 234501492) (.ab 1) .bG),(.aa 247067501),(.aa 31628866931)]),(.aa 1964006)])]))] []),(.aF (.cE .And [(.ao .Eq (.aa 234501492) (.ae 62)),(.ao .Eq (.au (.aa 217805684) 232585319 [(.aa 247067501),(.aa 1964006)]) (.ae 1930100))]) [(.aB (.af [(.ae 215724404),(.au (.aa 217805684) 243039462 [(.aa 247067501),(.aa 1964006)]),(.au (.aa 217805684) 243039462 [(.aa 31628866931),(.aa 1964006)])]))] []),(.aF (.ao .Eq (.aa 234501492) (.ae 14314)) [(.aB (.au (.aa 217805684) 447734737647715 [(.au (.aa 217805684) 243039462 [(.aa 247067501),(.aa 1964006)]),(.aa 31628866931),(.aa 1964006)]))] []),(.gh [106,107] [(.au (.aa 217805684) 3978959764335 [(.aa 247067501),(.aa 1964006)]),(.au (.aa 217805684) 3978959764335 [(.aa 31628866931),(.aa 1964006)])]),(.aF (.ao .In (.aa 234501492) (.af [(.ae 63),(.ae 7999)])) [(.gh [106,107] [(.aa 107),(.aa 106)])] []),(.aB (.af [(.aF (.ao .Eq (.aa 234501492) (.ae 62)) (.ae 14694) (.aF (.ao .In (.aa 234501492) (.af [(.ae 61),(.ae 63)])) (.ae 15085) (.ae 13165))),(.aa 106),(.aa 107)]))]
noncomputable def vM:W MS:=[(.gh [27346712679,1964006,31649741026] [(.cK []),(.bi 247018853 [(.aa 1964006)]),(.cK [])]),(.d9 (.bS [247216372,474605373897322,31354237295,247167854,215578735]) .bK [(.aa 31368754021)] [(.aF (.ao .NotIn (.aa 247167854) (.af [(.ae 0),(.ae 1685488)])) [.eE] []),(.gh [3842592454757,215726196] [(.au (.aa 217805684) 243039462 [(.aa 215578735),(.aa 1964006)]),(.dM [217805684] (.au (.aa 217805684) 28430678503 [(.aa 215724399)]) (.ak 215724399) .bK [(.aa 31354237295)] [])]),(.aF (.ao .NotEq (.au (.aa 217805684) 32996243938 [(.aa 3842592454757)]) (.ab 1)) [.eE] []),(.d9 (.bS [108,215724399]) .p9 [(.aa 215726196)] [(.gq 27346712679 3500345686242 (.af [(.aa 215724399),(.aa 3842592454757)])),(.gq 31649741026 3500345752806 (.dM [474605373897322,215724399] (.af [(.ae 1931375),(.af [(.ae 215724404),(.af [(.ae 1896823),(.aa 215724399)]),(.af [(.ae 1896823),(.aa 31085722352)])])]) (.ak 31085722352) .bK [(.iS (.aa 215726196) .bG (.aa 108))] [(.aa 474605373897322)]))]),(.gq 1964006 3536307452150 (.dM [] (.af [(.aa 215724399),(.af [(.ae 1896823),(.aa 215839085)])]) (.bS [215724399,215839085]) .qq [(.aa 31354237295),(.aa 215726196)] []))]),(.aB (.af [(.bi 27610872693 [(.aa 27346712679)]),(.aa 1964006),(.aa 31649741026)]))]
noncomputable def S9:W MS:=[(.bI (.bS [213612661,31085819882,31649741026]) (.au (.aa 217805684) 58479756315276133 [(.aa 31368754021),(.aa 1964006)])),(.bI (.ak 434785677539431) (.au (.aa 217805684) 28433037813 [(.aa 257521763),(.aa 31085819882)])),(.aF (.ao .Eq (.aa 114) (.ae 1799906)) [(.aB (.af [(.ae 1799906),(.aa 213612661),(.aF (.ao .NotEq (.aa 31649741026) (.cK [])) (.af [(.ae 513706773215082),(.fn 104 [(.aa 31649741026)]),(.aa 434785677539431)]) (.aa 434785677539431))]))] []),(.bI (.ak 434785677539431) (.fn 104 [(.bj .Add (.aa 31649741026) (.cK [(.aa 434785677539431)]))])),(.aF (.ao .In (.aa 114) (.af [(.ae 215726196),(.ae 14447)])) [(.aB (.aF (.ao .Eq (.aa 114) (.ae 215726196)) (.af [(.ae 4017381620966),(.aa 213612661),(.aa 434785677539431)]) (.af [(.ae 1931375),(.af [(.ae 4017381620966),(.aa 213612661),(.aa 434785677539431)])])))] []),(.aB (.af [(.aa 114),(.af [(.ae 238794852),(.aa 213612661),(.aa 434785677539431)])]))]
noncomputable def T7:W MS:=[(.bI (.ak 14576) (.ag (.aa 215578735) (.ab 0))),(.aF (.ao .In (.aa 14576) (.af [(.ae 251312118),(.ae 234468074)])) [(.aB (.aF (.ao .Eq (.aa 14576) (.ae 251312118)) (.au (.aa 217805684) 8421102031084418786 []) (.au (.aa 217805684) 1077901059978790941044 [])))] []),(.aF (.ao .Eq (.aa 14576) (.ae 215742575)) [(.aB (.af [(.ae 215742575),(.ab 1)]))] []),(.aF (.cE .And [(.ao .Eq (.aa 14576) (.ae 14326)),(.ao .In (.ag (.aa 215578735) (.ab 2)) (.gZ 2389779475285))]) [(.aB (.au (.aa 217805684) 3497948674933 [(.ag (.aa 215578735) (.ab 2)),(.au (.aa 217805684) 243039462 [(.ag (.aa 215578735) (.ab 3)),(.aa 1964006)])]))] []),(.aF (.ao .Eq (.aa 14576) (.ae 32449034722)) [(.aB (.af [(.ae 518039304681969),(.au (.aa 217805684) 243039462 [(.ag (.aa 215578735) (.ab 4)),(.aa 1964006)]),(.au (.aa 217805684) 243039462 [(.ag (.aa 215578735) (.ab 5)),(.aa 1964006)])]))] []),(.aF (.ao .Eq (.aa 14576) (.ae 31108872292)) [(.bI (.bS [213612661,31085819882,31649741026]) (.au (.aa 217805684) 58479756315276133 [(.ag (.aa 215578735) (.ab 2)),(.aa 1964006)])),(.aB (.af [(.ae 238794852),(.aa 213612661),(.fn 104 [(.bj .Add (.aa 31649741026) (.cK [(.au (.aa 217805684) 28433037813 [(.ag (.aa 215578735) (.ab 3)),(.aa 31085819882)])]))])]))] []),(.aF (.ao .Eq (.aa 14576) (.ae 13290)) [(.aB (.af [(.ae 3978972460390),(.au (.aa 217805684) 28433037813 [(.ag (.aa 215578735) (.ab 2)),(.aa 1964006)]),(.au (.aa 217805684) 243039462 [(.ag (.aa 215578735) (.ab 3)),(.aa 1964006)]),(.au (.aa 217805684) 243039462 [(.ag (.aa 215578735) (.ab 4)),(.aa 1964006)])]))] []),(.aF (.ao .Eq (.aa 14576) (.ae 1930093)) [(.aB (.au (.aa 217805684) 243039462 [(.ag (.aa 215578735) (.ab 4)),(.au (.aa 217805684) 527209049453421 [(.aa 215578735),(.aa 1964006)])]))] []),(.aF (.cE .And [(.ao .Eq (.aa 14576) (.ae 215724399)),(.ao .In (.ag (.aa 215578735) (.ab 2)) (.aa 1964006))]) [(.aB (.au (.aa 217805684) 3497961189752 [(.ag (.aa 1964006) (.ag (.aa 215578735) (.ab 2))),(.ae 1930100),(.ag (.aa 215578735) (.ab 1))]))] []),(.bI (.bS [215724399,244988386]) (.aF (.ao .In (.aa 14576) (.af [(.ae 215724399),(.ae 1996899),(.ae 1832291)])) (.au (.aa 217805684) 456873081532772 [(.aa 215578735),(.aa 1964006)]) (.af [(.ae 0),(.af [])]))),(.aF (.ao .NotEq (.aa 215724399) (.ae 0)) [(.aB (.au (.aa 217805684) 136819054238151137259876 [(.aa 215724399),(.aa 244988386),(.aa 1964006),(.ag (.aa 215578735) (.ab 1))]))] []),(.aF (.ao .Eq (.aa 14576) (.ae 215724399)) [(.aB (.au (.aa 217805684) 27327705455 [(.ag (.aa 215578735) (.ab 2)),(.ag (.aa 215578735) (.ab 1))]))] []),(.aF (.ao .Eq (.aa 14576) (.ae 1996899)) [(.bI (.ak 27346712679) (.au (.aa 217805684) 243039462 [(.ag (.aa 215578735) (.ab 2)),(.aa 1964006)])),(.d9 (.ak 1685488) .bK [(.ag (.aa 215578735) (.ab 3))] [(.bI (.ak 27346712679) (.af [(.ae 234535019),(.au (.aa 217805684) 243039462 [(.aa 1685488),(.aa 1964006)]),(.aa 27346712679)]))]),(.aB (.aa 27346712679))] []),(.aF (.cE .Or [(.ao .NotEq (.aa 14576) (.ae 1832291)),(.ao .NotIn (.ag (.aa 215578735) (.ab 2)) (.gZ 6097630170226975572))]) [.eE] []),(.aB (.af [(.ag (.gZ 6097630170226975572) (.ag (.aa 215578735) (.ab 2))),(.au (.aa 217805684) 243039462 [(.ag (.aa 215578735) (.ab 3)),(.aa 1964006)]),(.au (.aa 217805684) 243039462 [(.ag (.aa 215578735) (.ab 4)),(.aa 1964006)])]))]
noncomputable def Tu:W MS:=[(.bI (.ak 8344483427696261738) (.ao .In (.ag (.aa 27629678967) (.ab 0)) (.gZ 12775795755889552639896399))),(.aF (.cE .Or [(.ao .In (.ag (.aa 27629678967) (.ab 0)) (.gZ 99810904342884477413845)),(.ao .NotEq (.aa 8344483427696261738) (.ao .Eq (.aa 232585319) (.ae 3978959764335)))]) [.eE] []),(.aB (.aa 27629678967))]
noncomputable def S8:W MS:=[(.aF (.cE .And [(.ao .In (.aa 215724399) (.cW (.aa 217805684) 31368900964)),(.ao .Eq (.ag (.ag (.cW (.aa 217805684) 31368900964) (.aa 215724399)) (.ab 0)) (.ae 1833831))]) [(.aB (.au (.aa 217805684) 243039462 [(.ag (.ag (.cW (.aa 217805684) 31368900964) (.aa 215724399)) (.ab 6)),(.au (.aa 217805684) 67482758313374052 [(.aa 215724399),(.aa 244988386),(.aa 1964006)])]))] []),(.bI (.ak 247279981) (.ag (.au (.aa 217805684) 7485408809970137584 [(.aa 215724399)]) (.ab 0))),(.aF (.cE .Or [(.ao .In (.aa 215724399) (.cW (.aa 217805684) 31368900964)),(.ao .NotIn (.aa 247279981) (.af [(.ae 31385875311),(.ae 31389759985)]))]) [.eE] []),(.aB (.af [(.ae 234535019),(.au (.aa 217805684) 243039462 [(.ag (.aa 244988386) (.ab 0)),(.aa 1964006)]),(.au (.aa 217805684) 31377177332 [(.aa 215724399),(.ao .Eq (.aa 247279981) (.ae 31385875311))])]))]
noncomputable def Tv:W MS:=[(.bI (.ak 14576) (.ag (.aa 215578735) (.ab 0))),(.aF (.ao .Eq (.aa 14576) (.ae 1817455)) [(.aB (.af [(.ae 1817455),(.ag (.aa 215578735) (.ab 2))]))] []),(.aF (.cE .And [(.ao .Eq (.aa 14576) (.ae 14326)),(.ao .Eq (.ag (.aa 215578735) (.ab 2)) (.ae 36))]) [(.aB (.af [(.ae 31641679972),(.au (.aa 217805684) 243039462 [(.ag (.aa 215578735) (.ab 3)),(.aa 1964006)])]))] []),(.aF (.cE .And [(.ao .Eq (.aa 14576) (.ae 14326)),(.ao .Eq (.ag (.aa 215578735) (.ab 2)) (.ae 46))]) [(.aB (.af [(.ae 245183341),(.af [(.ae 1817455),(.ab 0)]),(.au (.aa 217805684) 3978959764335 [(.ag (.aa 215578735) (.ab 3)),(.aa 1964006)])]))] []),(.aF (.cE .And [(.ao .Eq (.aa 14576) (.ae 31641353074)),(.ao .Eq (.ag (.aa 215578735) (.ab 2)) (.ae 1817460))]) [(.bI (.bS [213612661,31085819882,31649741026]) (.au (.aa 217805684) 58479756315276133 [(.ag (.aa 215578735) (.ab 3)),(.aa 1964006)])),(.bI (.ak 27346712679) (.au (.aa 217805684) 3978959764335 [(.ag (.aa 215578735) (.ab 4)),(.aa 31085819882)])),(.aB (.af [(.ae 1817460),(.aa 213612661),(.aF (.ao .NotEq (.aa 31649741026) (.cK [])) (.af [(.ae 3536068556004),(.fn 104 [(.aa 31649741026)]),(.aa 27346712679),(.af [(.ae 1817455),(.ab 0)])]) (.aa 27346712679))]))] []),(.aF (.ao .Eq (.aa 14576) (.ae 13290)) [(.aB (.af [(.ae 3536068556004),(.au (.aa 217805684) 28433037813 [(.ag (.aa 215578735) (.ab 2)),(.aa 1964006)]),(.au (.aa 217805684) 3978959764335 [(.ag (.aa 215578735) (.ab 3)),(.aa 1964006)]),(.au (.aa 217805684) 3978959764335 [(.ag (.aa 215578735) (.ab 4)),(.aa 1964006)])]))] []),(.aF (.ao .Eq (.aa 14576) (.ae 1930093)) [(.aB (.au (.aa 217805684) 3978959764335 [(.ag (.aa 215578735) (.ab 4)),(.au (.aa 217805684) 527209049453421 [(.aa 215578735),(.aa 1964006)])]))] []),(.aF (.cE .And [(.ao .Eq (.aa 14576) (.ae 215724399)),(.ao .In (.ag (.aa 215578735) (.ab 2)) (.aa 1964006))]) [(.aB (.au (.aa 217805684) 3497961189752 [(.ag (.aa 1964006) (.ag (.aa 215578735) (.ab 2))),(.ae 3978959764335),(.ag (.aa 215578735) (.ab 1))]))] []),(.bI (.bS [215724399,244988386]) (.aF (.ao .In (.aa 14576) (.af [(.ae 215724399),(.ae 1996899),(.ae 1832291)])) (.au (.aa 217805684) 456873081532772 [(.aa 215578735),(.aa 1964006)]) (.af [(.ae 0),(.af [])]))),(.aF (.cE .Or [(.ao .In (.aa 215724399) (.cW (.aa 217805684) 31368900964)),(.ao .NotIn (.aa 215724399) (.gZ 12785341654902571414039375))]) [.eE] []),(.aB (.af [(.ag (.gZ 12785341654902571414039375) (.aa 215724399)),(.au (.aa 217805684) 3978959764335 [(.ag (.aa 244988386) (.ab 0)),(.aa 1964006)]),(.au (.aa 217805684) 3978959764335 [(.ag (.aa 244988386) (.ab 1)),(.aa 1964006)])]))]
noncomputable def Td:W MS:=[(.aF (.ao .NotEq (.ag (.aa 215578735) (.ab 0)) (.ae 32449034722)) [(.aB (.aJ bn))] []),(.aB (.cE .Or [(.ao .NotIn (.ag (.aa 215578735) (.ab 2)) (.af [(.ae 0),(.ae 1930100)])),(.ao .NotIn (.ag (.aa 215578735) (.ab 3)) (.af [(.ae 0),(.ae 1930100)])),(.au (.aa 217805684) 7335716860011756138 [(.ag (.aa 215578735) (.ab 4))]),(.au (.aa 217805684) 7335716860011756138 [(.ag (.aa 215578735) (.ab 5))])]))]
noncomputable def Tp:W MS:=[(.bI (.ak 27346712679) (.cK [(.af [(.ae 14314),(.aa 27629678967),(.au (.aa 217805684) 243039462 [(.aa 215578735),(.aa 1964006)])])])),(.aF (.au (.aa 217805684) 7335716860011756138 [(.aa 215578735)]) [(.gq 27346712679 3500345752806 (.au (.aa 217805684) 3497942380910 [(.aa 27629678967),(.aa 215578735),(.aa 1964006)]))] []),(.aB (.fn 104 [(.aa 27346712679)]))]
noncomputable def T8:W MS:=[(.bI (.bS [213644652,247216372,215724399,31354091631]) (.iS (.aa 448043167758436) .bG (.ab 4))),(.aF (.ao .IsNot (.aa 31354091631) .bG) [(.bI (.ak 27346712679) (.fn 104 [(.dM [217805684] (.au (.aa 217805684) 28433037813 [(.aa 1685488),(.cD [])]) (.ak 1685488) .bK [(.aa 31354091631)] [])]))] [(.aF (.ao .Eq (.aa 213644652) (.ae 29202429156)) [(.bI (.ak 27346712679) (.fn 104 [(.dM [217805684] (.au (.aa 217805684) 28433037813 [(.aa 1685488),(.cD [])]) (.ak 1685488) .bK [(.au (.aa 217805684) 57310597214976610 [(.aa 215724399),(.aa 247216372)])] [])]))] [(.bI (.ak 27346712679) (.au (.aa 217805684) 7335752079819765112 [(.aa 215724399),(.aa 247216372)]))])]),(.aB (.aF (.ao .Eq (.aa 213644652) (.ae 1833843)) (.aa 27346712679) (.af [(.ae 1931375),(.aa 27346712679)])))]
noncomputable def Te:W MS:=[(.aF (.ao .NotIn (.aa 215724399) (.cW (.aa 217805684) 31368900964)) [.eE] []),(.bI (.bS [213612661,1964006,31649741026]) (.au (.aa 217805684) 58479756315276133 [(.ag (.ag (.cW (.aa 217805684) 31368900964) (.aa 215724399)) (.ab 3)),(.cD [])])),(.bI (.ak 27346712679) (.fn 104 [(.bj .Add (.aa 31649741026) (.dM [1964006,217805684] (.au (.aa 217805684) 28433037813 [(.aa 1685488),(.aa 1964006)]) (.ak 1685488) .bK [(.ag (.ag (.cW (.aa 217805684) 31368900964) (.aa 215724399)) (.ab 4))] []))])),(.aB (.aF (.ao .NotEq (.aa 213612661) (.af [])) (.af [(.ae 4017381620966),(.aa 213612661),(.aa 27346712679)]) (.aa 27346712679)))]
noncomputable def S6:W MS:=[(.eH (.aa 217805684) 513706785863654 (.cD [])),(.eH (.aa 217805684) 4013076036340 (.cK [])),(.eH (.aa 217805684) 3497948461296 (.cK [])),(.d9 (.ak 232372970) .bK [(.aa 31370885866)] [(.aF (.ao .Eq (.ag (.aa 232372970) (.ab 0)) (.ae 1717620)) [(.gq 217805684 59016999801139573 (.aa 232372970))] [])]),(.d9 (.ak 215724399) .bK [(.cW (.aa 217805684) 4013076036340)] [(.gq 217805684 949422290644340848749 (.aa 215724399))]),(.eH (.aa 217805684) 447738476591600 (.au (.aa 217805684) 2280775311893305951921172849 [])),(.eH (.aa 217805684) 1077250787088636050544 (.au (.aa 217805684) 1077250787088636016354 [])),.eE,(.d9 (.ak 232372970) .bK [(.aa 31370885866)] [(.aF (.ao .Eq (.ag (.aa 232372970) (.ab 0)) (.ae 234469616)) [(.gq 217805684 1068095026425088389493 (.aa 232372970))] [])])]
noncomputable def S7:W MS:=[(.d9 (.ak 215724399) .bK [(.ag (.aa 232372970) (.ab 2))] [(.aF (.ao .In (.aa 215724399) (.cW (.aa 217805684) 513706785863654)) [.eE] []),(.mP (.cW (.aa 217805684) 513706785863654) (.aa 215724399) (.aa 232372970)),(.tf (.cW (.aa 217805684) 4013076036340) 3500345686242 (.aa 215724399))]),(.aF (.cE .And [(.ao .Gt (.bi 1831789 [(.ag (.aa 232372970) (.ab 6))]) (.ab 0)),(.ag (.aa 232372970) (.ab 3))]) [.eE] [])]
noncomputable def SY:W MS:=[(.d9 (.ak 31085722352) .bK [(.au (.aa 217805684) 4047148741989 [(.aa 215724399)])] [(.aF (.ao .NotIn (.aa 31085722352) (.cW (.aa 217805684) 513706785863654)) [.eE] [])]),(.aF (.cE .And [(.ao .NotEq (.au (.aa 217805684) 4050101530993 [(.aa 215724399)]) (.ae 0)),(.au (.aa 217805684) 8488673004616170090 [(.au (.aa 217805684) 4050101530993 [(.aa 215724399)])])]) [.eE] [])]
noncomputable def S':W MS:=[(.aB (.bj .Add (.aF (.ao .NotEq (.au (.aa 217805684) 4050101530993 [(.aa 215724399)]) (.ae 0)) (.af [(.au (.aa 217805684) 4050101530993 [(.aa 215724399)])]) (.af [])) (.au (.aa 217805684) 4016815504244 [(.aa 215724399)])))]
noncomputable def SR:W MS:=[(.gh [27346712679,247280499] [(.cK []),(.bi 247281005 [(.cW (.aa 217805684) 4013076036340)])]),(.vd (.ao .Gt (.bi 1831789 [(.aa 247280499)]) (.ab 0)) [(.bI (.ak 215708130) (.dW (.dM [27346712679,217805684] (.aa 215724399) (.ak 215724399) .bK [(.aa 247280499)] [(.ao .Eq (.dM [27346712679] (.aa 31085722352) (.ak 31085722352) .bK [(.au (.aa 217805684) 4047148741989 [(.aa 215724399)])] [(.ao .NotIn (.aa 31085722352) (.aa 27346712679))]) (.cK []))]))),(.aF (.ao .Eq (.bi 1831789 [(.aa 215708130)]) (.ab 0)) [.eE] []),(.gq 27346712679 3500345686242 (.ag (.aa 215708130) (.ab 0))),(.gq 247280499 3536873829235 (.ag (.aa 215708130) (.ab 0)))]),(.aB (.aa 27346712679))]
noncomputable def S1:W MS:=[(.gh [27346712679,30582520296] [(.cK []),(.ab 0)]),(.d9 (.ak 215724399) .bK [(.cW (.aa 217805684) 447738476591600)] [(.d9 (.bS [247216372,474605373897322,4013071906151,247167854,215578735]) .bK [(.ag (.ag (.cW (.aa 217805684) 513706785863654) (.aa 215724399)) (.ab 7))] [(.d9 (.ak 27342255463) .bK [(.aa 4013071906151)] [(.gq 27346712679 3500345686242 (.af [(.aa 27342255463),(.aa 215724399),(.aa 247167854),(.aa 215578735),(.aa 247216372),(.aF (.aa 474605373897322) (.aa 30582520296) (.kz (.ab 1)))]))]),(.bI (.ak 30582520296) (.bj .Add (.aa 30582520296) (.aF (.aa 474605373897322) (.ab 1) (.ab 0))))])]),(.aB (.aa 27346712679))]
noncomputable def SX:W MS:=[(.bI (.ak 234468212) (.cD [])),(.d9 (.bS [27342255463,215724399,247167854,215578735,247216372,30582520296]) .bK [(.cW (.aa 217805684) 1077250787088636050544)] [(.aF (.ao .In (.aa 27342255463) (.cW (.aa 217805684) 513706785863654)) [.eE] []),(.d9 (.ak 31085722352) .bK [(.bj .Add (.cK [(.aa 215724399)]) (.au (.aa 217805684) 7417361645658928866 [(.aa 215724399)]))] [(.w' (.ao .In (.af [(.aa 27342255463),(.aa 31085722352)]) (.aa 234468212)) [.eE] [])]),(.mP (.aa 234468212) (.af [(.aa 27342255463),(.aa 215724399)]) (.aJ M))])]
noncomputable def Tq:W MS:=[(.aB (.ao .In (.aa 215724399) (.cW (.aa 217805684) 513706785863654)))]
noncomputable def S_:W MS:=[(.aB (.ag (.ag (.cW (.aa 217805684) 513706785863654) (.aa 215724399)) (.ab 5)))]
noncomputable def Ta:W MS:=[(.aB (.bi 27610872693 [(.ag (.ag (.cW (.aa 217805684) 513706785863654) (.aa 215724399)) (.ab 6))]))]
noncomputable def S3:W MS:=[(.aB (.ao .Gt (.bi 1831789 [(.ag (.ag (.cW (.aa 217805684) 513706785863654) (.aa 215724399)) (.ab 6))]) (.ab 0)))]
noncomputable def S4:W MS:=[(.gh [27346712679,461239469388152] [(.cK []),(.bi 247281005 [(.au (.aa 217805684) 4047148741989 [(.aa 215724399)])])]),(.vd (.ao .Gt (.bi 1831789 [(.aa 461239469388152)]) (.ab 0)) [(.bI (.ak 31085722352) (.au (.aa 461239469388152) 1865841 [(.ab 0)])),(.aF (.ao .NotIn (.aa 31085722352) (.aa 27346712679)) [(.gq 27346712679 3500345686242 (.aa 31085722352)),(.gq 461239469388152 3500345752806 (.au (.aa 217805684) 4047148741989 [(.aa 31085722352)]))] [])]),(.aB (.aa 27346712679))]
noncomputable def Tb:W MS:=[(.aB (.bi 247281005 [(.cW (.aa 217805684) 1077250787088636050544)]))]
noncomputable def Tc:W MS:=[(.aB (.bi 247281005 [(.cW (.aa 217805684) 3497948461296)]))]
noncomputable def A3:W MS:=[(.bI (.ak 108) (.ag (.aa 213496679) (.ae 31641679972))),(.mP (.aa 213496679) (.ae 31641679972) (.bj .Add (.aa 108) (.ab 1))),(.aF (.ao .Lt (.aa 108) (.bi 1831789 [(.ag (.aa 213496679) (.ae 31368901476))])) [(.aB (.bj .Mod (.bi 1913314 [(.ag (.ag (.aa 213496679) (.ae 31368901476)) (.aa 108))]) (.aa 257683822)))] []),(.aB (.bj .Mod (.bj .Mod (.bj .Add (.bj .Add (.bj .Add (.bj .Mult (.ab 7) (.ag (.aa 213496679) (.ae 27346450147))) (.bj .Mult (.bj .Mult (.ab 31) (.aa 108)) (.aa 108))) (.bj .Mult (.ab 13) (.aa 108))) (.ab 5)) (.ab 97)) (.aa 257683822)))]
noncomputable def UU:W MS:=[(.aB (.ag (.ae 15737) (.fn 583 [(.aa 213496679),(.ab 2)])))]
noncomputable def UW:W MS:=[(.gh [2011512,215577976] [(.fn 583 [(.aa 213496679),(.ab 3)]),(.aF (.ao .Gt (.aa 238662501) (.ab 1)) (.fn 583 [(.aa 213496679),(.ab 2)]) (.ab 0))]),(.bI (.ak 3842592454757) (.aF (.ao .Lt (.aa 2011512) (.ab 2)) (.af [(.ae 215724399),(.ab 0),(.ag (.ae 8642) (.aa 2011512))]) (.af [(.ae 1832291),(.ab 0),(.ae 46),(.af [(.ae 215724399),(.ab 0),(.ae 66)]),(.af [(.ae 215724399),(.ab 0),(.ae 67)])]))),(.aF (.ao .Eq (.aa 215577976) (.ab 1)) [(.aB (.af [(.ab 0),(.ao .Eq (.fn 583 [(.aa 213496679),(.ab 2)]) (.ab 1)),(.af [(.ae 121),(.ae 122)]),(.ae 0),(.aa 3842592454757)]))] []),(.aB (.af [(.ab 0),(.aJ bn),(.af [(.fn 590 [(.aa 213496679)])]),(.ae 0),(.aa 3842592454757)]))]
noncomputable def Vz:W MS:=[(.bI (.ak 2011512) (.aF (.ao .Gt (.aa 238662501) (.ab 0)) (.fn 583 [(.aa 213496679),(.ab 9)]) (.fn 583 [(.aa 213496679),(.ab 4)]))),(.aF (.cE .And [(.ao .Eq (.aa 2011512) (.ab 2)),(.ao .NotEq (.aa 27619242612) (.cK []))]) [(.aB (.af [(.ae 215724399),(.ab 0),(.ag (.aa 27619242612) (.fn 583 [(.aa 213496679),(.bi 1831789 [(.aa 27619242612)])]))]))] []),(.aF (.ao .Eq (.aa 2011512) (.ab 3)) [(.aB (.af [(.ae 1832291),(.ab 0),(.ae 47),(.aF (.ao .Gt (.aa 238662501) (.ab 0)) (.fn 604 [(.aa 213496679),(.aa 27619242612),(.ab 0)]) (.af [(.ae 215724399),(.ab 0),(.ag (.bj .Add (.cK [(.ae 66)]) (.aa 27619242612)) (.kz (.ab 1)))])),(.af [(.ae 215724399),(.ab 0),(.ae 103)])]))] []),(.aF (.ao .Eq (.aa 2011512) (.ab 4)) [(.aB (.af [(.ae 1832291),(.ab 0),(.ag (.ae 758700) (.fn 583 [(.aa 213496679),(.ab 3)])),(.fn 604 [(.aa 213496679),(.aa 27619242612),(.bj .Sub (.aa 238662501) (.ab 1))]),(.fn 604 [(.aa 213496679),(.aa 27619242612),(.ab 0)])]))] []),(.aF (.cE .And [(.ao .Eq (.aa 2011512) (.ab 5)),(.ao .Gt (.ag (.aa 213496679) (.ae 31368900964)) (.ab 0))]) [(.bI (.ak 1685488) (.fn 604 [(.aa 213496679),(.aa 27619242612),(.ab 0)])),(.aB (.aF (.ao .Eq (.fn 583 [(.aa 213496679),(.ab 2)]) (.ab 0)) (.af [(.ae 1996899),(.ab 0),(.af [(.ae 215724399),(.ab 0),(.ae 104)]),(.af [(.aa 1685488)])]) (.af [(.ae 1832291),(.ab 0),(.ae 47),(.aa 1685488),(.af [(.ae 215724399),(.ab 0),(.ae 104)])])))] []),(.aF (.ao .Eq (.aa 2011512) (.ab 6)) [(.bI (.ak 230241125) (.fn 597 [(.aa 213496679),(.ab 0)])),(.aB (.af [(.ae 31108872292),(.ab 0),(.af [(.aa 230241125)]),(.fn 618 [(.aa 213496679),(.bj .Add (.aa 27619242612) (.bi 247281005 [(.ag (.aa 230241125) (.ab 2))])),(.ab 0)])]))] []),(.aF (.ao .Eq (.aa 2011512) (.ab 7)) [(.gh [215839085,27346712675] [(.fn 590 [(.aa 213496679)]),(.fn 604 [(.aa 213496679),(.aa 27619242612),(.ab 0)])]),(.aB (.af [(.ae 1930093),(.ab 0),(.aa 215839085),(.aa 27346712675),(.fn 604 [(.aa 213496679),(.bj .Add (.aa 27619242612) (.cK [(.aa 215839085)])),(.bj .Sub (.aa 238662501) (.ab 1))])]))] []),(.aF (.ao .Eq (.aa 2011512) (.ab 8)) [(.aB (.af [(.ae 13290),(.ab 0),(.fn 618 [(.aa 213496679),(.aa 27619242612),(.ab 0)]),(.fn 604 [(.aa 213496679),(.aa 27619242612),(.ab 0)]),(.fn 604 [(.aa 213496679),(.aa 27619242612),(.bj .Sub (.aa 238662501) (.ab 1))])]))] []),(.aB (.af [(.ae 215724399),(.ab 0),(.aF (.ao .Eq (.aa 2011512) (.ab 1)) (.ae 67) (.ae 66))]))]
noncomputable def T9:W MS:=[(.bI (.ak 2011512) (.fn 583 [(.aa 213496679),(.ab 4)])),(.aF (.cE .And [(.ao .Eq (.aa 2011512) (.ab 2)),(.ao .Gt (.aa 238662501) (.ab 0))]) [(.aB (.af [(.ae 1996899),(.ab 0),(.af [(.ae 215724399),(.ab 0),(.ae 245217009)]),(.af [(.fn 611 [(.aa 213496679),(.aa 27619242612),(.ab 0)]),(.fn 611 [(.aa 213496679),(.aa 27619242612),(.ab 0)])])]))] []),(.aF (.cE .And [(.ao .Eq (.aa 2011512) (.ab 3)),(.ao .Gt (.aa 238662501) (.ab 0))]) [(.bI (.ak 230241125) (.fn 597 [(.aa 213496679),(.ab 0)])),(.aB (.af [(.ae 31641353074),(.ab 0),(.ae 1817460),(.af [(.aa 230241125)]),(.fn 611 [(.aa 213496679),(.bj .Add (.aa 27619242612) (.bi 247281005 [(.ag (.aa 230241125) (.ab 2))])),(.ab 0)])]))] []),(.aB (.aF (.ao .Eq (.aa 2011512) (.ab 0)) (.af [(.ae 1817455),(.ab 0),(.fn 583 [(.aa 213496679),(.ab 3)])]) (.af [(.ae 14326),(.ab 0),(.ae 36),(.fn 604 [(.aa 213496679),(.aa 27619242612),(.ab 0)])])))]
noncomputable def Uo:W MS:=[(.bI (.ak 2011512) (.aF (.ao .Gt (.aa 238662501) (.ab 0)) (.fn 583 [(.aa 213496679),(.ab 10)]) (.fn 583 [(.aa 213496679),(.ab 3)]))),(.aF (.ao .Eq (.aa 2011512) (.ab 3)) [(.aB (.af [(.ae 14326),(.ab 0),(.ae 34),(.fn 618 [(.aa 213496679),(.aa 27619242612),(.bj .Sub (.aa 238662501) (.ab 1))])]))] []),(.aF (.ao .Eq (.aa 2011512) (.ab 4)) [(.bI (.ak 234501492) (.ag (.cK [(.ae 5031),(.ae 16125),(.ae 8126),(.ae 1040189)]) (.fn 583 [(.aa 213496679),(.ab 4)]))),(.aB (.af [(.ae 1832291),(.ab 0),(.aa 234501492),(.fn 618 [(.aa 213496679),(.aa 27619242612),(.ab 0)]),(.fn 618 [(.aa 213496679),(.aa 27619242612),(.bj .Sub (.aa 238662501) (.ab 1))])]))] []),(.aF (.cE .Or [(.ao .Eq (.aa 2011512) (.ab 5)),(.ao .Eq (.aa 2011512) (.ab 6))]) [(.gh [230241125,213644652] [(.fn 597 [(.aa 213496679),(.aa 238662501)]),(.ag (.cK [(.ae 1799906),(.ae 215726196),(.ae 14447),(.ae 215742573),(.ae 1685488)]) (.fn 583 [(.aa 213496679),(.ab 5)]))]),(.aB (.af [(.ae 31641353074),(.ab 0),(.aa 213644652),(.af [(.aa 230241125)]),(.fn 618 [(.aa 213496679),(.bj .Add (.aa 27619242612) (.bi 247281005 [(.ag (.aa 230241125) (.ab 2))])),(.bj .Sub (.aa 238662501) (.ab 1))])]))] []),(.aF (.cE .And [(.ao .Eq (.aa 2011512) (.ab 7)),(.ao .Gt (.ag (.aa 213496679) (.ae 31368900964)) (.ab 1))]) [(.aB (.af [(.ae 1996899),(.ab 0),(.af [(.ae 215724399),(.ab 0),(.ae 113)]),(.af [(.fn 604 [(.aa 213496679),(.aa 27619242612),(.ab 0)])])]))] []),(.aF (.ao .Eq (.aa 2011512) (.ab 8)) [(.gh [215839085,27346712675] [(.fn 590 [(.aa 213496679)]),(.fn 604 [(.aa 213496679),(.aa 27619242612),(.bj .Sub (.aa 238662501) (.ab 1))])]),(.aB (.af [(.ae 1930093),(.ab 0),(.aa 215839085),(.aa 27346712675),(.fn 618 [(.aa 213496679),(.bj .Add (.aa 27619242612) (.cK [(.aa 215839085)])),(.bj .Sub (.aa 238662501) (.ab 1))])]))] []),(.aF (.ao .Eq (.aa 2011512) (.ab 9)) [(.aB (.af [(.ae 1832291),(.ab 0),(.ag (.cK [(.ae 61),(.ae 7997),(.ae 62)]) (.fn 583 [(.aa 213496679),(.ab 3)])),(.fn 611 [(.aa 213496679),(.aa 27619242612),(.ab 1)]),(.fn 611 [(.aa 213496679),(.aa 27619242612),(.ab 0)])]))] []),(.aF (.ao .Eq (.aa 2011512) (.ab 2)) [(.aB (.af [(.ae 14326),(.ab 0),(.ag (.cK [(.ae 215726196),(.ae 14447),(.ae 215742573),(.ae 1685488)]) (.fn 583 [(.aa 213496679),(.ab 4)])),(.fn 604 [(.aa 213496679),(.aa 27619242612),(.aa 238662501)])]))] []),(.aB (.af [(.ae 1832291),(.ab 0),(.aF (.ao .Eq (.aa 2011512) (.ab 1)) (.ae 62) (.ae 14314)),(.fn 604 [(.aa 213496679),(.aa 27619242612),(.ab 0)]),(.fn 604 [(.aa 213496679),(.aa 27619242612),(.ab 0)])]))]
noncomputable def T':W MS:=[(.aB (.uM (.kX [31085722352] (.bj .Add (.iS (.aa 1980531) .bG (.kz (.ab 1))) (.iS (.aa 215839085) (.ab 1) .bG)) (.ak 1980531) .bK [(.aa 1685488)] [] (.ak 215839085) .bK [(.aa 31085722352)] [(.ao .Eq (.ag (.aa 1980531) (.kz (.ab 1))) (.ag (.aa 215839085) (.ab 0)))])))]
noncomputable def Up:W MS:=[(.aF (.ao .Eq (.aa 234501492) (.ae 44)) [(.aB (.uM (.bj .Add (.aa 1685488) (.aa 31085722352))))] []),(.aB (.dM [31085722352,234501492] (.aa 1980531) (.ak 1980531) .bK [(.aa 1685488)] [(.ao .Eq (.ao .In (.aa 1980531) (.aa 31085722352)) (.ao .Eq (.aa 234501492) (.ae 39)))]))]
noncomputable def UX:W MS:=[(.aB (.ag (.cD [(.ae 1799906),(.ao .Eq (.aa 257683822) (.aa 27610854648)),(.ae 215726196),(.ao .Gt (.aa 257683822) (.ab 0)),(.ae 14447),(.ao .Eq (.aa 257683822) (.ab 0)),(.ae 215742573),(.ao .Lt (.aa 257683822) (.ab 2)),(.ae 1685488),(.ao .Eq (.aa 257683822) (.ab 1))]) (.aa 213644652)))]
noncomputable def UY:W MS:=[(.gh [27346712679,3842592454757] [(.cK [(.aa 1964006)]),(.fn 657 [(.ag (.aa 230241125) (.ab 4)),(.aa 1964006),(.aa 29475043438)])]),(.d9 (.ak 215724399) .bK [(.ag (.aa 230241125) (.ab 2))] [(.bI (.ak 27346712679) (.kX [3842592454757,215724399] (.bi 247018853 [(.bj .Add (.uT (.aa 1685488)) (.cK [(.af [(.aa 215724399),(.cK [(.aa 1980531)])])]))]) (.ak 1685488) .bK [(.aa 27346712679)] [] (.ak 1980531) .bK [(.aa 3842592454757)] []))]),(.aB (.dM [230241125] (.aa 1685488) (.ak 1685488) .bK [(.aa 27346712679)] [(.cE .Or [(.d3 (.ag (.aa 230241125) (.ab 1))),(.ao .NotEq (.ag (.aa 1685488) (.ae 121)) (.ag (.aa 1685488) (.ae 122)))])]))]
noncomputable def T_:W MS:=[(.bI (.bS [29735317873,257521763]) (.ag (.aa 29475043438) (.aa 215724399))),(.aB (.fn 657 [(.aa 257521763),(.cD [(.aa 29735317873),(.fn 657 [(.aa 215578735),(.aa 1964006),(.aa 29475043438)])]),(.aa 29475043438)]))]
noncomputable def VA:W MS:=[(.bI (.ak 234501492) (.ag (.aa 215578735) (.ab 2))),(.aF (.cE .And [(.ao .Eq (.aa 234501492) (.ae 47)),(.ao .Eq (.ag (.aa 215578735) (.ab 4)) (.af [(.ae 215724399),(.ab 0),(.ae 104)]))]) [(.aB (.fn 647 [(.ae 104),(.ag (.aa 215578735) (.ab 3)),(.aa 1964006),(.aa 29475043438)]))] []),(.gh [1685488,31085722352] [(.fn 657 [(.ag (.aa 215578735) (.ab 3)),(.aa 1964006),(.aa 29475043438)]),(.fn 657 [(.ag (.aa 215578735) (.ab 4)),(.aa 1964006),(.aa 29475043438)])]),(.aF (.ao .Eq (.aa 234501492) (.ae 47)) [(.aB (.fn 623 [(.aa 1685488),(.aa 31085722352)]))] []),(.aF (.ao .In (.aa 234501492) (.af [(.ae 44),(.ae 39),(.ae 46)])) [(.aB (.fn 628 [(.aa 234501492),(.aa 1685488),(.aa 31085722352)]))] []),(.aF (.ao .Eq (.aa 234501492) (.ae 14314)) [(.aB (.ao .Eq (.dM [31085722352] (.aa 1980531) (.ak 1980531) .bK [(.aa 1685488)] [(.ao .NotIn (.aa 1980531) (.aa 31085722352))]) (.cK [])))] []),(.aF (.cE .Or [(.ao .Eq (.aa 234501492) (.ae 61)),(.ao .Eq (.aa 234501492) (.ae 7997))]) [(.aB (.cE .Or [(.ao .Lt (.aa 1685488) (.aa 31085722352)),(.cE .And [(.ao .Eq (.aa 234501492) (.ae 7997)),(.ao .Eq (.aa 1685488) (.aa 31085722352))])]))] []),(.aF (.cE .Or [(.ao .Eq (.aa 234501492) (.ae 5031)),(.ao .Eq (.aa 234501492) (.ae 16125))]) [(.aB (.aF (.ao .Eq (.aa 234501492) (.ae 5031)) (.cE .And [(.aa 1685488),(.aa 31085722352)]) (.cE .Or [(.aa 1685488),(.aa 31085722352)])))] []),(.aB (.aF (.cE .And [(.ao .Eq (.aa 234501492) (.ae 8126)),(.aa 1685488)]) (.aa 31085722352) (.aF (.ao .Eq (.aa 234501492) (.ae 8126)) (.aJ M) (.ao .Eq (.aa 1685488) (.aa 31085722352)))))]
noncomputable def UZ:W MS:=[(.bI (.ak 213644652) (.ag (.aa 215578735) (.ab 0))),(.aF (.ao .Eq (.aa 213644652) (.ae 215724399)) [(.aB (.aF (.ao .In (.ag (.aa 215578735) (.ab 2)) (.aa 1964006)) (.ag (.aa 1964006) (.ag (.aa 215578735) (.ab 2))) (.ag (.aa 29475043438) (.ag (.aa 215578735) (.ab 2)))))] []),(.aF (.ao .Eq (.aa 213644652) (.ae 1817455)) [(.aB (.ag (.aa 215578735) (.ab 2)))] []),(.aF (.ao .Eq (.aa 213644652) (.ae 1832291)) [(.aB (.fn 652 [(.aa 215578735),(.aa 1964006),(.aa 29475043438)]))] []),(.aF (.ao .Eq (.aa 213644652) (.ae 14326)) [(.bI (.ak 1685488) (.fn 657 [(.ag (.aa 215578735) (.ab 3)),(.aa 1964006),(.aa 29475043438)])),(.aB (.aF (.ao .Eq (.ag (.aa 215578735) (.ab 2)) (.ae 34)) (.d3 (.aa 1685488)) (.aF (.ao .Eq (.ag (.aa 215578735) (.ab 2)) (.ae 36)) (.bi 1831789 [(.aa 1685488)]) (.fn 635 [(.ag (.aa 215578735) (.ab 2)),(.bi 1831789 [(.aa 1685488)]),(.kz (.ab 1))]))))] []),(.aF (.ao .Eq (.aa 213644652) (.ae 13290)) [(.aB (.fn 657 [(.aF (.fn 657 [(.ag (.aa 215578735) (.ab 2)),(.aa 1964006),(.aa 29475043438)]) (.ag (.aa 215578735) (.ab 3)) (.ag (.aa 215578735) (.ab 4))),(.aa 1964006),(.aa 29475043438)]))] []),(.aF (.ao .Eq (.aa 213644652) (.ae 1930093)) [(.aB (.fn 657 [(.ag (.aa 215578735) (.ab 4)),(.bi 247018853 [(.bj .Add (.uT (.aa 1964006)) (.cK [(.af [(.ag (.aa 215578735) (.ab 2)),(.fn 657 [(.ag (.aa 215578735) (.ab 3)),(.aa 1964006),(.aa 29475043438)])])]))]),(.aa 29475043438)]))] []),(.aF (.ao .Eq (.aa 213644652) (.ae 31108872292)) [(.bI (.ak 230241125) (.ag (.ag (.aa 215578735) (.ab 2)) (.ab 0))),(.aB (.bi 3497961257076 [(.dM [230241125,29475043438,215578735] (.ag (.ag (.aa 1685488) (.ag (.ag (.aa 230241125) (.ab 2)) (.ab 0))) (.ab 0)) (.ak 1685488) .bK [(.fn 640 [(.aa 230241125),(.aa 1964006),(.aa 29475043438)])] [(.fn 657 [(.ag (.aa 215578735) (.ab 3)),(.aa 1685488),(.aa 29475043438)])])]))] []),(.aF (.ao .Eq (.aa 213644652) (.ae 1996899)) [(.aF (.ao .Eq (.ag (.ag (.aa 215578735) (.ab 2)) (.ab 2)) (.ae 245217009)) [(.aB (.bj .Add (.fn 657 [(.ag (.ag (.aa 215578735) (.ab 3)) (.ab 0)),(.aa 1964006),(.aa 29475043438)]) (.fn 657 [(.ag (.ag (.aa 215578735) (.ab 3)) (.ab 1)),(.aa 1964006),(.aa 29475043438)])))] []),(.aB (.fn 647 [(.ag (.ag (.aa 215578735) (.ab 2)) (.ab 2)),(.ag (.ag (.aa 215578735) (.ab 3)) (.ab 0)),(.aa 1964006),(.aa 29475043438)]))] []),(.bI (.ak 213612661) (.dM [29475043438,215578735] (.fn 657 [(.ag (.aa 215578735) (.ab 4)),(.aa 1685488),(.aa 29475043438)]) (.ak 1685488) .bK [(.fn 640 [(.ag (.ag (.aa 215578735) (.ab 3)) (.ab 0)),(.aa 1964006),(.aa 29475043438)])] [])),(.aB (.aF (.ao .Eq (.ag (.aa 215578735) (.ab 2)) (.ae 1817460)) (.bi 1817460 [(.aa 213612661)]) (.fn 635 [(.ag (.aa 215578735) (.ab 2)),(.au (.aa 213612661) 31641679972 [(.aJ M)]),(.bi 1831789 [(.aa 213612661)])])))]
noncomputable def TN:W MS:=[(.bI (.ak 27346712679) (.cK [(.af [(.af []),(.aa 1964006)])])),(.d9 (.bS [215724399,243039462]) .bK [(.aa 31368754021)] [(.bI (.ak 27346712679) (.kX [243039462,215724399,27342469240] (.af [(.bj .Add (.aa 1980531) (.aa 215839085)),(.bi 247018853 [(.bj .Add (.uT (.aa 1685488)) (.cK [(.af [(.aa 215724399),(.aa 215839085)])]))])]) (.bS [1980531,1685488]) .bK [(.aa 27346712679)] [] (.ak 215839085) .bK [(.fn 667 [(.aa 243039462),(.aa 1685488),(.aa 27342469240)])] []))]),(.aB (.aa 27346712679))]
noncomputable def U0:W MS:=[(.bI (.ak 213644652) (.ag (.aa 243039462) (.ab 0))),(.aF (.ao .Eq (.aa 213644652) (.ae 1799027)) [(.aB (.ag (.aa 27342469240) (.ag (.aa 243039462) (.ab 1))))] []),(.aF (.ao .Eq (.aa 213644652) (.ae 1896823)) [(.aB (.cK [(.ag (.aa 1964006) (.ag (.aa 243039462) (.ab 1)))]))] []),(.aF (.ao .Eq (.aa 213644652) (.ae 238794852)) [(.aB (.uM (.dM [243039462,27342469240] (.aa 1980531) (.bS [1980531,1685488]) .bK [(.fn 662 [(.ag (.aa 243039462) (.ab 1)),(.aa 1964006),(.aa 27342469240)])] [(.fn 677 [(.ag (.aa 243039462) (.ab 2)),(.aa 1685488),(.aa 27342469240)])])))] []),(.aF (.ao .Eq (.aa 213644652) (.ae 3978972460390)) [(.aB (.fn 667 [(.aF (.fn 677 [(.ag (.aa 243039462) (.ab 1)),(.aa 1964006),(.aa 27342469240)]) (.ag (.aa 243039462) (.ab 2)) (.ag (.aa 243039462) (.ab 3))),(.aa 1964006),(.aa 27342469240)]))] []),(.gh [1685488,31085722352] [(.fn 667 [(.ag (.aa 243039462) (.ab 1)),(.aa 1964006),(.aa 27342469240)]),(.fn 667 [(.ag (.aa 243039462) (.ab 2)),(.aa 1964006),(.aa 27342469240)])]),(.aB (.aF (.ao .Eq (.aa 213644652) (.ae 234535019)) (.fn 623 [(.aa 1685488),(.aa 31085722352)]) (.fn 628 [(.ag (.cD [(.ae 30032967670),(.ae 44),(.ae 247051118),(.ae 39),(.ae 31387809134),(.ae 46)]) (.aa 213644652)),(.aa 1685488),(.aa 31085722352)])))]
noncomputable def Uq:W MS:=[(.aF (.ao .Eq (.ag (.aa 106) (.ab 0)) (.ae 1817455)) [(.aB (.ag (.aa 106) (.ab 1)))] []),(.aF (.ao .Eq (.ag (.aa 106) (.ab 0)) (.ae 31641679972)) [(.aB (.bi 1831789 [(.fn 667 [(.ag (.aa 106) (.ab 1)),(.aa 1964006),(.aa 27342469240)])]))] []),(.aF (.ao .Eq (.ag (.aa 106) (.ab 0)) (.ae 1817460)) [(.aB (.bi 1817460 [(.dM [106,27342469240] (.fn 672 [(.ag (.aa 106) (.ab 2)),(.aa 1685488),(.aa 27342469240)]) (.bS [1980531,1685488]) .bK [(.fn 662 [(.ag (.aa 106) (.ab 1)),(.aa 1964006),(.aa 27342469240)])] [])]))] []),(.aB (.bj .Add (.fn 672 [(.ag (.aa 106) (.ab 1)),(.aa 1964006),(.aa 27342469240)]) (.fn 672 [(.ag (.aa 106) (.ab 2)),(.aa 1964006),(.aa 27342469240)])))]
noncomputable def Ur:W MS:=[(.bI (.ak 213644652) (.ag (.aa 103) (.ab 0))),(.aF (.ao .In (.aa 213644652) (.af [(.ae 1799906),(.ae 4017381620966)])) [(.bI (.ak 213612661) (.dM [103,27342469240] (.fn 677 [(.ag (.aa 103) (.ab 2)),(.aa 1685488),(.aa 27342469240)]) (.bS [1980531,1685488]) .bK [(.fn 662 [(.ag (.aa 103) (.ab 1)),(.aa 1964006),(.aa 27342469240)])] [])),(.aB (.fn 635 [(.aF (.ao .Eq (.aa 213644652) (.ae 1799906)) (.ae 1799906) (.ae 215726196)),(.au (.aa 213612661) 31641679972 [(.aJ M)]),(.bi 1831789 [(.aa 213612661)])]))] []),(.aF (.ao .In (.aa 213644652) (.af [(.ae 1669090),(.ae 14832)])) [(.bI (.ak 213612661) (.dM [1964006,27342469240] (.fn 677 [(.aa 247263601),(.aa 1964006),(.aa 27342469240)]) (.ak 247263601) .bK [(.ag (.aa 103) (.ab 1))] [])),(.aB (.aF (.ao .Eq (.aa 213644652) (.ae 1669090)) (.ao .NotIn (.aJ bn) (.aa 213612661)) (.ao .In (.aJ M) (.aa 213612661))))] []),(.aF (.ao .In (.aa 213644652) (.af [(.ae 215726196),(.ae 14447),(.ae 215742573),(.ae 1685488)])) [(.aB (.fn 635 [(.aa 213644652),(.bi 1831789 [(.fn 667 [(.ag (.aa 103) (.ab 1)),(.aa 1964006),(.aa 27342469240)])]),(.kz (.ab 1))]))] []),(.aF (.ao .In (.aa 213644652) (.af [(.ae 14314),(.ae 215724404)])) [(.gh [1685488,31085722352] [(.fn 667 [(.ag (.aa 103) (.ab 1)),(.aa 1964006),(.aa 27342469240)]),(.fn 667 [(.ag (.aa 103) (.ab 2)),(.aa 1964006),(.aa 27342469240)])]),(.aB (.aF (.ao .Eq (.aa 213644652) (.ae 215724404)) (.ao .Eq (.aa 1685488) (.aa 31085722352)) (.ao .Eq (.dM [31085722352] (.aa 1980531) (.ak 1980531) .bK [(.aa 1685488)] [(.ao .NotIn (.aa 1980531) (.aa 31085722352))]) (.cK []))))] []),(.aF (.ao .In (.aa 213644652) (.af [(.ae 13165),(.ae 15085),(.ae 14694)])) [(.bI (.ak 245183341) (.bj .Sub (.fn 672 [(.ag (.aa 103) (.ab 2)),(.aa 1964006),(.aa 27342469240)]) (.fn 672 [(.ag (.aa 103) (.ab 1)),(.aa 1964006),(.aa 27342469240)]))),(.aB (.aF (.ao .Eq (.aa 213644652) (.ae 14694)) (.ao .Eq (.aa 245183341) (.ab 0)) (.ao .Gt (.aa 245183341) (.aF (.ao .Eq (.aa 213644652) (.ae 13165)) (.kz (.ab 1)) (.ab 0)))))] []),(.aF (.ao .In (.aa 213644652) (.af [(.ae 215857653),(.ae 27625484647)])) [(.aB (.ao .Eq (.aa 213644652) (.ae 215857653)))] []),(.aF (.ao .Eq (.aa 213644652) (.ae 1931375)) [(.aB (.d3 (.fn 677 [(.ag (.aa 103) (.ab 1)),(.aa 1964006),(.aa 27342469240)])))] []),(.gh [1685488,31085722352] [(.fn 677 [(.ag (.aa 103) (.ab 1)),(.aa 1964006),(.aa 27342469240)]),(.fn 677 [(.ag (.aa 103) (.ab 2)),(.aa 1964006),(.aa 27342469240)])]),(.aB (.aF (.ao .Eq (.aa 213644652) (.ae 1700842)) (.ao .Eq (.aa 1685488) (.aa 31085722352)) (.cE .Or [(.aa 31085722352),(.d3 (.aa 1685488))])))]
noncomputable def mE:W MS:=[(.bI (.ak 257683822) (.aF (.ao .Eq (.fn 583 [(.aa 213496679),(.ab 3)]) (.ab 0)) (.ab 3) (.ab 2))),(.bI (.ak 1685488) (.dM [213496679] (.af [(.aa 98)]) (.ak 98) .hY [(.aa 257683822)] [(.ao .Gt (.fn 583 [(.aa 213496679),(.ab 4)]) (.ab 0))])),(.bI (.ak 31085722352) (.dM [213496679] (.aa 1980531) (.ak 1980531) .bK [(.aa 1685488)] [(.ao .Eq (.fn 583 [(.aa 213496679),(.ab 2)]) (.ab 1))])),(.aB (.cK [(.aa 1685488),(.aa 31085722352),(.kX [213496679,1685488] (.bj .Add (.aa 1980531) (.aa 215839085)) (.ak 1980531) .bK [(.aa 1685488)] [] (.ak 215839085) .bK [(.aa 1685488)] [(.ao .Eq (.fn 583 [(.aa 213496679),(.ab 2)]) (.ab 1))])]))]
noncomputable def dU:W MS:=[(.bI (.ak 213496679) (.cD [(.ae 31368901476),(.iS (.aa 4050646790772) .bG (.ab 60)),(.ae 31641679972),(.ab 0),(.ae 27346450147),(.bi 1817460 [(.dM [] (.bj .Mod (.bi 1913314 [(.aa 230388580)]) (.ab 89)) (.ak 230388580) .bK [(.iS (.aa 4050646790772) .bG (.ab 60))] [])]),(.ae 31368900964),(.ab 0)])),(.bI (.ak 29735317873) (.fn 590 [(.aa 213496679)])),(.gh [4219236577393,4219236577384] [.bG,.bG]),(.d9 (.ak 29475337069) .bK [(.af [(.ab 1),(.ab 0)])] [(.mP (.aa 213496679) (.ae 31368900964) (.aa 29475337069)),(.aF (.ao .Eq (.aa 29475337069) (.ab 1)) [(.bI (.ak 4219236577393) (.fn 618 [(.aa 213496679),(.cK [(.aa 29735317873)]),(.ab 1)]))] [(.bI (.ak 4219236577384) (.fn 604 [(.aa 213496679),(.cK [(.ae 122)]),(.ab 1)]))])]),(.mP (.aa 213496679) (.ae 31368900964) (.ab 2)),(.bI (.ak 215578735) (.fn 618 [(.aa 213496679),(.cK []),(.ab 2)])),(.gh [1834096,27346712675] [(.af [(.ab 0),(.aJ bn),(.af [(.ae 103)]),(.ae 1930100),(.af [(.ae 215724399),(.ab 0),(.ae 66)])]),(.af [(.ae 215724399),(.ab 0),(.ae 66)])]),(.bI (.ak 31370885866) (.cK [(.af [(.ae 1717620),(.ab 0),(.af [(.ae 66)]),(.aJ bn),(.ae 0),(.ae 0),(.af []),(.af [(.aa 1834096)]),(.af [])]),(.af [(.ae 1717620),(.ab 0),(.af [(.ae 67)]),(.aJ bn),(.ae 0),(.ae 66),(.af []),(.af []),(.af [])])])),(.gq 31370885866 3500345686242 (.af [(.ae 213498353),(.ab 0),(.ae 113),(.af [(.af [(.ab 0),(.aJ bn),(.af [(.aa 29735317873)]),(.ae 0),(.aa 27346712675)])]),(.af [(.aa 4219236577393)])])),(.gq 31370885866 3500345686242 (.af [(.ae 1833831),(.ab 0),(.ae 104),(.af [(.af [(.ab 0),(.aJ bn),(.af [(.ae 122)]),(.ae 0),(.aa 27346712675)])]),(.ae 1930100),(.aa 27346712675),(.aa 4219236577384)])),(.bI (.ak 3978984798448) (.bi 3978984798416 [(.bi 1077326293127784969556 [(.aa 31370885866)]),.bG,(.aa 31370885866),(.cD [(.ae 66),(.ab 0),(.ae 67),(.ab 1),(.ae 1693634),(.ab 2)])])),(.bI (.ak 213612661) (.au (.aa 3978984798448) 28433037813 [(.aa 215578735),(.cD [])])),(.gh [27327674978,3497938121573] [(.au (.aa 3978984798448) 230209640 [(.af [(.ae 1833843),(.ab 0),(.ae 113),.bG])]),(.au (.aa 3978984798448) 230209640 [(.af [(.ae 29202429156),(.ab 0),(.ae 0),(.af [(.aa 215578735)])])])]),(.d9 (.ak 1864045) .hY [(.ab 3)] [(.bI (.ak 27342469240) (.fn 682 [(.aa 213496679)])),(.bI (.ak 29475043438) (.cD [(.ae 66),(.ag (.aa 27342469240) (.ab 0)),(.ae 67),(.ag (.aa 27342469240) (.ab 1)),(.ae 103),(.ag (.aa 27342469240) (.ab 2)),(.ae 113),(.af [(.aa 29735317873),(.aa 4219236577393)]),(.ae 104),(.af [(.ae 122),(.aa 4219236577384)])])),(.bI (.ak 1686373) (.fn 657 [(.aa 215578735),(.cD []),(.aa 29475043438)])),(.aF (.cE .Or [(.ao .NotEq (.fn 677 [(.aa 213612661),(.cD []),(.aa 27342469240)]) (.aa 1686373)),(.ao .Eq (.fn 677 [(.aa 3497938121573),(.cD []),(.aa 27342469240)]) (.aa 1686373))]) [(.aB (.aJ bn))] []),(.aF (.ao .NotEq (.fn 677 [(.aa 27327674978),(.cD []),(.aa 27342469240)]) (.ao .In (.aJ M) (.dM [29475043438,4219236577393,29735317873] (.fn 657 [(.aa 4219236577393),(.cD [(.aa 29735317873),(.cK [(.aa 1980531)])]),(.aa 29475043438)]) (.ak 1980531) .bK [(.ag (.aa 27342469240) (.ab 0))] []))) [(.aB (.aJ bn))] [])]),(.aB (.aJ M))]
set_option genInjectivity false in
inductive PS where
 |aA (c:X)
 |jz (c k:X)
 deriving YJ
set_option genInjectivity false in
set_option genCtorIdx false in
inductive PV where
 |bG
 |aJ (b:an)
 |ab (i:al)
 |ae (p:PS)
 |af (l:W PV)
 |aj (l:W PV)
 |a8 (l:W (PS×PV))
 |ah (k:X)
set_option genInjectivity false in
inductive cQ where
 |aX (v:PV)
 |ax (v:PV)
theorem PS.aA.inj{a b:X}(h:PS.aA a=.aA b):a=b:=by injection h
theorem PV.aj.inj{a b:W PV}(h:PV.aj a=.aj b):a=b:=by injection h
theorem cQ.aX.inj{a b:PV}(h:cQ.aX a=.aX b):a=b:=by injection h
theorem cQ.ax.inj{a b:PV}(h:cQ.ax a=.ax b):a=b:=by injection h
@[reducible]noncomputable def av:=W (X×cQ)
@[reducible]noncomputable def ai:=W (W (X×al))
@[reducible]noncomputable def bA:=W (W (X×PV))
noncomputable def aK{A:Type}(l:W (X×A))(x:X)(v:A):W (X×A):=lr [(x,v)] (λp r B=>bif pi p.1 x then(p.1,v)::r else p::B) l
noncomputable def gk(l:W (PS×PV))(x:PS):im PV:=lr am (λp _ A=>bif ci (p.1=x)then O p.2 else A) l
noncomputable def fE(l:W (PS×PV))(x:PS)(v:PV):W (PS×PV):=lr [(x,v)] (λp r A=>bif ci (p.1=x)then(p.1,v)::r else p::A) l
noncomputable def aY{A:Type}(l:W A):X->im A:=lr (λ_=>am) (λa _ B n=>nr (O a) (λn _=>B n) n) l
noncomputable def kn{A:Type}(l:W A):X->A->W A:=lr (λ_ _=>[]) (λa r B n x=>nr (x::r) (λn _=>a::B n x) n) l
mutual
noncomputable def PV.dS:PV->an
 |.bG|.aJ _|.ab _|.ae _=>M
 |.af l=>dY l
 |.aj _|.a8 _|.ah _=>bn
noncomputable def dY:W PV->an
 |[]=>M
 |v::r=>bif v.dS then dY r else bn
end
noncomputable def eqA(a b:PV):im an:=match a,b with
 |.bG,.bG=>O M
 |.aJ a,.aJ b=>O (a==b)
 |.ab a,.ab b=>O (ci (a=b))
 |.ae a,.ae b=>O (ci (a=b))
 |_,_=>am
inductive ia where
 |ab (i:al)
 |ae (p:PS)
 deriving YJ
noncomputable def jF(l:W PV):im (W ia):=lr (O []) (λp _ A=>match p with|.ab i=>A.map (.ab i::·)|.ae p=>A.map (.ae p::·)|_=>am) l
@[reducible]noncomputable def o2{A B C:Type}(o:im A)(p:im B)(f:A->B->C):im C:=match o,p with
 |some u,O v=>O (f u v)
 |_,_=>am
@[reducible]noncomputable def gd{A:Type}(b:an)(x:im A):im A:=match b with
 |true=>x
 |false=>am
noncomputable def md(a b:PV):im an:=match a,b with
 |.af x,.af y=>o2 (jF x) (jF y) λu v=>ci (u=v)
 |a,b=>eqA a b
noncomputable def tv(l:W PV):W PV->im an:=lr (λm=>lr (O M) (λ_ _ _=>am) m) (λx _ A m=>lr am (λy m _=>o2 (md x y) (A m) λp q=>p&&q) m) l
noncomputable def tF(a b:PV):im an:=match a,b with
 |.aj x,.aj y=>match pi x.length y.length with
  |true=>tv x y
  |false=>O bn
 |.af (x::l),.af []=>gd (dY (x::l)) (O bn)
 |a,b=>md a b
noncomputable def mf(x:PV)(l:W PV):im an:=lr (O bn) (λy _ A=>o2 (md y x) A λp q=>p||q) l
noncomputable def lO(k:an)(l:W PV):im X:=lr (O 0) (λp _ A=>match p with|.aJ b=>A.map λn=>bif b==k then n+1 else n|_=>am) l
noncomputable def gm:PV->im (W PV)
 |.af l|.aj l=>O l
 |_=>am
noncomputable def tw(a b c:X):X:=aW (aZ a++aZ b++aZ c)
noncomputable def jh(n:X)(i:al):im X:=match i with
 |.ofNat k=>O k
 |.negSucc k=>gd (u8 (k+1) n) (O (n-(k+1)))
noncomputable def eN(v i:PV):im PV:=match v,i with
 |.af l,.ab i=>(jh l.length i).bind (aY l)
 |.aj l,.ab i=>(jh l.length i).bind (aY l)
 |.a8 l,.ae p=>gk l p
 |.ae (.aA c),.ab i=>match i with
  |.ofNat k=>gd (u8 k 100) (((aZ c).cps.toList[k]?).map λx=>.ae (.aA (x+1)))
  |.negSucc _=>am
 |_,_=>am
noncomputable def jK(n:X)(d:X):PV->im X
 |.bG=>O d
 |.ab i=>(jh n i).map λk=>Fa k n
 |_=>am
noncomputable def q_(v A B:PV):im PV:=match v with
 |.af l=>o2 (jK l.length 0 A) (jK l.length l.length B) λa b=>.af ((l.take b).drop a)
 |.aj l=>o2 (jK l.length 0 A) (jK l.length l.length B) λa b=>.aj ((l.take b).drop a)
 |_=>am
noncomputable def kY(i:al):an:=ci (-1000000000<i)&&ci (i<1000000000)
@[reducible]noncomputable def lY{A:Type}(a b:PV)(f:al->al->im A):im A:=match a,b with
 |.ab a,.ab b=>f a b
 |_,_=>am
noncomputable def CR(a b:PV):im PV:=match a,b with
 |.ab a,.ab b=>O (.ab (a+b))
 |.af a,.af b=>gd (u8 (a.length+b.length) 4096) (O (.af (a++b)))
 |.aj a,.aj b=>gd (u8 (a.length+b.length) 4096) (O (.aj (a++b)))
 |_,_=>am
noncomputable def ko(A:Bn)(a b:PV):im PV:=match A with
 |.Add=>CR a b
 |.Sub=>lY a b λa b=>O (.ab (a-b))
 |.Mult=>lY a b λa b=>gd (kY a&&kY b) (O (.ab (a*b)))
 |.Mod=>lY a b λa b=>gd (ci (0<b)) (O (.ab (ZB a b)))
 |_=>am
noncomputable def lS(l:W PV):an:=lr M (λp _ A=>match p with|.ae _=>A|_=>bn) l
noncomputable def inD(a:PV)(l:W (PS×PV)):im an:=match a with
 |.ae p=>O (gk l p).isSome
 |.af t=>gd (l.isEmpty&&lS t) (O bn)
 |_=>am
noncomputable def xr:PV->an
 |.bG=>M
 |_=>bn
noncomputable def xt(a b:PV):im an:=match b with
 |.af l=>mf a l
 |.aj l=>mf a l
 |.a8 l=>inD a l
 |_=>am
noncomputable def zu(a b:PV):an:=match b,a with
 |.a8 _,.af _=>bn
 |_,_=>M
noncomputable def p_(A:sA)(a b:PV):im an:=match A with
 |.Eq=>tF a b
 |.NotEq=>(tF a b).map (!·)
 |.Lt=>lY a b λa b=>O (ci (a<b))
 |.LtE=>lY a b λa b=>O (ci (a≤b))
 |.Gt=>lY a b λa b=>O (ci (b<a))
 |.GtE=>lY a b λa b=>O (ci (b≤a))
 |.Is=>gd (xr b) (O (xr a))
 |.IsNot=>gd (xr b) (O (!xr a))
 |.In=>xt a b
 |.NotIn=>gd (zu a b) ((xt a b).map (!·))
noncomputable def js(l:W PV):im (W al):=lr (O []) (λp _ A=>match p with|.ab i=>A.map (i::·)|_=>am) l
noncomputable def zv:PV->im (W al)
 |.af l=>js l
 |_=>am
noncomputable def j0(l:W PV):im (W (W al)):=lr (O []) (λv _ A=>o2 (zv v) A λa b=>a::b) l
noncomputable def dZ(r:W al):W al->an:=lr (λs=>lr bn (λ_ _ _=>M) s) (λa _ A s=>lr bn (λb s _=>bif ci (a<b)then M else bif ci (a=b)then A s else bn) s) r
noncomputable def zf(a:W al)(l:W (W al)):W (W al):=lr [a] (λb r A=>bif dZ a b then a::b::r else b::A) l
noncomputable def fb(l:W (W al)):W (W al):=lr [] (λa _ A=>zf a A) l
noncomputable def e_(l:W (W al)):W (W al)->W (W al):=lr (λq=>q) (λa _ A q=>bif ci (a∈q)then A q else A (q++[a])) l
noncomputable def dE(l:W (W al)):W PV:=l.map λr=>.af (r.map .ab)
noncomputable def Po(r:W al):an:=match r with
 |[a]=>ci (a=0)||decide (a=1)||decide (a=2)
 |[a,b]=>(ci (a=0)||decide (a=1)||decide (a=2))&&(ci (b=0)||decide (b=1)||decide (b=2))
 |_=>bn
noncomputable def Cb(l:W (W al)):an:=lr M (λa r A=>!ci (a∈r)&&A) l
noncomputable def ta(A:W (W al)):an:=A.all Po&&Cb A&&u8 A.length 60
noncomputable def yY(l:W (W al)):an:=lr M (λa r A=>lr M (λb _ _=>dZ a b&&A) r) l
noncomputable def pT(a:al):an:=ci (a=0)||decide (a=1)||decide (a=2)
noncomputable def i5(A:W (W al)):an:=u8 A.length 60&&(A.all (λr=>match r with|[a]=>pT a|_=>bn)||(A.all (λr=>match r with|[a,b]=>pT a&&pT b|_=>bn)&&yY A))
noncomputable def jG(l:W PV):W (PS×PV)->im (W (PS×PV)):=lr O (λp _ A d=>match p with|.af [.ae k,v]=>A (fE d k v)|_=>am) l
noncomputable def n_:W PV->W (PS×PV)->im (W (PS×PV))
 |[],d=>O d
 |.ae k::v::r,d=>n_ r (fE d k v)
 |_,_=>am
noncomputable def zH(l:W PV):W PV->W PV:=lr (λ_=>[]) (λa _ A m=>lr [] (λb s _=>.af [a,b]::A s) m) l
noncomputable def u0(i:al)(l:W PV):W PV:=lr (λ_=>[]) (λa _ A i=>.af [.ab i,a]::A (i+1)) l i
noncomputable def wM(n:X):al->W PV:=nr (λ_=>[]) (λ_ A i=>.ab i::A (i+1)) n
noncomputable def FX:W (X×PV):=[
 (12775795755889552639896399,(.af [.ae (.aA 1817455),.ae (.aA 31641679972),.ae (.aA 245217009),.ae (.aA 245183341),.ae (.aA 31354238325),.ae (.aA 1817460),.ae (.aA 3536068556004)])),
 (12785341654902571414039375,(.a8 [(.aA 245217009,.ae (.aA 245217009)),(.aA 31387809134,.ae (.aA 245183341)),(.aA 1801070,.ae (.aA 31354238325))])),
 (99810904342884477413845,(.af [.ae (.aA 215857653),.ae (.aA 27625484647),.ae (.aA 1931375),.ae (.aA 1669090),.ae (.aA 14832),.ae (.aA 513706773215082),.ae (.aA 1700842),.ae (.aA 14314),.ae (.aA 215724404),.ae (.aA 215726196),.ae (.aA 14447),.ae (.aA 1685488),.ae (.aA 215742573),.ae (.aA 1799906),.ae (.aA 4017381620966),.ae (.aA 13165),.ae (.aA 15085),.ae (.aA 14694)])),
 (99885481678926339205584,(.a8 [(.aA 31385875311,.ab 1),(.aA 31389759985,.ab 1),(.aA 15085,.ab 2),(.aA 1686253,.ab 2),(.aA 15080,.ab 2),(.aA 1686248,.ab 2)])),
 (99820990180640905325008,(.af [.ae (.aA 31652115815),.ae (.aA 247279981),.ae (.aA 247362415),.ae (.aA 251247089)])),
 (6097630170226975572,(.a8 [(.aA 44,.ae (.aA 30032967670)),(.aA 39,.ae (.aA 247051118)),(.aA 46,.ae (.aA 31387809134)),(.aA 47,.ae (.aA 234535019)),(.aA 5676,.ae (.aA 57868771191798768)),(.aA 7613,.ae (.aA 27319186658)),(.aA 8123,.ae (.aA 3500353942371))])),
 (2389779475285,(.af [.ae (.aA 127),.ae (.aA 95),.ae (.aA 43)]))]
noncomputable def Ob:W (X×X):=[(12775795755889552639896399,91),(12785341654902571414039375,92),(99810904342884477413845,93),(99885481678926339205584,94),(99820990180640905325008,95),(6097630170226975572,96),(2389779475285,97)]
noncomputable def oj(k:X):im (W (X×X)):=match k with
 |1=>O GC
 |2=>O En
 |_=>am
noncomputable def si(k:X):W X:=match k with
 |1=>[513706785863654,4013076036340,3497948461296,447738476591600,1077250787088636050544]
 |_=>[1077326293127784969588,31352157548,31370885866,514152355052399,31368900964,31641679972]
noncomputable def sS(k x:X):an:=(si k).any (pi x)
noncomputable def zI:PV->im X
 |.af l=>O l.length
 |.aj l=>O l.length
 |.a8 l=>O l.length
 |_=>am
noncomputable def CS:PV->im PV
 |.ab i=>O (.ab i.natAbs)
 |_=>am
noncomputable def CT:PV->im PV
 |.aj l=>(js l).map λA=>.ab A.sum
 |_=>am
noncomputable def Cv:PV->im PV
 |.aj l=>(j0 l).bind λA=>gd (ta A) (O (.aj (dE (fb A))))
 |_=>am
noncomputable def th:PV->im PV
 |.a8 l=>O (.a8 l)
 |.aj l=>(jG l []).map .a8
 |_=>am
noncomputable def H7(f:X)(v:PV):im PV:=match pi f Ct with
 |true=>(zI v).map λ(n:X)=>.ab (n:al)
 |false=>match pi f Cs with
  |true=>CS v
  |false=>match pi f B3 with
   |true=>(gm v).map .af
   |false=>match pi f q9 with
    |true=>(gm v).map .aj
    |false=>match pi f zt with
     |true=>CT v
     |false=>match pi f uH with
      |true=>Cv v
      |false=>gd (pi f q8) (th v)
noncomputable def oQ(f:X)(A:W PV):im PV:=match A with
 |[v]=>H7 f v
 |_=>am
noncomputable def yZ(f:X):an:=[Ct,Cs,B3,q9,zt,uH,q8].any (pi f)
noncomputable def pR(v:PV):im PV:=match v with
 |.aj l=>(j0 l).bind λA=>gd (i5 A) (O (.aj (dE (fb (e_ A [])))))
 |_=>am
noncomputable def wU(m:X)(v:PV)(A:W PV):im PV:=match v with
 |.aj l=>match pi m wF,A with
  |true,[.aJ k]=>match lO k l with
   |some n=>O (.ab (n5 n))
   |none=>am
  |_,_=>am
 |_=>am
noncomputable def zg(m:X):PV->an
 |.aj _=>pi m wF
 |_=>bn
noncomputable def eS(t:eK)(v:PV)(A:av):im av:=match t with
 |.ak x=>O (aK A x (.ax v))
 |.bS B=>match gm v with
  |some C=>qZ B C A
  |none=>am
where qZ:W X->W PV->av->im av
 |[],[],A=>O A
 |x::B,v::C,A=>qZ B C (aK A x (.ax v))
 |_,_,_=>am
noncomputable def dW:av->av
 |[]=>[]
 |(x,.aX v)::r=>(x,.ax v)::dW r
 |(x,.ax v)::r=>(x,.ax v)::dW r
noncomputable def om(B:W X)(l:av):av:=lr [] (λp _ A=>bif B.any (pi p.1)then p::A else A) l
noncomputable def lj(t:eK)(k:ky):an:=match k,t with
 |.qq,.ak _=>bn
 |.p9,.ak _=>bn
 |.hY,.bS _=>bn
 |_,_=>M
noncomputable def kR(l:av):an:=lr bn (λp _ A=>match p.2 with|.aX _=>M|.ax _=>A) l
set_option genInjectivity false in
inductive Fl where
 |bp
 |aB (v:PV)
@[reducible]noncomputable def iK:=X->W PV->ai->(PV->ai->Prop)->Prop
noncomputable def iq(B:PV->W PV->ai->(W PV->ai->Prop)->Prop):W PV->W PV->ai->(W PV->ai->Prop)->Prop
 |[],A,C,Q=>Q A C
 |v::r,A,C,Q=>B v A C λA C=>iq B r A C Q
@[reducible]noncomputable def Nx:=av->ai->Prop
@[reducible]noncomputable def Rt:=PV->av->ai->Prop
noncomputable def sV(A:PV->av->ai->Nx->Rt->Prop):W PV->av->ai->Nx->Rt->Prop
 |[],B,C,a,_=>a B C
 |v::r,B,C,a,R=>A v B C (λB C=>sV A r B C a R) R
noncomputable def Hr(A:av->ai->(an->ai->Prop)->Prop)(B:av->ai->Nx->Rt->Prop):X->av->ai->Nx->Rt->Prop
 |0,_,_,_,_=>wn
 |k+1,D,C,a,R=>A D C λb C=>match b with
  |false=>a D C
  |true=>B D C (λD C=>Hr A B k D C a R) R
noncomputable def zw(l:av)(x:X):av:=lr [] (λp _ A=>bif pi p.1 x then A else p::A) l
noncomputable def Cc:PV->an
 |.aj l=>dY l
 |v=>v.dS
noncomputable def sW:X:=4096
noncomputable def Pp:cQ->PV
 |.aX v=>v
 |.ax v=>v
noncomputable def Pq(s:cQ)(p:W PV×an):W PV×an:=match s with
 |.aX v=>(v::p.1,M)
 |.ax v=>(v::p.1,p.2)
noncomputable def sX(l:W MX)(A:av):im (W PV×an):=lr (O ([],bn)) (λe _ B=>match e with|.aa x=>o2 (aG A x) B Pq|_=>am) l
@[reducible]noncomputable def Cw(v:PV)(K:X->Prop)(p:PV->Prop):Prop:=match v with
 |.ah k=>K k
 |v=>p v
@[reducible]noncomputable def w_(o:im (W PV×an))(K:W PV->Prop)(p:Prop):Prop:=match o with
 |some (A,M)=>K A
 |_=>p
@[reducible]noncomputable def ve{A:Type}(B:W PV)(f:PV->im A):im A:=match B with
 |[v]=>f v
 |_=>am
@[reducible]noncomputable def CU{A:Type}(B:W PV)(f:PV->PV->im A):im A:=match B with
 |[a,b]=>f a b
 |_=>am
noncomputable def Cx:PV->im (W PV)
 |.aj l=>O (u0 0 l)
 |_=>am
noncomputable def Cd:PV->im (W PV)
 |.ab i=>gd (ci (0≤i)&&ci (i≤1000)) (O (wM i.toNat 0))
 |_=>am
noncomputable def jT(k:ky)(A:W PV):im (W PV):=match k with
 |.bK=>ve A gm
 |.qq=>CU A λa b=>o2 (gm a) (gm b) zH
 |.p9=>ve A Cx
 |.hY=>ve A Cd
noncomputable def dv(A:bA)(k:X):an:=match(aY A k).bind λB=>aG B 1 with
 |some _=>M
 |none=>bn
noncomputable def iO(A:bA)(k:X):im (W (X×X)):=match dv A k with
 |true=>am
 |false=>oj k
noncomputable def dF(A:bA)(k x:X):im PV:=match dv A k with
 |true=>am
 |false=>(aY A k).bind λB=>aG B x
noncomputable def oo(A:bA)(B:ai)(k x:X):im PV:=match dv A k with
 |true=>am
 |false=>match dF A k x with
  |some u=>O u
  |none=>((aY B k).bind λC=>aG C x).map .ab
noncomputable def rj(A:ai)(k x:X)(i:al):im ai:=match aY A k with
 |some B=>match aG B x with
  |some _=>O (kn A k (aK B x i))
  |none=>am
 |none=>am
noncomputable def u9(A:bA)(B:ai)(k x:X)(i:al):im ai:=match dv A k with
 |true=>am
 |false=>rj B k x i
noncomputable def gW(B:bA)(C:ai)(k:X):im PV:=gd (dv B k) ((aY C k).bind λA=>(aG A 0).bind λi=>(aY B k).bind λD=>aG D (i.toNat+2))
noncomputable def wW(B:ai)(k:X):im ai:=(aY B k).bind λA=>(aG A 0).bind λi=>rj B k 0 (i+1)
noncomputable def tx(A:bA)(B:ai)(C:sA)(a b:PV):im an:=match C,a,b with
 |.In,.ae p,.ah k=>match gW A B k with
  |some (.a8 l)=>O (gk l p).isSome
  |_=>am
 |_,_,_=>am
@[reducible]noncomputable def oS{A:Type}(o:im A)(K:A->Prop):Prop:=match o with
 |some x=>K x
 |none=>wn
@[reducible]noncomputable def oT(b:an)(p:Prop):Prop:=match b with
 |true=>p
 |false=>wn
@[reducible]noncomputable def oB(v:PV)(K:an->Prop):Prop:=match v with
 |.aJ b=>K b
 |_=>wn
@[reducible]noncomputable def oI(v:PV)(K:al->Prop):Prop:=match v with
 |.ab i=>K i
 |_=>wn
@[reducible]noncomputable def oP(v:PV)(K:PS->Prop):Prop:=match v with
 |.ae p=>K p
 |_=>wn
@[reducible]noncomputable def oL(p:PS)(K:X->Prop):Prop:=match p with
 |.aA c=>K c
 |_=>wn
@[reducible]noncomputable def oD(v:PV)(K:W (PS×PV)->Prop):Prop:=match v with
 |.a8 l=>K l
 |_=>wn
@[reducible]noncomputable def tG(v:PV)(K:W PV->Prop):Prop:=match v with
 |.aj l=>K l
 |_=>wn
@[reducible]noncomputable def oO(v:PV)(K:X->Prop):Prop:=match v with
 |.ah k=>K k
 |_=>wn
@[reducible]noncomputable def agg(A:bA)(B:ai)(v:PV)(a:X)(K:PV->Prop):Prop:=oO v λk=>oS (iO A k) λY=>oT (sS k a) (oS (oo A B k a) K)
noncomputable def zJ(A:bA)(B:ai)(k:X)(i:PV):im PV:=match iO A k,i with
 |none,.ae (.aA c)=>oo A B k c
 |_,_=>am
@[reducible]noncomputable def CV(A:bA)(B:ai)(v i:PV)(K:PV->Prop):Prop:=match v with
 |.ah k=>oS (zJ A B k i) K
 |v=>oS (eN v i) K
noncomputable def Pr:al->im X
 |.ofNat n=>O n
 |.negSucc _=>am
@[reducible]noncomputable def zK(B:bA)(C:ai)(A:sA)(a b:PV)(K:an->Prop):Prop:=match p_ A a b with
 |some u=>K u
 |none=>oS (tx B C A a b) K
@[reducible]noncomputable def Nv(A:BoolOp)(b:an)(B stop:Prop):Prop:=match A,b with
 |.And,bn=>stop
 |.Or,M=>stop
 |_,_=>B
@[reducible]noncomputable def oC(A:av)(x:X)(Q:PV->av->Prop):Prop:=match aG A x with
 |some (.ax v)=>Q v A
 |some (.aX v)=>Q v (aK A x (.ax v))
 |none=>wn
theorem oC.E{A:av}{x:X}{Q:PV->av->Prop}{G:Prop}(h:oC A x Q)(B:∀v,aG A x=O (.ax v)->Q v A->G)(C:∀v,aG A x=O (.aX v)->Q v (aK A x (.ax v))->G):G:=by
 unfold oC at h
 cases e:aG A x with
 |none=>rw [e]at h;exact h.elim
 |some s=>
  rw [e]at h
  cases s with
  |ax v=>exact B v e h
  |aX v=>exact C v e h
section
variable(C:iK)(h:bA)
mutual
noncomputable def bB:MX->av->ai->(PV->av->ai->Prop)->Prop
 |.eE,_,_,_=>wn
 |.bG,B,A,Q=>Q .bG B A
 |.aJ b,B,A,Q=>Q (.aJ b) B A
 |.ab i,B,A,Q=>Q (.ab i) B A
 |.ae c,B,A,Q=>Q (.ae (.aA c)) B A
 |.aa x,B,A,Q=>oC B x λv B=>Q v B A
 |.gZ x,B,A,Q=>oS (aG FX x) λv=>Q v B A
 |.af S,B,A,Q=>dP S B A λD B A=>oT (u8 D.length 4096) (Q (.af D) B A)
 |.cK S,B,A,Q=>dP S B A λD B A=>oT (u8 D.length 4096) (Q (.aj D) B A)
 |.cD kvs,B,A,Q=>dP kvs B A λD B A=>oT (u8 D.length 30) (oS (n_ D []) λd=>Q (.a8 d) B A)
 |.cW e a,B,A,Q=>bB e B A λv B A=>agg h A v a λu=>Q u B A
 |.ag e i,B,A,Q=>bB e B A λv B A=>bB i B A λi B A=>CV h A v i λu=>Q u B A
 |.iS e lo hi,B,A,Q=>bB e B A λv B A=>bB lo B A λlo B A=>bB hi B A λhi B A=>oS (q_ v lo hi) λu=>Q u B A
 |.bj U a b,B,A,Q=>bB a B A λa B A=>bB b B A λb B A=>oS (ko U a b) λu=>Q u B A
 |.ao U a b,B,A,Q=>bB a B A λa B A=>bB b B A λb B A=>zK h A U a b λu=>Q (.aJ u) B A
 |.cE U S,B,A,Q=>xu U S B A Q
 |.d3 e,B,A,Q=>bB e B A λv B A=>oB v λb=>Q (.aJ (!b)) B A
 |.kz e,B,A,Q=>bB e B A λv B A=>oI v λi=>Q (.ab (-i)) B A
 |.aF t a b,B,A,Q=>bB t B A λv B A=>oB v λc=>match c with
  |true=>bB a B A Q
  |false=>bB b B A Q
 |.fn a args,B,A,Q=>w_ (sX args B) (λD=>C a D A λr A=>r.dS=M∧Q r B A) (dP args B A λD B A=>C a D A λr A=>Q r B A)
 |.bi f args,B,A,Q=>oT (yZ f) (dP args B A λD B A=>oS (oQ f D) λu=>Q u B A)
 |.uM e,B,A,Q=>bB e B A λv B A=>oS (pR v) λu=>Q u B A
 |.uT e,B,A,Q=>bB e B A λv B A=>oD v λl=>Q (.aj (l.map λp=>.af [.ae p.1,p.2])) B A
 |.au o m args,B,A,Q=>bB o B A λv B A=>Cw v (λk=>oS (iO h k) λtab=>oS (aG tab m) λa=>w_ (sX args B) (λD=>C a (.ah k::D) A λr A=>r.dS=M∧Q r B A) (dP args B A λD B A=>C a (.ah k::D) A λr A=>Q r B A))
  λv=>oT (zg m v) (dP args B A λD B A=>oS (wU m v D) λu=>Q u B A)
 |.dM fs J t k L P,B,A,Q=>oT (lj t k) (dP L B A λD B A=>oS (jT k D) λF=>
  iq (λv E A R=>oS (eS t v (om fs (dW B))) λH=>wX P H A λZ A=>match Z with
   |true=>bB J H A λu Y A=>(kR B=M->u.dS=M)∧R (E++[u]) A
   |false=>R E A) F [] A λj A=>j.length≤sW∧Q (.aj j) B A)
 |.kX fs J t k L P t2 k2 s w,B,A,Q=>oT (lj t k&&lj t2 k2) (dP L B A λD B A=>oS (jT k D) λF=>
  iq (λv E A R=>oS (eS t v (om fs (dW B))) λH=>wX P H A λZ A=>match Z with
   |true=>dP s H A λI8 Y A=>oS (jT k2 I8) λI=>iq (λv2 E A R=>oS (eS t2 v2 H) λy=>wX w y A λZ A=>match Z with
    |true=>bB J y A λu Y A=>(kR B=M->u.dS=M)∧R (E++[u]) A
    |false=>R E A) I E A R
   |false=>R E A) F [] A λj A=>j.length≤sW∧Q (.aj j) B A)
 |.iJ a b,B,A,Q=>bB a B A λa B A=>oP a λp=>oL p λc=>bB b B A λb B A=>oI b λi=>oS (Pr i) λn=>oT (u8 n 1000000) (Q (.ae (.jz c n)) B A)
 |.uU a b,B,A,Q=>bB a B A λa B A=>oP a λp=>oL p λc=>bB b B A λb B A=>oP b λq=>oL q λd=>oT (jg (tw c 47 d)) (Q (.ae (.aA (tw c 47 d))) B A)
 |.dW e,B,A,Q=>bB e (dW B) A λv Y A=>Cc v=M∧Q v B A
noncomputable def dP:W MX->av->ai->(W PV->av->ai->Prop)->Prop
 |[],A,B,Q=>Q [] A B
 |e::r,A,B,Q=>bB e A B λv A B=>dP r A B λD A B=>Q (v::D) A B
noncomputable def xu(D:BoolOp):W MX->av->ai->(PV->av->ai->Prop)->Prop
 |[],_,_,_=>wn
 |e::r,A,B,Q=>match r with
  |[]=>bB e A B Q
  |_::_=>bB e A B λv A B=>oB v λb=>Nv D b (xu D r A B Q) (Q (.aJ b) A B)
noncomputable def wX:W MX->av->ai->(an->ai->Prop)->Prop
 |[],_,A,Q=>Q M A
 |e::r,B,A,Q=>bB e B A λv Y A=>oB v λb=>match b with
  |true=>wX r B A Q
  |false=>Q bn A
end
noncomputable def oR(D:an)(e:MX)(A:av)(B:ai)(Q:cQ->av->ai->Prop):Prop:=match D with
 |false=>bB C h e A B λv A B=>Q (.ax v) A B
 |true=>match e with
  |.cK []=>Q (.aX (.aj [])) A B
  |.cD []=>Q (.aX (.a8 [])) A B
  |.cK F=>dP C h F A B λE A B=>oT (u8 E.length 4096) (Q (.aX (.aj E)) A B)
  |.bi f [e]=>match pi f q8 with
   |true=>bB C h e A B λv A B=>oS (th v) λu=>Q (.aX u) A B
   |false=>match pi f q9 with
    |true=>bB C h e A B λv A B=>oS (gm v) λl=>Q (.aX (.aj l)) A B
    |false=>bB C h (.bi f [e]) A B λv A B=>Q (.ax v) A B
  |e=>bB C h e A B λv A B=>Q (.ax v) A B
noncomputable def vk(l:W X)(x:X):an:=l.any (pi x)
noncomputable def CW(A:W X):W X->W MX->av->ai->(W cQ->av->ai->Prop)->Prop
 |[],[],B,D,Q=>Q [] B D
 |x::E,e::F,B,D,Q=>oR C h (vk A x) e B D λv B D=>CW A E F B D λH B D=>Q (v::H) B D
 |_,_,_,_,_=>wn
noncomputable def iX(B:W X):W cQ->av->av:=lr (λ_ A=>A) (λx _ D r A=>lr A (λv r _=>D r (aK A x v)) r) B
noncomputable def xa(l:W PV):PV->im PV
 |.aj r=>gd (u8 (l.length+r.length) 4000) (O (.aj (l++r)))
 |_=>am
noncomputable def xb:W PV->PV->im PV
 |.ae p::r,.ae q=>gd (ci (p=q)&&lS r) (O (.aj r))
 |_,_=>am
noncomputable def xc(d:W (PS×PV)):PV->im PV
 |.aj r=>gd (u8 (d.length+r.length) 4000) ((jG r d).map .a8)
 |_=>am
noncomputable def mQ(m:X)(v u:PV):im PV:=match v with
 |.aj l=>match pi m uI with
  |true=>gd (u8 l.length 4000) (O (.aj (l++[u])))
  |false=>match pi m yQ with
   |true=>xa l u
   |false=>gd (pi m yS) (xb l u)
 |.a8 d=>gd (pi m yR) (xc d u)
 |_=>am
noncomputable def zx(m:X):PV->an
 |.aj _=>pi m uI||Nat.beq m yQ||Nat.beq m yS
 |.a8 _=>pi m yR
 |_=>bn
@[reducible]noncomputable def zL(A:av)(x:X)(k v:PV)(K:av->Prop):Prop:=match aG A x,k with
 |some (.aX (.a8 d)),.ae p=>oT (u8 d.length 4000) (K (aK A x (.aX (.a8 (fE d p v)))))
 |some (.aX (.a8 [])),.af l=>oT (lS l) (K (zw A x))
 |_,_=>wn
@[reducible]noncomputable def Df(o:im cQ)(p:Prop)(K:X->Prop):Prop:=match o with
 |some (.aX (.a8 _))=>p
 |some (.ax (.ah j))=>K j
 |_=>wn
@[reducible]noncomputable def oN{A:Type}(o:im A)(p:Prop):Prop:=match o with
 |some _=>wn
 |none=>p
@[reducible]noncomputable def aeE(h:bA)(A:ai)(o:PV)(a:X)(v:PV)(K:ai->Prop):Prop:=oO o λj=>oI v λi=>oS (iO h j) λY=>oT (sS j a) (oS (u9 h A j a i) K)
noncomputable def tA(A:av)(x:X):im PV:=match aG A x with
 |some (.aX v)=>O v
 |_=>am
section
variable(f:W X)
mutual
noncomputable def QW:MS->av->ai->Nx->Rt->Prop
 |.eE,_,_,_,_=>wn
 |.bI t e,B,A,n,R=>match t with
  |.ak x=>oR C h (vk f x) e B A λv B A=>n (aK B x v) A
  |.bS H=>bB C h e B A λv B A=>oS (eS (.bS H) v B) λB=>n B A
 |.gh H L,B,A,n,R=>CW C h f H L B A λI B A=>n (iX H I B) A
 |.mP o k e,B,A,n,R=>bB C h e B A λv B A=>match o with
  |.aa x=>Df (aG B x) (bB C h k B A λk B A=>zL B x k v λB=>n B A) λj=>oN (iO h j) (bB C h k B A λk B A=>oP k λp=>oL p λc=>oI v λi=>oS (u9 h A j c i) λA=>n B A)
  |o=>bB C h o B A λo B A=>bB C h k B A λk B A=>oO o λj=>oP k λp=>oS (gW h A j) λc=>oD c λd=>
   ∃D,wW A j=O D∧gW h D j=O (.a8 (fE d p v))∧d.length≤100∧n B D
 |.eH o a e,B,A,n,R=>bB C h e B A λv B A=>bB C h o B A λo B A=>aeE h A o a v λA=>n B A
 |.gq x m e,B,A,n,R=>match aG B x with
  |some (.aX P)=>oT (zx m P) (bB C h e B A λu B A=>oS (tA B x) λv=>oS (mQ m v u) λS=>n (aK B x (.aX S)) A)
  |some (.ax _)=>bB C h (.au (.aa x) m [e]) B A λY B A=>n B A
  |none=>wn
 |.aF t a b,B,A,n,R=>bB C h t B A λv B A=>oB v λc=>match c with
  |true=>nc a B A n R
  |false=>nc b B A n R
 |.w' t a b,B,A,n,R=>bB C h t (dW B) A λv Y A=>oB v λc=>match c with
  |true=>nc a B A n R
  |false=>nc b B A n R
 |.d9 t k J E,B,A,n,R=>oT (lj t k) (dP C h J B A λI B A=>oS (jT k I) λF=>sV (λv B A n R=>oS (eS t v B) λB=>nc E B A n R) F B A n R)
 |.aB e,B,A,_,R=>bB C h e B A R
 |.tf o m e,B,A,n,R=>oT (pi m uI) (bB C h o B A λo B A=>oO o λj=>oS (gW h A j) λc=>tG c λY=>bB C h e B A λu B A=>oS (gW h A j) λc=>tG c λl=>
  ∃D,wW A j=O D∧gW h D j=O (.aj (l++[u]))∧l.length≤100∧n B D)
 |.vd t E,B,A,n,R=>Hr (λB A K=>bB C h t (dW B) A λv Y A=>oB v λb=>K b A) (λB A n R=>nc E B A n R) 10 B A n R
noncomputable def nc:W MS->av->ai->Nx->Rt->Prop
 |[],A,B,a,_=>a A B
 |s::r,A,B,a,R=>QW s A B (λA B=>nc r A B a R) R
end
end
end
@[reducible]noncomputable def cY(C:iK)(B:bA)(A:W X)(m:MS)(D:av)(E:ai)(Q:Fl->av->ai->Prop):Prop:=QW C B A m D E (Q .bp) λv=>Q (.aB v)
@[reducible]noncomputable def fy(C:iK)(B:bA)(A:W X)(m:W MS)(D:av)(E:ai)(Q:Fl->av->ai->Prop):Prop:=nc C B A m D E (Q .bp) λv=>Q (.aB v)
@[reducible]noncomputable def jY(A:PV->av->ai->Nx->Rt->Prop)(l:W PV)(B:av)(C:ai)(Q:Fl->av->ai->Prop):Prop:=sV A l B C (Q .bp) λv=>Q (.aB v)
@[reducible]noncomputable def Pt(A:av->ai->(an->ai->Prop)->Prop)(B:av->ai->Nx->Rt->Prop)(k:X)(C:av)(D:ai)(Q:Fl->av->ai->Prop):Prop:=Hr A B k C D (Q .bp) λv=>Q (.aB v)
theorem o2.E{A B C:Type}{o:im A}{p:im B}{f:A->B->C}{r:C}{G:Prop}(e:o2 o p f=O r)(h:∀u v,o=O u->p=O v->f u v=r->G):G:=
 match o,p,e with
 |some _,O _,e=>h _ _ N N (ii e)
theorem gd.E{A:Type}{b:an}{x:im A}{r:A}{G:Prop}(e:gd b x=O r)(h:b=M->x=O r->G):G:=
 match b,e with
 |true,e=>h N e
theorem oS.E{A:Type}{o:im A}{K:A->Prop}{G:Prop}(h:oS o K)(f:∀x,o=O x->K x->G):G:=match o,h with
 |some x,h=>f x N h
theorem oT.E{b:an}{p:Prop}{G:Prop}(h:oT b p)(f:b=M->p->G):G:=match b,h with
 |true,h=>f N h
theorem oN.E{A:Type}{o:im A}{p G:Prop}(h:oN o p)(f:o=am->p->G):G:=match o,h with
 |none,h=>f N h
theorem Df.E{o:im cQ}{p G:Prop}{K:X->Prop}(h:Df o p K)(A:∀d,o=O (.aX (.a8 d))->p->G)(B:∀j,o=O (.ax (.ah j))->K j->G):G:=by
 rcases o with _|⟨v|v⟩
 ·exact h.elim
 ·cases v<;>first|exact Ps h|exact A _ N h
 ·cases v<;>first|exact Ps h|exact B _ N h
theorem zL.E{A:av}{x:X}{k v:PV}{K:av->Prop}{G:PV->Prop}(h:zL A x k v K)(B:∀d p,aG A x=O (.aX (.a8 d))->d.length≤4000->K (aK A x (.aX (.a8 (fE d p v))))->G (.ae p))(C:∀l,aG A x=O (.aX (.a8 []))->lS l=M->K (zw A x)->G (.af l)):G k:=by
 unfold zL at h
 cases e:aG A x with
 |none=>rw [e]at h;exact h.elim
 |some D=>
  rw [e]at h
  rcases D with p|p
  ·cases p with
   |a8 d=>
    cases k with
    |ae p=>exact oT.E h λa b=>B d p e (ww a) b
    |af l=>cases d<;>first|exact Ps h|exact oT.E h λa b=>C l e a b
    |_=>cases d<;>exact Ps h
   |_=>exact Ps h
  ·exact Ps h
theorem lY.E{A:Type}{a b:PV}{f:al->al->im A}{r:A}{G:PV->PV->Prop}(e:lY a b f=O r)(h:∀x y,f x y=O r->G (.ab x) (.ab y)):G a b:=by
 cases a<;>first|exact aH e|(cases b<;>first|exact aH e|exact h _ _ e)
theorem zI.E{v:PV}{n:X}{G:PV->X->Prop}(e:zI v=O n)(A:∀l,G (.af l) l.length)(B:∀l,G (.aj l) l.length)(C:∀l,G (.a8 l) l.length):G v n:=by
 cases v<;>first|exact aH e|exact ii e▸A _|exact ii e▸B _|exact ii e▸C _
theorem sX.E{m:MX}{B:W MX}{A:av}{r:W PV×an}{G:Prop}(e:sX (m::B) A=O r)(f:∀x s p,m=.aa x->aG A x=O s->sX B A=O p->Pq s p=r->G):G:=by
 cases m<;>first|exact aH e|exact o2.E e λs p C D q=>f _ s p N C D q
theorem w_.E{o:im (W PV×an)}{K:W PV->Prop}{p G:Prop}(h:w_ o K p)(C:∀A,o=O (A,M)->K A->G)(B:p->G):G:=by
 rcases o with _|⟨A,_|_⟩
 ·exact B h
 ·exact B h
 ·exact C A N h
theorem Cw.E{v:PV}{K:X->Prop}{p:PV->Prop}{G:Prop}(h:Cw v K p)(A:∀k,v=.ah k->K k->G)(B:p v->G):G:=by
 cases v<;>first|exact B h|exact A _ N h
theorem ve.E{B:Type}{A:W PV}{f:PV->im B}{r:B}{G:Prop}(e:ve A f=O r)(h:∀v,A=[v]->f v=O r->G):G:=by
 rcases A with _|⟨v,_|_⟩
 ·exact aH e
 ·exact h v N e
 ·exact aH e
theorem CU.E{B:Type}{A:W PV}{f:PV->PV->im B}{r:B}{G:Prop}(e:CU A f=O r)(h:∀a b,A=[a,b]->f a b=O r->G):G:=by
 rcases A with _|⟨a,_|⟨b,_|_⟩⟩
 ·exact aH e
 ·exact aH e
 ·exact h a b N e
 ·exact aH e
theorem Cx.E{v:PV}{r:W PV}{G:PV->Prop}(e:Cx v=O r)(f:∀l,u0 0 l=r->G (.aj l)):G v:=by
 cases v<;>first|exact aH e|exact f _ (ii e)
theorem Cd.E{v:PV}{r:W PV}{G:PV->Prop}(e:Cd v=O r)(f:∀i,0≤i->i≤1000->wM i.toNat 0=r->G (.ab i)):G v:=by
 cases v<;>first|exact aH e|exact gd.E e λh q=>f _ (ut (KM.mp h).1) (ut (KM.mp h).2) (ii q)
theorem jh.E{n:X}{i:al}{k:X}{G:al->X->Prop}(e:jh n i=O k)(A:G (.ofNat k) k)(B:∀j,j+1≤n->G (.negSucc j) (n-(j+1))):G i k:=by
 cases i with
 |ofNat j=>exact ii e▸A
 |negSucc j=>exact gd.E e λh q=>ii q▸B j (ww h)
set_option genInjectivity false in
structure xw where
 B_:W X
 QA:W X
 tu:W MS
noncomputable def wY:W (X×xw):=[
 (104,⟨[65736980274411623],[],aap⟩),
 (111,⟨[31381552358],[],aaq⟩),
 (132,⟨[217805684,215724399],[],T3⟩),
 (139,⟨[217805684,215724399],[],UT⟩),
 (144,⟨[217805684,215724399],[],TH⟩),
 (149,⟨[217805684,215724399],[],Tf⟩),
 (154,⟨[217805684,215724399],[],TJ⟩),
 (159,⟨[217805684,215724399,247216372],[],T4⟩),
 (185,⟨[217805684,243039462],[],T5⟩),
 (190,⟨[217805684,115],[],SW⟩),
 (211,⟨[217805684,215578735,1964006],[],T6⟩),
 (218,⟨[217805684,215724399],[],S5⟩),
 (225,⟨[217805684,215578735,1964006],[],TK⟩),
 (232,⟨[217805684,215578735,1964006],[27346712679],Tn⟩),
 (239,⟨[217805684,215578735,1964006],[],TL⟩),
 (246,⟨[217805684,215578735,1964006],[],To⟩),
 (251,⟨[217805684,215724399,244988386,1964006],[],Tg⟩),
 (256,⟨[217805684,215578735,1964006],[],TM⟩),
 (270,⟨[217805684,215578735,1964006],[],Th⟩),
 (275,⟨[217805684,31368754021,1964006],[27346712679,1964006,31649741026],vM⟩),
 (282,⟨[217805684,114,31368754021,257521763,1964006],[],S9⟩),
 (289,⟨[217805684,215578735,1964006],[],T7⟩),
 (315,⟨[217805684,27629678967,232585319,247216372],[],Tu⟩),
 (322,⟨[217805684,215724399,244988386,1964006,247216372],[],S8⟩),
 (329,⟨[217805684,215578735,1964006],[],Tv⟩),
 (336,⟨[217805684,215578735],[],Td⟩),
 (343,⟨[217805684,27629678967,215578735,1964006],[],Tp⟩),
 (388,⟨[217805684,448043167758436],[],T8⟩),
 (400,⟨[217805684,215724399,247216372],[],Te⟩),
 (478,⟨[217805684,215724399],[],Tq⟩),
 (555,⟨[217805684],[],Tb⟩),
 (569,⟨[217805684],[],Tc⟩),
 (583,⟨[213496679,257683822],[],A3⟩),
 (590,⟨[213496679],[],UU⟩),
 (597,⟨[213496679,238662501],[],UW⟩),
 (604,⟨[213496679,27619242612,238662501],[],Vz⟩),
 (611,⟨[213496679,27619242612,238662501],[],T9⟩),
 (618,⟨[213496679,27619242612,238662501],[],Uo⟩),
 (623,⟨[1685488,31085722352],[],T'⟩),
 (628,⟨[234501492,1685488,31085722352],[],Up⟩),
 (635,⟨[213644652,257683822,27610854648],[],UX⟩),
 (640,⟨[230241125,1964006,29475043438],[],UY⟩),
 (647,⟨[215724399,215578735,1964006,29475043438],[],T_⟩),
 (652,⟨[215578735,1964006,29475043438],[],VA⟩),
 (657,⟨[215578735,1964006,29475043438],[],UZ⟩),
 (662,⟨[31368754021,1964006,27342469240],[],TN⟩),
 (667,⟨[243039462,1964006,27342469240],[],U0⟩),
 (672,⟨[106,1964006,27342469240],[],Uq⟩),
 (677,⟨[103,1964006,27342469240],[],Ur⟩),
 (682,⟨[213496679],[],mE⟩),
 (433,⟨[217805684,215724399],[],SY⟩),
 (440,⟨[217805684,215724399],[],S'⟩),
 (445,⟨[217805684],[27346712679,247280499],SR⟩),
 (452,⟨[217805684],[27346712679],S1⟩),
 (459,⟨[217805684],[234468212],SX⟩),
 (492,⟨[217805684,215724399],[],S_⟩),
 (499,⟨[217805684,215724399],[],Ta⟩),
 (506,⟨[217805684,215724399],[],S3⟩),
 (534,⟨[217805684,215724399],[27346712679,461239469388152],S4⟩),
 (426,⟨[217805684,232372970],[],S7⟩),
 (687,⟨[4050646790772],[31370885866],dU⟩)]
noncomputable def tB(A:W X):W PV->im av:=lr (λm=>lr (O []) (λ_ _ _=>am) m) (λx _ B m=>lr am (λv m _=>(B m).map λr=>(x,.ax v)::r) m) A
@[reducible]noncomputable def dl(C:iK):iK:=λa A B Q=>UF->C a A B Q
noncomputable def aR(C:bA):X->iK
 |0=>λY Y Y Y=>wn
 |n+1=>λa args A Q=>oS (aG wY a) λB=>oS (tB B.B_ args) λD=>nc (dl (aR C n)) C B.QA B.tu D A (λY A=>Q .bG A) λv Y A=>Q v A
@[reducible]noncomputable def ba(A:bA)(n:X):iK:=dl (aR A n)
@[reducible]noncomputable def kQ(K:PV->ai->Prop)(f:Fl)(_:av)(A:ai):Prop:=match f with|.bp=>K .bG A|.aB v=>K v A
@[reducible]noncomputable def nQ(C:iK)(E:bA)(A:W X)(r:W MS)(Q:Fl->av->ai->Prop)(f:Fl)(B:av)(D:ai):Prop:=match f with|.bp=>fy C E A r B D Q|.aB v=>Q (.aB v) B D
theorem mR(h:cY C B A s D E (nQ C B A r Q)):fy C B A (s::r) D E Q:=h
theorem Pu(h:fy C B A r D E Q):nQ C B A r Q .bp D E:=h
noncomputable def fr(x:f8)(k:X):f8:=x++("'" :f8)++to (qM k)
noncomputable def dJ:PS->f8
 |.aA c=>aZ c
 |.jz c k=>fr (aZ c) k
noncomputable def jN:PS->an
 |.aA c=>jg c
 |.jz c k=>jg c&&u8 k 1000000
@[reducible]noncomputable def PM:=be->im Db
@[reducible]noncomputable def f_(A:sK bm)(n:X):Db:={cls:=.type "tuple",data:=.seq A n}
@[reducible]noncomputable def fM(A:sK bm)(n:X):Db:={cls:=.type "list",data:=.seq A n}
noncomputable def Eo(w:lw)(a:be)(o:Db)(A:W (f8×bm)):Prop:=(a==ub)=bn∧o.isFreed=bn∧∀h:li,h.get? a=O o->h.DictOf (AT pw w) a A
mutual
inductive ar(w:lw)(ids:W (be×be))(P:PM):bm->PV->Prop
 |bG:ar w ids P .none .bG
 |aJ (b:an):ar w ids P (.bool b) (.aJ b)
 |ab (i:al) (t:SC):ar w ids P (.int i t) (.ab i)
 |ae (p:PS) (t:SC):jN p=M->ar w ids P (.str (dJ p) t) (.ae p)
 |af {a:be} {vs:W bm} {n:X} {l:W PV}:P a=O (f_ vs.toArray n)->bH w ids P vs l->l.length≤4096->ar w ids P (.ref a) (.af l)
 |aj {a:be} {vs:W bm} {n:X} {l:W PV}:P a=O (fM vs.toArray n)->bH w ids P vs l->l.length≤4096->ar w ids P (.ref a) (.aj l)
 |a8 {a:be} {o:Db} {kvs:W (f8×bm)} {l:W (PS×PV)}:P a=O o->Eo w a o kvs->dx w ids P kvs l->l.length≤4096->ar w ids P (.ref a) (.a8 l)
 |ah {a d:be} {k:X}:aY ids k=O (a,d)->ar w ids P (.ref a) (.ah k)
inductive bH(w:lw)(ids:W (be×be))(P:PM):W bm->W PV->Prop
 |aU:bH w ids P [] []
 |bg {v:bm} {vs:W bm} {p:PV} {l:W PV}:ar w ids P v p->bH w ids P vs l->bH w ids P (v::vs) (p::l)
inductive dx(w:lw)(ids:W (be×be))(P:PM):W (f8×bm)->W (PS×PV)->Prop
 |aU:dx w ids P [] []
 |bg {x:PS} {v:bm} {vs:W (f8×bm)} {p:PV} {l:W (PS×PV)}:jN x=M->ar w ids P v p->dx w ids P vs l->dx w ids P ((dJ x,v)::vs) ((x,p)::l)
end
noncomputable def PM.le(P A:PM):Prop:=∀a o,P a=O o->A a=O o
noncomputable def PM.ag(P:PM)(h:li):Prop:=∀a o,P a=O o->h.get? a=O o
theorem PM.le.bQ(P:PM):P.le P:=λY Y e=>e
theorem PM.le.bD{P B A:PM}(h:P.le B)(C:B.le A):P.le A:=λa o e=>C a o (h a o e)
section
variable{w:lw}{c:W (be×be)}{P f:PM}
theorem ar.up(C:∀k q,aY c k=O q->aY A k=O q)(B:P.le f)(r:ar w c P v p):ar w A f v p:=
 ar.rec (motive_1:=λv p Y=>ar w A f v p) (motive_2:=λv p Y=>bH w A f v p) (motive_3:=λv p Y=>dx w A f v p)
  .bG .aJ .ab .ae (λe Y l r=>.af (B _ _ e) r l) (λe Y l r=>.aj (B _ _ e) r l) (λe s Y l r=>.a8 (B _ _ e) s r l) (λe=>.ah (C _ _ e)) .aU (λY Y h k=>.bg h k) .aU (λo Y Y h k=>.bg o h k) r
theorem bH.up(B:∀k q,aY c k=O q->aY A k=O q)(C:P.le f)(r:bH w c P v p):bH w A f v p:=
 bH.rec (motive_1:=λY Y Y=>WF) (motive_2:=λv p Y=>bH w A f v p) (motive_3:=λY Y Y=>WF)
  tt (λY=>tt) (λY Y=>tt) (λY Y Y=>tt) (λY Y Y Y=>tt) (λY Y Y Y=>tt) (λY Y Y Y Y=>tt) (λY=>tt) .aU (λh Y Y k=>.bg (h.up B C) k) tt (λY Y Y Y Y=>tt) r
theorem dx.up(B:∀k q,aY c k=O q->aY A k=O q)(C:P.le f)(r:dx w c P v p):dx w A f v p:=
 dx.rec (motive_1:=λY Y Y=>WF) (motive_2:=λY Y Y=>WF) (motive_3:=λv p Y=>dx w A f v p)
  tt (λY=>tt) (λY Y=>tt) (λY Y Y=>tt) (λY Y Y Y=>tt) (λY Y Y Y=>tt) (λY Y Y Y Y=>tt) (λY=>tt) tt (λY Y Y Y=>tt) .aU (λo h Y Y k=>.bg o (h.up B C) k) r
theorem ar.bU(h:P.le f)(r:ar w c P v p):ar w c f v p:=r.up (λY Y e=>e) h
theorem bH.bU(h:P.le f)(r:bH w c P v p):bH w c f v p:=r.up (λY Y e=>e) h
theorem dx.bU(h:P.le f)(r:dx w c P v p):dx w c f v p:=r.up (λY Y e=>e) h
noncomputable def QB(w:lw)(c:W (be×be))(P:PM)(v:bm):PV->Prop
 |.bG=>v=.none
 |.aJ b=>v=.bool b
 |.ab i=>∃t,v=.int i t
 |.ae p=>∃t,v=.str (dJ p) t∧jN p=M
 |.af l=>∃a A n,v=.ref a∧P a=O (f_ (mG A) n)∧bH w c P A l∧l.length≤4096
 |.aj l=>∃a A n,v=.ref a∧P a=O (fM (mG A) n)∧bH w c P A l∧l.length≤4096
 |.a8 l=>∃a o B,v=.ref a∧P a=O o∧Eo w a o B∧dx w c P B l∧l.length≤4096
 |.ah k=>∃a d,v=.ref a∧aY c k=O (a,d)
theorem ar.I(r:ar w c P v p):QB w c P v p:=
 ar.casesOn (motive_1:=λv p Y=>QB w c P v p) r N (λY=>N) (λY t=>⟨t,N⟩) (λY t o=>(ay t N o)) (λe r l=>(gB _ _ _ N e r l)) (λe r l=>(gB _ _ _ N e r l)) (λe s r l=>⟨_,_,_,N,e,s,r,l⟩) λe=>(fV _ _ N e)
noncomputable def Pw(w:lw)(c:W (be×be))(P:PM)(A:W bm):W PV->Prop
 |[]=>A=[]
 |p::l=>∃v B,A=v::B∧ar w c P v p∧bH w c P B l
theorem bH.I(r:bH w c P A l):Pw w c P A l:=bH.casesOn (motive_2:=λA l Y=>Pw w c P A l) r N λh k=>(d_ _ _ N h k)
noncomputable def Px(w:lw)(c:W (be×be))(P:PM)(l:W PV):W bm->Prop
 |[]=>l=[]
 |v::A=>∃p m,l=p::m∧ar w c P v p∧bH w c P A m
theorem bH.J(r:bH w c P A l):Px w c P l A:=bH.casesOn (motive_2:=λA l Y=>Px w c P l A) r N λh k=>(d_ _ _ N h k)
noncomputable def Py(w:lw)(c:W (be×be))(P:PM)(A:W (f8×bm)):W (PS×PV)->Prop
 |[]=>A=[]
 |p::l=>∃v B,A=(dJ p.1,v)::B∧jN p.1=M∧ar w c P v p.2∧dx w c P B l
theorem dx.I(r:dx w c P A l):Py w c P A l:=dx.casesOn (motive_3:=λA l Y=>Py w c P A l) r N λo h k=>(zU _ _ N o h k)
noncomputable def Pz(w:lw)(c:W (be×be))(P:PM)(l:W (PS×PV)):W (f8×bm)->Prop
 |[]=>l=[]
 |v::A=>∃x p m,v.1=dJ x∧l=(x,p)::m∧jN x=M∧ar w c P v.2 p∧dx w c P A m
theorem dx.J(r:dx w c P A l):Pz w c P l A:=dx.casesOn (motive_3:=λA l Y=>Pz w c P l A) r N λo h k=>⟨_,_,_,N,N,o,h,k⟩
theorem bH.bO(h:bH w c P A l):A.length=l.length:=by
 induction A generalizing l with
 |nil=>(have B:=h.J;subst B);rfl
 |cons v A C=>cases h with|bg _ r=>rw [Da,Da,C r]
theorem dx.bO(h:dx w c P A l):A.length=l.length:=by
 induction A generalizing l with
 |nil=>(have B:=h.J;subst B);rfl
 |cons v A C=>cases h with|bg _ _ r=>rw [Da,Da,C r]
theorem bH.og(h:bH w c P A l)(k:bH w c P C m):bH w c P (A++C) (l++m):=by
 induction A generalizing l with
 |nil=>(have B:=h.J;subst B);exact k
 |cons v A D=>cases h with|bg e r=>exact .bg e (D r)
theorem bH.jU(h:bH w c P A l)(e:aY l k=O p):∃v,A[k]? =O v∧ar w c P v p:=by
 induction A generalizing l k with
 |nil=>(have B:=h.J;subst B);exact aH e
 |cons v A C=>
  cases h with
  |bg h r=>
   cases k with
   |zero=>obtain rfl:=ii e;exact (ay v N h)
   |succ k=>exact C r e
theorem bH.Qz(h:bH w c P A l):∀n,bH w c P (A.take n) (l.take n):=by
 induction A generalizing l with
 |nil=>(have B:=h.J;subst B);intro n;simp only [List.take_nil];exact .aU
 |cons v A C=>
  cases h with
  |bg h r=>
   intro n
   cases n with
   |zero=>exact .aU
   |succ n=>exact .bg h (C r n)
theorem bH.CQ(h:bH w c P B l):∀n,bH w c P (B.drop n) (l.drop n):=by
 induction B generalizing l with
 |nil=>(have A:=h.J;subst A);intro n;simp only [List.drop_nil];exact .aU
 |cons v B C=>
  cases h with
  |bg h r=>
   intro n
   cases n with
   |zero=>exact .bg h r
   |succ n=>exact C r n
end
structure bq(P:PM)(s:ce)(P':PM)(s':ce):Prop where
 i8:s'.gens=s.gens
 os:s'.os=s.os
 cH:∀a o,s.heap.get? a=O o->s'.heap.get? a=O o
 le:P.le P'
 ag:P'.ag s'.heap
 bN:∀a o,P' a=O o->P a=O o∨s.heap.get? a=am
theorem nV{h A:li}(k:∀a o,h.get? a=O o->A.get? a=O o){a:be}(e:A.get? a=am):h.get? a=am:=by
 cases q:h.get? a with
 |none=>rfl
 |some o=>rw [k a o q]at e;exact Dc e
theorem kJ(h:li):h.get? h.objs.size=am:=by
 cases q:h.get? h.objs.size with
 |none=>rfl
 |some o=>exact nw (FM q) (mF _)
theorem bq.bQ(h:P.ag s.heap):bq P s P s:=⟨N,N,λY Y e=>e,PM.le.bQ P,h,λY Y e=>.inl e⟩
theorem bq.bD{P C A:PM}{s D B:ce}(x:bq P s C D)(y:bq C D A B):bq P s A B:=
 ⟨y.i8.trans x.i8,y.os.trans x.os,λa o e=>y.cH a o (x.cH a o e),x.le.bD y.le,y.ag,λa o e=>by
  rcases y.bN a o e with h|h
  ·exact x.bN a o h
  ·exact .inr (nV x.cH h)⟩
theorem bq.cv(h:P.ag s.heap)(k:∀a o,s.heap.get? a=O o->A.get? a=O o):bq P s P {s with heap:=A,toks:=t}:=
 ⟨N,N,k,PM.le.bQ P,λa o e=>k a o (h a o e),λY Y e=>.inl e⟩
theorem bq.fB(h:P.ag s.heap)(t:X):bq P s P {s with toks:=t}:=bq.cv h λY Y e=>e
noncomputable def PM.cS(P:PM)(a:be)(o:Db):PM:=λb=>if b=a then O o else P b
theorem PM.ir(P:PM)(a:be)(o:Db):P.cS a o a=O o:=jp N
theorem PM.lP{P:PM}{o:Db}(h:b≠a):P.cS a o b=P b:=f0 h
theorem PM.pU{P:PM}{a:be}{o:Db}(h:P a=am):P.le (P.cS a o):=λb A e=>by
 rw [PM.lP (λq=>by rw [q,h]at e;exact aH e)];exact e
theorem PM.ag.bG{P:PM}(x:P.ag h){a:be}(e:h.get? a=am):P a=am:=by
 cases q:P a with
 |none=>rfl
 |some o=>rw [x a o q]at e;exact Dc e
theorem bq.cS{P:PM}{s:ce}(h:P.ag s.heap){A:li}{t:X}{a:be}{o:Db}(k:∀a o,s.heap.get? a=O o->A.get? a=O o)(D:A.get? a=O o)(C:s.heap.get? a=am):
  bq P s (P.cS a o) {s with heap:=A,toks:=t}:=by
 refine ⟨N,N,k,PM.pU (h.bG C),λb B e=>?_,λb B e=>?_⟩
 ·by_cases q:b=a
  ·subst q;rw [PM.ir]at e;obtain rfl:=ii e;exact D
  ·rw [PM.lP q]at e;exact k b B (h b B e)
 ·by_cases q:b=a
  ·subst q;exact .inr C
  ·rw [PM.lP q]at e;exact .inl e
noncomputable def bV(w:lw)(B:W (be×be))(A:pc)(P:PM)(s:ce)(t:wE bm)(r:PV):Prop:=
 ca (cr pw w) A t (λv D=>∃C,bq P s C D∧ar w B C v r) (λY Y=>wn) s
section
variable{w:lw}{c:W (be×be)}{A:pc}{P:PM}{s:ce}
theorem kK{h:li}(o:Db):∀a B,h.get? a=O B->(h.push o).get? a=O B:=λ_ _ e=>tz o e
theorem bq.oE(B:P.ag s.heap){o:Db}(C:o.isFreed=bn)(t:X):bq P s (P.cS s.heap.objs.size o) {s with heap:=s.heap.push o,toks:=t}:=
 bq.cS B (kK o) (Ix _ C) (kJ _)
theorem f6:4096≤E0:=eR pG (L0 0x41d06f1c0751d4751d1eb N)
theorem Ua(B:P.ag s.heap)(h:bH w c P D l)(C:l.length≤4096):bV w c A P s (newTuple D) (.af l):=by
 refine E3 (ay _ (bq.oE B N s.toks) (.af (PM.ir ..) (h.bU (bq.oE (s:=s) B N s.toks).le) C)) ?_
 rw [h.bO];exact io C f6
theorem Us(B:P.ag s.heap)(h:bH w c P D l)(C:l.length≤4096):bV w c A P s (Bo D) (.aj l):=by
 refine Bp (ay _ (bq.oE B N s.toks) (.aj (PM.ir ..) (h.bU (bq.oE (s:=s) B N s.toks).le) C)) ?_
 rw [h.bO];exact io C f6
theorem wH{B:Type}:∀{l:W B} {k:X} {x:B},aY l k=O x->k<l.length
 |_::_,0,_,_=>Nat.succ_pos _
 |_::r,k+1,_,e=>Nat.succ_lt_succ (wH (l:=r) e)
theorem HK{n k:X}{i:al}(B:(if i<0 then i+n else i)=(k:al))(C:k<n):yq i n=O k:=by
 unfold yq
 simp only [B]
 refine eR (jp (by simpa using C)) ?_
 rfl
theorem Ut{n:X}{i:al}{k:X}(e:jh n i=O k):k<n->yq i n=O k:=
 jh.E (G:=λi k=>k<n->yq i n=O k) e (HK (f0 (qL.mpr (pE k)))) λj B=>HK ((jp (E4 j)).trans (OR B))
theorem Ll(e:jh n i=O k)(B:n≤4096):k<n-> -2^63≤i∧i<2^63:=
 jh.E (G:=λi k=>k<n-> -2^63≤i∧i<2^63) e (λh=>⟨qK (by decide) (pE k),ET (pD.mpr (qJ h B)) (by decide)⟩) λj C _=>⟨qK (by decide:(-2^63:Int)≤ -((4096:Nat):Int)) (YK (sr.mpr (io C B))),EW (E4 j) (by decide)⟩
theorem Ub(D:P.ag s.heap)(h:ar w c P (.ref a) (.af l))(e:(jh l.length i).bind (aY l)=O r):
  bV w c A P s (uc (.ref a) (.int i t)) r:=by
 refine cw h.I λ_ _ _ C J E L=>?_
 clear h
 obtain rfl:=Os C
 rename_i R n
 refine aQ (sD.mp e) λk F H=>aQ (E.jU H) λv S U=>?_
 have B:=wH H
 have I:=Ll F L B
 refine PySem.P.getItem_tuple (items:=R.toArray) (n:=n) (k:=k) (y:=v) (D _ _ J) I.1 I.2 ?_ (by simpa using S) (ay P (bq.bQ D) U)
 rw [wP,E.bO];exact Ut F B
theorem TP(F:P.ag s.heap)(h:ar w c P (.ref a) (.aj l))(e:(jh l.length i).bind (aY l)=O r):
  bV w c A P s (uc (.ref a) (.int i t)) r:=by
 refine cw h.I λ_ _ _ H Z I b=>?_
 clear h
 obtain rfl:=Os H
 rename_i J n
 refine aQ (sD.mp e) λk L R=>aQ (I.jU R) λv C S=>?_
 have D:=wH R
 have E:=Ll L b D
 have U:s.heap.IsList a J.toArray:=(cq _ (F _ _ Z) N ⟨n,N⟩)
 have B:=I.bO
 revert D E
 refine jh.E (G:=λi k=>J[k]? =O v->k<l.length->(-2^63≤i∧i<2^63)->bV w c A P s (uc (.ref a) (.int i t)) r) L (λC _ E=>wpAny_getItem_list U (pE _) E.2 (by simpa using C) (ay P (bq.bQ F) S)) (λj Y C _ E=>?_) C
 refine wpAny_getItem_list_neg U (E4 j) ?_ E.1 ?_ (ay P (bq.bQ F) S)
 ·rw [wP,B];exact YK (sr.mpr Y)
 ·rw [wP,B,show(EO j+(l.length:al)).toNat=l.length-(j+1) from lc Mx (OR Y)];simpa using C
theorem Uu(B:P.ag s.heap):bV w c A P s (pH .Add (.int a t) (.int b u)) (.ab (a+b)):=PyProof.Rows.add_int (ay P (bq.fB B _) (.ab _ _))
theorem Uv(B:P.ag s.heap):bV w c A P s (pH .Sub (.int a t) (.int b u)) (.ab (a-b)):=PyProof.Rows.sub_int (ay P (bq.fB B _) (.ab _ _))
theorem Uw(B:P.ag s.heap)(h:0<b):bV w c A P s (pH .Mod (.int a t) (.int b u)) (.ab (ZB a b)):=PyProof.Rows.mod_int' (afY h) (ay P (bq.fB B _) (.ab _ _))
theorem Ux(B:P.ag s.heap)(h:(kY a&&kY b)=M):bV w c A P s (pH .Mult (.int a t) (.int b u)) (.ab (a*b)):=by
 unfold kY at h
 simp only [mH,yr]at h
 exact PyProof.Rows.mul_int (ay P (bq.fB B _) (.ab _ _)) (.of_left (intBits_le_64 (EW (by decide) h.1.1) (EW h.1.2 (by decide))))
theorem Uy(B:P.ag s.heap)(h:ar w c P (.ref a) (.af l))(k:ar w c P (.ref b) (.af m))(U:l.length+m.length≤4096):
  bV w c A P s (pH .Add (.ref a) (.ref b)) (.af (l++m)):=by
 have Z:=h
 have f:=k
 refine cw h.I λ_ _ _ E F R y=>?_
 clear h
 obtain rfl:=Os E
 rename_i C n
 refine cw k.I λ_ _ _ H I S j=>?_
 clear k
 obtain rfl:=Os H
 rename_i D Y
 cases C with
 |nil=>
  (have J:=R.J;subst J)
  exact concat_meets (ay _ (B _ _ F) N) (ay _ (B _ _ I) N) noFill_tuple_add seq_tuple_add YL YM (YN _ _)
   (tuple_addW0 a b _ D.toArray n Y am am #[] #[] (by simp)) (bt (B _ _ F) (B _ _ I) (ay P (bq.bQ B) f))
 |cons v C=>
  cases D with
  |nil=>
   (have L:=S.J;subst L)
   refine eR (SZ ..) ?_
   exact concat_meets (ay _ (B _ _ F) N) (ay _ (B _ _ I) N) noFill_tuple_add seq_tuple_add YL YM (YN _ _)
    (tuple_addW1 a b (v::C).toArray _ n Y am am #[] #[] (by simp) (by simp)) (bt (B _ _ F) (B _ _ I) (ay P (bq.bQ B) Z))
  |cons u D=>
   refine PySem.P.add_tuple (B _ _ F) (B _ _ I) (by simp) (by simp) (ay _ (bq.oE (o:=f_ ((v::C).toArray++(u::D).toArray) 0) B N s.toks) ?_) ?_
   ·have e:(v::C).toArray++(u::D).toArray=((v::C)++(u::D)).toArray:=by simp
    refine .af (vs:=(v::C)++(u::D)) (n:=0) (eL e (PM.ir ..)) ?_ (eR xz U)
    exact (R.og S).bU (bq.oE (s:=s) B N s.toks).le
   ·rw [wP,wP,R.bO,S.bO];exact io U f6
theorem Uc(D:P.ag s.heap)(h:ar w c P (.ref a) (.aj l))(k:ar w c P (.ref b) (.aj m))(H:l.length+m.length≤4096):
  bV w c A P s (pH .Add (.ref a) (.ref b)) (.aj (l++m)):=by
 refine cw h.I λ_ _ _ B L I U=>?_
 clear h
 obtain rfl:=Os B
 rename_i E n
 refine cw k.I λ_ _ _ C R J S=>?_
 clear k
 obtain rfl:=Os C
 rename_i F Y
 refine PySem.P.add_list (D _ _ L) (D _ _ R) (ay _ (bq.oE (o:=fM (E.toArray++F.toArray) 0) D N s.toks) ?_) ?_
 ·have e:E.toArray++F.toArray=(E++F).toArray:=by simp
  refine .aj (vs:=E++F) (n:=0) (eL e (PM.ir ..)) ?_ (eR xz H)
  exact (I.og J).bU (bq.oE (s:=s) D N s.toks).le
 ·rw [wP,wP,I.bO,J.bO];exact io H f6
end
noncomputable def rk(l:W X):X:=l.foldr (λc n=>n*128+(c+1)) 0
theorem KG:∀(f n:X),n≤f->rk (rq f n)=n
 |0,n,h=>by
  have:n=0:=KE (L1 149688792 N h) (L1 4878 N)
  subst this;rfl
 |f+1,0,_=>N
 |f+1,n+1,h=>by
  refine (?_:rk ((n %128)::rq f (n/128))=n+1)
  refine (?_:rk (rq f (n/128))*128+(n %128+1)=n+1)
  exact eR (KG f (n/128) (afZ h)) af0
theorem BO(n:X):aW (aZ n)=n:=KG n n (ul n)
theorem kM{a b:X}(h:aZ a=aZ b):a=b:=eL (BO a) (eL (BO b) (eR h N))
theorem Nw:∀(f n:X),∀c∈rq f n,c<128
 |0,_,c,h=>by cases h
 |f+1,0,c,h=>by cases h
 |f+1,n+1,c,h=>by
  rcases wl.mp h with rfl|h
  ·exact Nat.mod_lt _ (by decide)
  ·exact Nw f _ c h
theorem WG(f:X):rq f 0=[]:=by cases f<;>rfl
theorem WH(f n:X):rq (f+1) (n+1)=(n %128)::rq f (n/128):=N
theorem VB(c:X)(l:W X):rk (c::l)=rk l*128+(c+1):=N
theorem VC(l:W X):∀(f:X),(∀c∈l,c<128)->rk l≤f->rq f (rk l)=l:=by
 induction l with
 |nil=>intro f _ _;exact WG f
 |cons c l C=>
  intro f h A
  have B:c<128:=h c (wf ..)
  rw [VB]at A⊢
  generalize I:rk l=n at*
  cases f with
  |zero=>exact nw A (My (L2 5403830030 N))
  |succ f=>
   have D:n*128+(c+1)=(n*128+c)+1:=KE (L2 4555338683563832 N) (L2 4540426557556536 N)
   have E:(n*128+c)%128=c:=af1 B
   have F:(n*128+c)/128=n:=af2 B
   exact eR (D ..) (eR (WH ..) (eR (E ..) (eR (F ..) (eR (C f (λx H=>h x (wv _ H)) (af3 A) ..) N))))
theorem Ny(h:∀c∈x.cps.toList,c<128):aZ (aW x)=x:=by
 obtain ⟨⟨l⟩⟩:=x
 unfold aZ
 exact eR (N:aW ⟨⟨l⟩⟩=rk l) (eR (VC l _ h (ul _)) N)
theorem vN(a b:f8):(a++b).cps.toList=a.cps.toList++b.cps.toList:=by
 obtain ⟨⟨a⟩⟩:=a
 obtain ⟨⟨b⟩⟩:=b
 refine (?_:((⟨a⟩:sK X)++⟨b⟩).toList=_)
 simp
theorem B4(n:X):∀c∈(aZ n).cps.toList,c<128:=Nw n n
theorem aar(a b c:X):aZ (tw a b c)=aZ a++aZ b++aZ c:=by
 unfold tw
 refine Ny ?_
 intro x A
 rw [vN,vN]at A
 simp only [pI]at A
 rcases A with(A|A)|A
 ·exact B4 _ x A
 ·exact B4 _ x A
 ·exact B4 _ x A
theorem GI{a b:f8}(h:a.cps.toList=b.cps.toList):a=b:=by
 obtain ⟨⟨a⟩⟩:=a
 obtain ⟨⟨b⟩⟩:=b
 simp only at h
 subst h;rfl
theorem Uz{a b:IN}(h:to a=to b):a=b:=by
 rw [YO]at h
 unfold YP at h
 simp only [Str.mk.injEq]at h
 have B:a.toList.map Bq=b.toList.map Bq:=by
  simpa using(lc YQ h)
 have A:∀(x y:W Char),x.map Bq=y.map Bq->x=y:=by
  intro x
  induction x with
  |nil=>intro y e;cases y with
   |nil=>rfl
   |cons _ _=>contradiction
  |cons c x C=>intro y e;cases y with
   |nil=>contradiction
   |cons d y=>
    simp only [UV,Mz]at e
    exact eR (Char.ext (UInt32.toNat_inj.mp e.1)) (eR (C y e.2) N)
 exact String.toList_injective (A _ _ B)
theorem UA{a b:X}(h:qM a=qM b):a=b:=Nat.repr_inj.mp h
theorem y0{x:f8}(h:Dd x=M):39∉x.cps.toList:=by
 unfold Dd at h
 simpa using h
theorem y1{c:X}(h:jg c=M):Dd (aZ c)=M:=(KM.mp (KM.mp h).1).1
theorem Ep(h:jg c=M):sC (aZ c)=M:=(KM.mp (KM.mp h).1).2
theorem Nz(h:jg c=M):(aZ c).cps.size≤1000:=ww (KM.mp h).2
theorem Cy{c k:X}(h:jN (.jz c k)=M):jg c=M∧k≤1000000:=⟨(KM.mp h).1,ww (KM.mp h).2⟩
theorem Ce(x:f8)(k:X):(fr x k).cps.toList=x.cps.toList++39::(to (qM k)).cps.toList:=by
 unfold fr
 refine eR (vN ..) (eR (vN ..) ?_)
 have:("'" :f8).cps.toList=[39]:=by decide+kernel
 rw [this];simp
theorem KH:∀{a b c d:W X},39∉a->39∉b->a++39::c=b++39::d->a=b∧c=d
 |[],[],_,_,_,_,h=>⟨N,by simpa using h⟩
 |[],x::b,_,_,_,A,h=>by simp at h;exact nw h.1 (by intro e;exact A (e▸wf ..))
 |x::a,[],_,_,B,_,h=>by simp at h;exact nw h.1 (by intro e;exact B (e▸wf ..))
 |x::a,y::b,c,d,B,A,h=>by
  simp only [YR,Mz]at h
  obtain ⟨rfl,h⟩:=h
  refine rB (KH (λm=>B (wv _ m)) (λm=>A (wv _ m)) h) λC D=>?_
  subst C
  subst D
  exact ⟨N,N⟩
theorem GJ{p q:PS}(B:jN p=M)(C:jN q=M)(h:dJ p=dJ q):p=q:=by
 cases p with
 |aA c=>
  cases q with
  |aA d=>rw [kM (a:=c) (b:=d) h]
  |jz d k=>
   exfalso
   have A:(aZ c).cps.toList=(fr (aZ d) k).cps.toList:=eR (show aZ c=fr (aZ d) k from h) N
   rw [Ce]at A
   exact y0 (y1 B) (A▸by simp)
 |jz c k=>
  cases q with
  |aA d=>
   exfalso
   have A:(fr (aZ c) k).cps.toList=(aZ d).cps.toList:=eR (show fr (aZ c) k=aZ d from h) N
   rw [Ce]at A
   exact y0 (y1 C) (A▸by simp)
  |jz d j=>
   have A:(fr (aZ c) k).cps.toList=(fr (aZ d) j).cps.toList:=eR (show fr (aZ c) k=fr (aZ d) j from h) N
   rw [Ce,Ce]at A
   refine rB (KH (y0 (y1 (Cy B).1)) (y0 (y1 (Cy C).1)) A) λD E=>?_
   have F:k=j:=UA (Uz (GI E))
   exact eR (kM (GI D)) (eR F N)
theorem UB(x:IN):(to x).cps.all (· <0x110000)=M:=by
 refine eR YO ?_
 unfold YP
 rw [←MA,Do]
 intro c A
 have:c∈x.toList.map Bq:=by simpa using A
 obtain ⟨d,_,rfl⟩:=No.mp this
 have:=d.valid
 simp only [yr]
 refine eR (N:d.toNat=d.val.toNat) ?_
 rcases this with h|⟨_,h⟩
 ·exact MB h (by decide)
 ·exact h
theorem Kd(A:sC a=M)(B:sC b=M):sC (a++b)=M:=by
 unfold sC at*
 rw [←MA]at*
 rw [vN,YS,A,B];rfl
theorem Er(h:jN p=M):sC (dJ p)=M:=by
 cases p with
 |aA c=>exact Ep h
 |jz c k=>exact Kd (Kd (Ep (Cy h).1) (by decide+kernel)) (UB _)
noncomputable def qa:ia->an
 |.ab _=>M
 |.ae p=>jN p
noncomputable def lZ:ia->Br
 |.ab i=>.int i
 |.ae p=>.str (dJ p)
theorem aas(h:qa a=M):(lZ a).canLay0=M:=by
 cases a with
 |ab i=>rfl
 |ae p=>exact Er h
theorem VD(a:ia):(lZ a).depth=0:=by cases a<;>rfl
theorem NA(A:qa a=M)(B:qa b=M):Tk (lZ a) (lZ b)=ci (a=b):=by
 cases a with
 |ab i=>
  cases b with
  |ab j=>
   refine (?_:Tk (.int i) (.int j)=_)
   simp only [Tk,ia.ab.injEq]
   rfl
  |ae q=>refine (?_:Tk (.int i) (.str _)=_);simp only [Tk];simp
 |ae p=>
  cases b with
  |ab j=>refine (?_:Tk (.str _) (.int j)=_);simp only [Tk];simp
  |ae q=>
   refine (?_:Tk (.str (dJ p)) (.str (dJ q))=_)
   simp only [Tk,ia.ae.injEq]
   by_cases e:p=q
   ·subst e;simp
   ·have:dJ p≠dJ q:=λx=>e (GJ A B x)
    simp [e,this]
theorem WI:∀{l:W ia},l.all qa=M->qN (l.map lZ)=M:=λ{l}=>cB l (λY=>N) λa l A h=>by
  simp only [pJ,mH]at h
  simp only [UV,qN,aas h.1,A h.2,YT]
theorem U2:∀(l:W ia),ud (l.map lZ)=0:=λl=>cB l N λa l A=>by simp only [UV,ud,VD,A];rfl
theorem Lm:∀{l m:W ia},l.all qa=M->m.all qa=M->E5 (l.map lZ) (m.map lZ)=ci (l=m)
 |[],[],_,_=>N
 |[],_::_,_,_=>N
 |_::_,[],_,_=>N
 |a::l,b::m,h,k=>by
  simp only [pJ,mH]at h k
  simp only [UV,E5,NA h.1 k.1,Lm h.2 k.2,Mz]
  by_cases e:a=b<;>by_cases A:l=m<;>simp [e,A]
section
variable{w:lw}{c:W (be×be)}{P:PM}{h:li}
theorem jF.E{p:PV}{l:W PV}{u:W ia}{G:PV->W ia->Prop}(e:jF (p::l)=O u)(A:∀i v,jF l=O v->G (.ab i) (.ab i::v))(B:∀q v,jF l=O v->G (.ae q) (.ae q::v)):G p u:=by
 cases p<;>first
  |exact aH e
  |exact aQ (On.mp e) λv h q=>q▸A _ v h
  |exact aQ (On.mp e) λv h q=>q▸B _ v h
theorem U3:∀{l:W PV} {A:W bm} {u:W ia},bH w c P A l->jF l=O u->u.all qa=M∧∃B,qO h A (u.map lZ) B:=λ{l}=>no_implicit_lambda% (cB l (@λA u r e=>by
  obtain rfl:=ii e
  rw [show A=[] from r.I];exact (ff N ⟨[],.nil⟩)) λp l F {A} {u} r e=>by
  refine bX r.I λv I q C H=>eR q ?_
  revert C
  refine jF.E (G:=λp u=>ar w c P v p->u.all qa=M∧∃B,qO h (v::I) (u.map lZ) B) e (λi m D C=>?_) λx m D C=>?_
  ·have:=F H D
   exact je C.I λt q=>this.2.elim λB E=>(ff (by rw [pJ,this.1];rfl) ⟨_,eR q (.cons (.int i t) E)⟩)
  ·have:=F H D
   exact aQ C.I λt q o=>this.2.elim λB E=>(ff (eR (pJ ..) (eR (this.1 ..) (eR (Bs ..) o))) ⟨_,eR (q ..) (.cons (.str _ t) E)⟩))
inductive ji(h:li):bm->PV->Br->Prop
 |bG:ji h .none .bG .none
 |aJ (b:an):ji h (.bool b) (.aJ b) (.bool b)
 |ab (i:al) (t:SC):ji h (.int i t) (.ab i) (.int i)
 |ae (p:PS) (t:SC):jN p=M->ji h (.str (dJ p) t) (.ae p) (.str (dJ p))
 |af {v:bm} {l:W PV} {u:W ia} {as:W be}:jF l=O u->u.all qa=M->qP h v (.tuple (u.map lZ)) as->ji h v (.af l) (.tuple (u.map lZ))
theorem ji.mW(r:ji h v p d):∃A,qP h v d A:=by
 cases r with
 |bG=>exact ⟨_,.none⟩
 |aJ b=>exact ⟨_,.bool b⟩
 |ab i t=>exact ⟨_,.int i t⟩
 |ae p t _=>exact ⟨_,.str _ t⟩
 |af _ _ r=>exact ⟨_,r⟩
theorem ji.kB(r:ji h v p d):d.canLay0=M:=by
 cases r with
 |bG=>rfl
 |aJ b=>rfl
 |ab i t=>rfl
 |ae p t o=>exact Er o
 |af _ o _=>exact WI o
theorem ji.wZ(r:ji h v p d):d.depth≤1:=by
 cases r with
 |af _ o _=>refine (?_:ud _+1≤1);rw [U2];exact ul _
 |_=>exact Gc _
theorem md.E{k:an}{G:PV->PV->an->Prop}(e:md a b=O k)(A:G .bG .bG M)(B:∀x y,G (.aJ x) (.aJ y) (x==y))(C:∀x y,G (.ab x) (.ab y) (ci (x=y)))(D:∀x y,G (.ae x) (.ae y) (ci (x=y)))
  (F:∀l m u v,jF l=O u->jF m=O v->G (.af l) (.af m) (ci (u=v))):G a b k:=by
 cases a<;>first
  |exact aH e
  |(cases b<;>first
   |exact aH e
   |exact o2.E e λu v H I q=>q▸F _ _ u v H I
   |exact ii e▸A
   |exact ii e▸B _ _
   |exact ii e▸C _ _
   |exact ii e▸D _ _)
theorem Ln(A:P.ag h)(r:ar w c P v (.af l))(e:jF l=O u):u.all qa=M∧ji h v (.af l) (.tuple (u.map lZ)):=
 cw r.I λY Y Y B C D Y=>let x:=U3 (h:=h) D e;x.2.elim λY E=>⟨x.1,eR B (.af e x.1 (.tuple (A _ _ C) N N (by simpa using E)))⟩
theorem Es(H:P.ag h){v C:bm}{k:an}(A:ar w c P v a)(B:ar w c P C b)(e:md a b=O k):
  ∃D E,ji h v a D∧ji h C b E∧Tk D E=k:=by
 revert A B
 refine md.E (G:=λa b k=>ar w c P v a->ar w c P C b->∃D E,ji h v a D∧ji h C b E∧Tk D E=k) e ?_ ?_ ?_ ?_ ?_
 ·intro A B;rw [show v=_ from A.I,show C=_ from B.I];exact (d_ _ _ .bG .bG N)
 ·intro x y A B;rw [show v=_ from A.I,show C=_ from B.I];exact (d_ _ _ (.aJ x) (.aJ y) (by simp [Tk]))
 ·refine λx y A B=>je A.I λt q=>je B.I λu F=>?_
  rw [q,F];exact (d_ _ _ (.ab x _) (.ab y _) (by simp only [Tk];rfl))
 ·refine λx y A B=>aQ A.I λt q I=>aQ B.I λu F J=>?_
  rw [q,F];exact (d_ _ _ (.ae x t I) (.ae y u J) ((NA (a:=.ae x) (b:=.ae y) I J).trans (by simp)))
 ·intro l m u C S U A B
  have L:=Ln H A S
  have R:=Ln H B U
  refine (d_ _ _ L.2 R.2 ?_)
  rw [Tk];exact Lm L.1 R.1
class inductive ng(h:li):W bm->W PV->W Br->Prop
 |aU:ng h [] [] []
 |bg {v:bm} {p:PV} {d:Br} {vs:W bm} {l:W PV} {ds:W Br}:ji h v p d->ng h vs l ds->ng h (v::vs) (p::l) (d::ds)
theorem ng.mW(r:ng h B l C):∃A,qO h B C A:=by
 induction r with
 |aU=>exact ⟨_,.nil⟩
 |bg r _ D=>obtain ⟨A,E⟩:=r.mW;obtain ⟨H,F⟩:=D;exact ⟨_,.cons E F⟩
theorem ng.kB(r:ng h C l A):qN A=M:=by
 induction r with
 |aU=>rfl
 |bg r _ B=>simp only [qN,r.kB,B,YT]
theorem ng.wZ(r:ng h C l A):ud A≤1:=by
 induction r with
 |aU=>exact Gc _
 |bg r _ B=>exact Nat.max_le.mpr ⟨r.wZ,B⟩
theorem KI(I:P.ag h):∀{l m:W PV} {B A:W bm} {k:an},bH w c P B l->bH w c P A m->tv l m=O k->
  ∃C D,ng h B l C∧ng h A m D∧E5 C D=k
 |[],[],B,A,k,r,E,e=>eR (show B=[] from r.I) (eR (show A=[] from E.I) (eL (ii e) (d_ [] [] .aU .aU N)))
 |p::l,q::m,B,A,k,r,E,e=>by
  refine bX r.I λv o J L R=>bX E.I λs S F U Y=>eR J (eR F (o2.E e λx y Z a H=>bX (Es I L U Z) λt db b d f=>bX (KI I R Y a) λC D i j n=>?_))
  exact (d_ _ _ (.bg b i) (.bg d j) (by rw [E5,f,n];exact H))
theorem WJ(e:h.get? a=O (f_ C.toArray n)):(∃A B,qO h C A B∧qN A=M)->∃d B,qP h (.ref a) d B∧d.canLay0=M
 |⟨A,B,D,E⟩=>(fV (.tuple A) _ (.tuple e N N (by simpa using D)) E)
theorem KJ:(∃d B,qP h v d B∧d.canLay0=M)->(∃A B,qO h C A B∧qN A=M)->∃A B,qO h (v::C) A B∧qN A=M
 |⟨d,B,D,E⟩,⟨A,I,F,H⟩=>(fV (d::A) _ (.cons D F) (by rw [qN,E,H];rfl))
theorem kH(g:dY (x::l)=M):x.dS=M∧dY l=M:=
 bE (z:=dY (x::l)) (i:=λz=>z=M->_) N (λA g=>⟨A,g⟩) (λY g=>nomatch g) g
theorem UC(C:P.ag h)(r:ar w c P v p):p.dS=M->∃d A,qP h v d A∧d.canLay0=M:=
 ar.rec (motive_1:=λv p Y=>p.dS=M->∃d A,qP h v d A∧d.canLay0=M) (motive_2:=λD l Y=>dY l=M->∃B A,qO h D B A∧qN B=M) (motive_3:=λY Y Y=>WF)
  (λY=>(fV _ _ .none N)) (λb Y=>(fV _ _ (.bool b) N)) (λi t Y=>(fV _ _ (.int i t) N)) (λp t o Y=>(fV _ _ (.str _ t) (Er o))) (λe Y Y E g=>WJ (C _ _ e) (E g)) (λY Y Y Y g=>bY g) (λY Y Y Y Y g=>bY g) (λY g=>bY g)
  (λY=>(fV [] _ .nil N)) (λY Y i j g=>KJ (i (kH g).1) (j (kH g).2)) tt (λY Y Y Y Y=>tt) r
theorem Ud(B:P.ag h):∀{l:W PV} {v:W bm},bH w c P v l->dY l=M->∃A C,qO h v A C∧qN A=M:=λ{l}=>no_implicit_lambda% (cB l (@λv r Y=>eR (show v=[] from r.I) (fV [] _ .nil N)) λY l D {v} r g=>bX r.I λY Y q E F=>q▸KJ (UC B E (kH g).1) (D F (kH g).2))
noncomputable def H8(h:li)(v C:bm)(k:an):Prop:=(∃(x y:sK bm) (a b:be),v=.ref a∧C=.ref b∧h.IsList a x∧h.IsList b y∧(x.size !=y.size)=M∧k=bn)∨
  ∃A B D E,qP h v A D∧qP h C B E∧A.canLay0=M∧B.canLay0=M∧Fa A.depth B.depth≤2∧Tk A B=k
theorem aeF(C:P.ag h)(D:ar w c P v a)(E:ar w c P F b)(e:md a b=O k):H8 h v F k:=
 bX (Es C D E e) λH I A B J=>A.mW.elim λL R=>B.mW.elim λS U=>.inr ⟨H,I,L,S,R,U,A.kB,B.kB,(io (ym _ _) (io A.wZ (by decide))),J⟩
theorem tF.E{a b:PV}{k:an}{G:PV->PV->an->Prop}(e:tF a b=O k)(A:∀a b,md a b=O k->G a b k)(C:∀l m,pi l.length m.length=M->tv l m=O k->G (.aj l) (.aj m) k)(D:∀l m,pi l.length m.length=bn->G (.aj l) (.aj m) bn)
  (F:∀x l,dY (x::l)=M->G (.af (x::l)) (.af []) bn):G a b k:=by
 cases a with
 |aj l=>
  cases b with
  |aj m=>
   cases B:pi l.length m.length with
   |true=>exact C l m B ((lc (λb=>bif b then tv l m else O bn) B.symm).trans e)
   |false=>exact ii ((lc (λb=>bif b then tv l m else O bn) B.symm).trans e)▸D l m B
  |_=>exact A _ _ e
 |af l=>
  cases l with
  |nil=>exact A _ _ e
  |cons x l=>
   cases b with
   |af m=>
    cases m with
    |nil=>exact gd.E e λH q=>ii q▸F x l H
    |cons y m=>exact A _ _ e
   |_=>exact A _ _ e
 |_=>exact A _ _ e
theorem Lo(B:P.ag h)(C:ar w c P v a)(D:ar w c P U b)(e:tF a b=O k):H8 h v U k:=by
 revert C D
 refine tF.E (G:=λa b k=>ar w c P v a->ar w c P U b->H8 h v U k) e (λa b e C D=>aeF B C D e) (λl m Y e C D=>?_) (λl m o C D=>?_) λx l y C D=>?_
 ·refine cw C.I λa f n E J H Y=>cw D.I λb R j A I L Y=>bX (KI B H L e) λZ es F S h3=>F.mW.elim λas h4=>S.mW.elim λbs h5=>?_
  exact eR E (eR A (.inr ⟨.list Z,.list es,_,_,(.list (B _ _ J) N N (by simpa using h4)),(.list (B _ _ I) N N (by simpa using h5)),F.kB,S.kB,io (ym _ _) (v7 F.wZ),(by rw [Tk];exact h3)⟩))
 ·refine cw C.I λa f n E J H Y=>cw D.I λb R j A I L Y=>.inl ⟨_,_,a,b,E,A,cq _ (B _ _ J) N ⟨_,N⟩,cq _ (B _ _ I) N ⟨_,N⟩,?_,N⟩
  refine eR wP (eR wP (eR H.bO (eR L.bO ?_)))
  simpa using Nat.ne_of_beq_eq_false o
 ·refine cw C.I λa f n E J H Y=>cw D.I λb R j A I L Y=>eD (Ud B H y) λZ as F S=>?_
  have e0:R=[]:=L.I
  refine eR E (eR A ?_)
  rw [e0]at I
  refine .inr ⟨.tuple Z,.tuple [],_,_,(.tuple (B _ _ J) N N (by simpa using F)),.tuple (B _ _ I) N N .nil,S,N,(io (vX _ _) (by decide)),bX H.I λv R E Y Y=>?_⟩
  rw [E]at F
  cases F
  rfl
theorem acu(B:P.ag s.heap)(C:A.units+3<NE)(D:ar w c P v a)(E:ar w c P F b)(e:tF a b=O k):
  bV w c A P s (Tl .Eq v F) (.aJ k):=
 (Lo B D E e).elim (λh=>C_ h λx y a b q H I J L R=>eR q (eR H (eR R (eq_list_lengthsAt I J L (by exact L2 199453607480 N C) (ay P (bq.bQ B) (.aJ _))))))
  λh=>C_ h λi j l m S U Y Z d f=>compareEq_reads S U Y Z (W1 (qI (MC d) _) C) (ay P (bq.bQ B) (f▸.aJ _))
theorem acv(B:P.ag s.heap)(C:A.units+3<NE)(D:ar w c P v a)(E:ar w c P F b)(e:tF a b=O k):
  bV w c A P s (Tl .NotEq v F) (.aJ (!k)):=
 (Lo B D E e).elim (λh=>C_ h λx y a b q H I J L R=>eR q (eR H (eR R (RcNeAt.lists_lengths I J L (by exact L2 199453607480 N C) _ _ _ _ (ay P (bq.bQ B) (.aJ _))))))
  λh=>C_ h λi j l m S U Y Z d f=>compareNe_reads S U Y Z (W1 (qI (MC d) _) C) (ay P (bq.bQ B) (f▸.aJ _))
theorem Lp(Z:P.ag h):∀{l:W PV} {C:W bm} {k:an},ar w c P v a->bH w c P C l->mf a l=O k->l≠[]->
  ∃d B,ji h v a d∧ng h C l B∧(B.any λy=>Tk y d)=k:=λ{l}=>no_implicit_lambda% (cB l (@λY Y Y Y Y D=>nw N D) λq l f {C} {k} H r e Y=>by
  refine bX r.I λz j o r1 I=>o2.E e λx y hp J A=>bX (Es Z r1 H hp) λL da R S U=>eR o ?_
  cases l with
  |nil=>
   exact eR (show j=[] from I.I) (eL A (eL (ii J) (d_ da [L] S (.bg R .aU) (by simp [U]))))
  |cons q2 l=>
   refine bX (f H I J (List.cons_ne_nil _ _)) λd B E h5 h6=>E.mW.elim λas hd=>S.mW.elim λbs F=>?_
   exact (d_ d (L::B) E (.bg R h5) (eR ue (eR h6 (eR (Reads.unique d _ _ _ _ E.kB hd F) (eR U A))))))
end
section
variable{w:lw}{d:W (be×be)}{A:pc}{P:PM}{s:ce}
theorem bV.bU(h:bV w d A P s t r)(k:∀v B C,bq P s C B->ar w d C v r->Q v B):ca (cr pw w) A t Q E s:=
 ss h (λv B ⟨C,x,y⟩=>k v B C x y) λY Y f=>f.elim
theorem Lq(B:P.ag s.heap)(h:ar w d P v r):bV w d A P s (re v) r:=lf (ay P (bq.bQ B) h)
theorem Tw(B:kt)(o i:bm):∃C,subscripted B bn o i=operate C (uc o i):=by
 cases B with
 |Slice a b c p=>cases c<;>exact ⟨_,N⟩
 |_=>exact ⟨_,N⟩
theorem t7{C B:kt}{T L:IN}(H:s.TypeIs o T)(R:typeLookup (.type T) "__getitem__" =re (O (.builtin L)))(h:bV w d A P s (uc o i) r):
  bV w d A P s (v8 C B o i) r:=by
 obtain ⟨S,U⟩:=Tw B o i
 unfold bV v8
 refine dL (eR (getitemInPython_of_ne H.not_modules) (dL (MD H R ?_)))
 have E:ca (cr pw w) A (subscripted B bn o i) (λI D=>ca (cr pw w) A (letTemporaryGo C o I>>=λY=>re I) (λv Z=>∃J,bq P s J Z∧ar w d J v r) (λY Y=>wn) D) (λY Y=>wn) s:=eR U (wpAny_operating (ss h (λr D F=>dL (YU (lf F))) λY Y x=>x))
 first
  |exact lf (dL E)
  |exact wpAny_bind (wpAny_pure (wpAny_bind E))
  |exact wpAny_bind E
theorem VE{x p:PS}{q:PV}{l:W (PS×PV)}:gk ((x,q)::l) p=if x=p then O q else gk l p:=by
 by_cases e:x=p
 ·exact (cT e).trans (jp e).symm
 ·exact (cF e).trans (f0 e).symm
theorem qD{x y:f8}{v:bm}{l:W (f8×bm)}:Rs ((x,v)::l) y=if x=y then O v else Rs l y:=by
 unfold Rs
 refine eR (List.find?_cons) ?_
 by_cases e:x=y
 ·rw [FB e,jp e];rfl
 ·exact eR (EQ e) (eR (f0 e) N)
theorem Ke{P:PM}{p:PS}(o:jN p=M):∀{l:W (PS×PV)} {B:W (f8×bm)},dx w d P B l->
  (∀r,gk l p=O r->∃v,Rs B (dJ p)=O v∧ar w d P v r)∧(gk l p=am->Rs B (dJ p)=am):=λ{l}=>no_implicit_lambda% (gV l (@λB h=>eR (show B=[] from h.I) ⟨λr e=>aH e,λY=>N⟩) λx q l C {B} h=>by
  refine qm h.I λv I D E F H=>eR D (eR VE (eR qD ?_))
  by_cases e:x=p
  ·exact eR (jp e) (eR (jp (lc dJ e)) ⟨λr h=>(ay v N (ii h▸F)),λh=>Dc h⟩)
  ·exact eR (f0 e) (eR (f0 λq=>e (GJ E o q)) (C H)))
theorem qF:(AT pw w).is (dJ p) (.str (dJ p) t)=M:=by
 refine (?_:uf (.str (dJ p) t) (dJ p)=M)
 simp [uf]
theorem WK{x:f8}{k c:X}(e:x.cps.toList[k]? =O c):yq (n5 k) x.length=O k∧x.cps[k]? =O c:=by
 have B:k<x.cps.toList.length:=by
  rcases n6 k x.cps.toList.length with h|h
  ·exact h
  ·exact QT (YV h) e
 exact ⟨HK (f0 (qL.mpr (pE k))) (by simpa [Str.length] using B),by simpa using e⟩
theorem eN.E{v i r:PV}{G:PV->PV->Prop}(e:eN v i=O r)(B:∀l j,(jh l.length j).bind (aY l)=O r->G (.af l) (.ab j))(C:∀l j,(jh l.length j).bind (aY l)=O r->G (.aj l) (.ab j))(D:∀l p,gk l p=O r->G (.a8 l) (.ae p))
  (F:∀c k x,u8 k 100=M->(aZ c).cps.toList[k]? =O x->r=.ae (.aA (x+1))->G (.ae (.aA c)) (.ab (.ofNat k))):G v i:=by
 cases v with
 |af l=>cases i<;>first|exact aH e|exact B _ _ e
 |aj l=>cases i<;>first|exact aH e|exact C _ _ e
 |a8 l=>cases i<;>first|exact aH e|exact D _ _ e
 |ae p=>
  cases p with
  |aA c=>
   cases i with
   |ab k=>
    cases k with
    |ofNat k=>exact gd.E e λH q=>aQ (On.mp q) λx I e=>F c k x H I e.symm
    |negSucc k=>exact aH e
   |_=>exact aH e
  |jz c k=>exact aH e
 |_=>exact aH e
theorem aat{c k x:X}(D:jg c=M)(C:(aZ c).cps.toList[k]? =O x):aZ (x+1)=⟨#[x]⟩∧jg (x+1)=M:=by
 have B:x<128:=B4 c x (E6 C)
 have E:aZ (x+1)=⟨#[x]⟩:=by
  have H:=Ny (x:=⟨#[x]⟩) (by intro y F;simp at F;exact F▸B)
  rwa [show aW ⟨#[x]⟩=x+1 from(lc (· +(x+1)) (Bh _)).trans (sq _)]at H
 refine ⟨E,?_⟩
 unfold jg
 refine eR E ?_
 have I:x≠39:=λq=>y0 (y1 D) (q▸E6 C)
 have J:x<0x110000:=by
  have:=Ep D
  unfold sC at this
  rw [←MA,Do]at this
  simpa using this x (E6 C)
 exact KM.mpr ⟨KM.mpr ⟨show(![x].contains 39)=M by simp [SB I],by simp [sC,J]⟩,N⟩
theorem aau(E:P.ag s.heap){o i:bm}(C:ar w d P o a)(D:ar w d P i b)(e:eN a b=O r):
  bV w d A P s (v8 F H o i) r:=by
 revert C D
 refine eN.E (G:=λa b=>ar w d P o a->ar w d P i b->bV w d A P s (v8 F H o i) r) e (λl j e C D=>?_) (λl j e C D=>?_) (λl p e C D=>?_) λc k x L S e C D=>?_
 ·refine cw C.I λa f n I J Y Y=>je D.I λt B=>?_
  rw [I]at C⊢
  exact eR B (t7 (ay _ (E _ _ J) N) E7.lookup (Ub E C e))
 ·refine cw C.I λa f n I J Y Y=>je D.I λt B=>?_
  rw [I]at C⊢
  exact eR B (t7 (ay _ (E _ _ J) N) YW.lookup (TP E C e))
 ·refine rE C.I λa ob h I J m y Y=>aQ D.I λt B R=>aQ ((Ke R y).1 r e) λv hv hr=>?_
  have U:=m.2.2 _ (E _ _ J)
  exact eR I (eR B (t7 U.typeIs YX.lookup (wpAny_getItem_of qF U.mapOf hv (ay P (bq.fB E _) hr))))
 ·refine aQ C.I λt I R=>je D.I λt' B=>?_
  have D:=WK S
  have Z:=aat R S
  have L:=ww L
  refine eR I (eR B (eR e (t7 (typeIs_str s _ t) slot_str_getitem.lookup (getItem_str (c:=x) ?_ ?_ (ay P (bq.fB E _) (Z.1▸.ae (.aA (x+1)) _ Z.2))))))
  ·rw [YY];exact ⟨EQ (qL.mpr (qK (by decide) (pE k))),EQ (Int.not_le.mpr (EU (sr.mpr L) (by decide)))⟩
  ·refine (?_:(yq (n5 k) (aZ c).length).bind _=_)
   rw [D.1];exact D.2
end
section
variable{w:lw}{i:W (be×be)}{A:pc}{P:PM}{s:ce}
theorem NB(h:bH w i P B []):B=[]:=h.I
theorem Eb(h:dx w i P B l)(o:jN p=M):(Rs B (dJ p)).isSome=(gk l p).isSome:=by
 have h:=Ke o h
 cases e:gk l p with
 |none=>rw [h.2 e];rfl
 |some r=>exact aQ (h.1 r e) λv C Y=>by rw [C];rfl
theorem adK(B:P.ag s.heap)(Z:A.units+4<NE)(f:ar w i P v a)(e:mf a l=O k)(h:ar w i P c (.af l)):
  bV w i A P s (Tl .In v c) (.aJ k)∧bV w i A P s (Tl .NotIn v c) (.aJ (!k)):=by
 refine cw h.I λb r n j D E Y=>eR j ?_
 by_cases I:l=[]
 ·rw [I]at E e
  rw [NB E]at D
  have J:s.heap.IsTuple b (([]:W bm).toArray):=(cq _ (B _ _ D) N ⟨_,N⟩)
  exact eL (ii e) ⟨in_tupleAt (λY=>bn) J (by simp) (ay P (bq.bQ B) (by simpa using ar.aJ _)),notIn_tupleAt (λY=>bn) J (by simp) (ay P (bq.bQ B) (by simpa using ar.aJ _))⟩
 ·refine bX (Lp B f E e I) λd F C H L=>C.mW.elim λt R=>H.mW.elim λm o=>?_
  have S:qP s.heap (.ref b) (.tuple F) m:=.tuple (B _ _ D) N N (by simpa using o)
  have U:A.units+1+Fa (ud F) d.depth<NE:=by have:=vX (ud F) d.depth;have:=C.wZ;exact Qo Z this
  exact ⟨in_tuple_reads S R H.kB C.kB U (ay P (bq.bQ B) (L▸.aJ _)),notIn_tuple_reads S R H.kB C.kB U (ay P (bq.bQ B) (L▸.aJ _))⟩
theorem acw(B:P.ag s.heap)(Z:A.units+4<NE)(f:ar w i P v a)(e:mf a l=O k)(h:ar w i P c (.aj l)):
  bV w i A P s (Tl .In v c) (.aJ k)∧bV w i A P s (Tl .NotIn v c) (.aJ (!k)):=by
 refine cw h.I λb r n j D E Y=>eR j ?_
 by_cases I:l=[]
 ·rw [I]at E e
  rw [NB E]at D
  have J:s.heap.IsList b (([]:W bm).toArray):=(cq _ (B _ _ D) N ⟨_,N⟩)
  exact eL (ii e) ⟨in_listAt (λY=>bn) J (by simp) (ay P (bq.bQ B) (by simpa using ar.aJ _)),notIn_listAt (λY=>bn) J (by simp) (ay P (bq.bQ B) (by simpa using ar.aJ _))⟩
 ·refine bX (Lp B f E e I) λd F C H L=>C.mW.elim λt R=>H.mW.elim λm o=>?_
  have S:qP s.heap (.ref b) (.list F) (b::m):=.list (B _ _ D) N N (by simpa using o)
  have U:A.units+1+Fa (ud F) d.depth<NE:=by have:=vX (ud F) d.depth;have:=C.wZ;exact Qo Z this
  exact ⟨in_list_reads S R H.kB C.kB U (ay P (bq.bQ B) (L▸.aJ _)),notIn_list_reads S R H.kB C.kB U (ay P (bq.bQ B) (L▸.aJ _))⟩
theorem NC(h:ar w i P v a):(v==.none)=xr a:=by
 cases h<;>rfl
set_option tactic.hygienic true in
theorem VF:∀{B:W bm},bH w i P B l->lS l=M->∃C,ItemsAre (AT pw w) C B:=by
 induction l with
 |nil=>intro B r _;rw [show B=[] from r.I];exact ⟨[],.nil⟩
 |cons q l D=>
  intro B r h
  cases q
  case ae p=>exact bX r.I λv J E F H=>aQ F.I λt q Y=>(D H h).elim λC I=>E▸q▸⟨dJ p::C,.cons (strKind_is pw w (dJ p) t) I⟩
  all_goals exact bY h
theorem Oc(C:P.ag s.heap)(r:ar w i P v (.af l))(h:lS l=M):∃a B,v=.ref a∧IsTupleKey (AT pw w) s.heap B a:=
 cw r.I λa Y Y D E F Y=>(VF F h).elim λB H=>(fV a B D (gB _ _ _ (C _ _ E) N N (by simpa using H)))
theorem KL{h:li}(x:h.DictOf (AT pw w) a []):h.DictOfH (E8 (AT pw w)) a []:=by
 obtain ⟨o,B,F,H,C,I,_,E,_⟩:=x
 have J:B.toList=[]:=by
  cases D:B.toList with
  |nil=>rfl
  |cons e r=>rw [D]at E;cases E
 exact ⟨o,B,F,H,C,I,J,(λx C=>by cases C),sy⟩
theorem xt.E{k:an}{G:PV->PV->an->Prop}(e:xt a b=O k)(B:∀l,mf a l=O k->G a (.af l) k)(C:∀l,mf a l=O k->G a (.aj l) k)(D:∀p l,G (.ae p) (.a8 l) (gk l p).isSome)(F:∀t,lS t=M->G (.af t) (.a8 []) bn):G a b k:=by
 cases b with
 |af l=>exact B l e
 |aj l=>exact C l e
 |a8 l=>
  cases a with
  |ae p=>exact ii e▸D p l
  |af t=>
   cases l with
   |nil=>exact gd.E e λh q=>ii q▸F t h
   |cons x l=>exact aH e
  |_=>exact aH e
 |_=>exact aH e
theorem Od(D:P.ag s.heap)(L:A.units+4<NE){a b:PV}{k:an}(B:ar w i P v a)(C:ar w i P F b)(e:xt a b=O k):
  bV w i A P s (Tl .In v F) (.aJ k)∧(zu a b=M->bV w i A P s (Tl .NotIn v F) (.aJ (!k))):=by
 revert B C
 refine xt.E (G:=λa b k=>ar w i P v a->ar w i P F b->bV w i A P s (Tl .In v F) (.aJ k)∧(zu a b=M->bV w i A P s (Tl .NotIn v F) (.aJ (!k)))) e (λl e B C=>?_) (λl e B C=>?_) (λp l B C=>?_) λt U B C=>?_
 ·exact (adK D L B e C).imp id λh Y=>h
 ·exact (acw D L B e C).imp id λh Y=>h
 ·refine aQ B.I λt q o=>rE C.I λb Z H R S E J Y=>?_
  have I:=(E.2.2 _ (D _ _ S)).mapOf
  exact eR q (eR R ⟨wpAny_in_of qF E.1 I (ay P (bq.fB D _) (Eb J o▸.aJ _)),λY=>wpAny_notIn_of qF E.1 I (ay P (bq.fB D _) (Eb J o▸.aJ _))⟩)
 ·refine eD (Oc D B U) λc d q f=>rE C.I λb Z H R S E J Y=>?_
  have I:=E.2.2 _ (D _ _ S)
  rw [show H=[] from J.I]at I
  exact eR q (eR R ⟨wpAny_in_heap (knd:=E8 (AT pw w)) (k:=d) (YZ (L2 0xb90bf05c8658 N L)) f E.1 (KL I) (ay P (bq.fB D _) (.aJ _)),λh=>bY h⟩)
theorem A9(F:∀x y t u,f x y=O k->bV w i A P s (Tl E (.int x t) (.int y u)) (.aJ k))(B:ar w i P v a)(C:ar w i P D b)(e:lY a b f=O k):bV w i A P s (Tl E v D) (.aJ k):=by
 revert B C
 exact lY.E (G:=λa b=>ar w i P v a->ar w i P D b->bV w i A P s (Tl E v D) (.aJ k)) e λx y h B C=>je B.I λt q=>je C.I λu H=>eR q (eR H (F x y t u h))
theorem OT(h:xr a=M):a=.bG:=by cases a<;>first|rfl|exact bY h
theorem aav(C:P.ag s.heap)(H:A.units+4<NE)(D:ar w i P v a)(B:ar w i P I b)(e:p_ L a b=O k):
  bV w i A P s (Tl L v I) (.aJ k):=by
 have E:∀{k j:an},k=j->ar w i P (.bool k) (.aJ j):=λh=>h▸.aJ _
 cases L with
 |Eq=>exact acu C (L2 0xb90c705c8658 N H) D B e
 |NotEq=>exact aQ (On.mp e) λR J q=>q▸acv C (L2 0xb90c705c8658 N H) D B J
 |Lt=>exact A9 (λx y t u h=>PyProof.Rows.lt_int (ay P (bq.bQ C) (E (ii h)))) D B e
 |LtE=>exact A9 (λx y t u h=>PyProof.Rows.le_int (ay P (bq.bQ C) (E (ii h)))) D B e
 |Gt=>exact A9 (λx y t u h=>PyProof.Rows.gt_int (ay P (bq.bQ C) (E (ii h)))) D B e
 |GtE=>exact A9 (λx y t u h=>PyProof.Rows.ge_int (ay P (bq.bQ C) (E (ii h)))) D B e
 |Is=>
  refine gd.E e λF q=>?_
  rw [OT F]at B
  exact eR (show I=_ from B.I) (is_none (ay P (bq.bQ C) (E ((NC D).trans (ii q)))))
 |IsNot=>
  refine gd.E e λF q=>?_
  rw [OT F]at B
  exact eR (show I=_ from B.I) (isNot_none (ay P (bq.bQ C) (E ((lc (!·) (NC D)).trans (ii q)))))
 |In=>exact (Od C H D B e).1
 |NotIn=>exact gd.E e λF q=>aQ (On.mp q) λR J q=>q▸(Od C H D B J).2 F
theorem Et(F:∀x y t u,f x y=O r->bV w i A P s (pH E (.int x t) (.int y u)) r)(B:ar w i P v a)(C:ar w i P D b)(e:lY a b f=O r):bV w i A P s (pH E v D) r:=by
 revert B C
 exact lY.E (G:=λa b=>ar w i P v a->ar w i P D b->bV w i A P s (pH E v D) r) e λx y h B C=>je B.I λt q=>je C.I λu H=>eR q (eR H (F x y t u h))
theorem CR.E{a b r:PV}{G:PV->PV->PV->Prop}(e:CR a b=O r)(B:∀x y,G (.ab x) (.ab y) (.ab (x+y)))(C:∀l m,l.length+m.length≤4096->G (.af l) (.af m) (.af (l++m)))(D:∀l m,l.length+m.length≤4096->G (.aj l) (.aj m) (.aj (l++m))):G a b r:=by
 cases a<;>first
  |exact aH e
  |(cases b<;>first
   |exact aH e
   |exact ii e▸B _ _
   |exact gd.E e λh q=>ii q▸C _ _ (ww h)
   |exact gd.E e λh q=>ii q▸D _ _ (ww h))
theorem aaw(D:P.ag s.heap){F:Bn}{a b r:PV}(B:ar w i P v a)(C:ar w i P H b)(e:ko F a b=O r):
  bV w i A P s (pH F v H) r:=by
 cases F with
 |Add=>
  revert B C
  refine CR.E (G:=λa b r=>ar w i P v a->ar w i P H b->bV w i A P s (pH .Add v H) r) e (λx y B C=>je B.I λt q=>je C.I λu E=>?_) (λl m I B C=>?_) λl m I B C=>?_
  ·rw [q,E];exact Uu D
  ·refine cw B.I λa Y Y q Y Y Y=>cw C.I λb Y Y E Y Y Y=>?_
   rw [q]at B⊢;rw [E]at C⊢
   exact Uy D B C I
  ·refine cw B.I λa Y Y q Y Y Y=>cw C.I λb Y Y E Y Y Y=>?_
   rw [q]at B⊢;rw [E]at C⊢
   exact Uc D B C I
 |Sub=>exact Et (λx y t u h=>ii h▸Uv D) B C e
 |Mult=>exact Et (λx y t u h=>gd.E h λh q=>ii q▸Ux D h) B C e
 |Mod=>exact Et (λx y t u h=>gd.E h λh q=>ii q▸Uw D (ut h)) B C e
 |_=>exact aH e
end
section
variable{a b:Type}{d:Model}{A:pc}{Q:a->ce->Prop}{R:b->ce->Prop}{E:bm->ce->Prop}{s:ce}{c:Prop} [i:Mg c]{x y:wE a}{f:a->wE b}
theorem mV(h:c)(k:ca d A x Q E s):ca d A (if c then x else y) Q E s:=by rw [jp h];exact k
theorem gA(h:¬c)(k:ca d A y Q E s):ca d A (if c then x else y) Q E s:=by rw [f0 h];exact k
theorem aeG(k:ca d A z R E s)(h:ca d A z R E s->ca d A g R E s):ca d A (if c then g else z) R E s:=by
 by_cases B:c
 ·rw [jp B];exact h k
 ·rw [f0 B];exact k
end
section
variable{d c:Type}{e:Model}{A:pc}{R:c->ce->Prop}{E:bm->ce->Prop}{s:ce}{a:be}{o:Db}{v:bm}{T U:IN}
theorem kS(h:ca e A (f x) R E s):ca e A (re x>>=f) R E s:=dL (lf h)
theorem jZ(B:s.heap.get? a=O o)(C:o.data=.fields D)(F:D[i]? =O x)(h:ca e A (f x) R E s):ca e A (sE (.ref a) i>>=f) R E s:=dL (wpAny_field B C F h)
theorem nW(C:s.heap.get? a=O o)(D:o.data=.seq B n)(h:ca e A (f (O B)) R E s):ca e A (seqItems? (.ref a)>>=f) R E s:=dL (wpAny_seqItems C D h)
theorem uV(h:ca e A (f ()) R E s):ca e A (rule B>>=f) R E s:=dL (wpAny_rule h)
theorem gS(h:ca e A (f ()) R E s):ca e A (qQ pos>>=f) R E s:=dL (wpAny_standAt h)
theorem uJ(B:s.TypeIs v T)(h:ca e A (f (.type T)) R E s):ca e A (Bt v>>=f) R E s:=dL (wpAny_typeOf B h)
theorem GL(h:ca e A (f ()) R E s):ca e A (letGo x y>>=f) R E s:=dL (wpAny_letGo h)
theorem D4(B:s.TypeIs v T)(k:isSubtype (.type T) (.type U)=re b)(h:ca e A (f b) R E s):ca e A (isInstance v (.type U)>>=f) R E s:=dL (wpAny_isInstance B k h)
theorem gy(h:ca e A m (λa B=>ca e A (f a) R E B) E s):ca e A (mI C m>>=f) R E s:=dL (sF h)
end
section
variable{e:Type}{w:lw}{b:EY}{A:pc}{R:e->ce->Prop}{E:bm->ce->Prop}{s:ce}{a:be}{o:Db}{c:sK (al×bm)}{d:X}{t:qR}
theorem pA(B:s.heap.get? a=O o)(C:o.data=.set c d t)(D:t.fits c.size=M)(h:ca (cr b w) A (f (c,d,t)) R E s):ca (cr b w) A (setState a>>=f) R E s:=dL (wpAny_setState_of B C D h)
theorem DZ(B:s.heap.get? a=O o)(C:o.data=.set c d t)(D:t.fits c.size=M)(h:ca (cr b w) A (f c) R E s):ca (cr b w) A (setEntries a>>=f) R E s:=dL (wpAny_setEntries_of B C D h)
theorem vP(F:s.heap.get? a=O {cls:=B,dict:=am,data:=.fields D,slots:=#[]})(H:k<D.size)
  (h:∀C,C.get? a=O {cls:=B,dict:=am,data:=.fields (D.setIfInBounds k x),slots:=#[]}->ug a s.heap C->ca (cr b w) A (f ()) R E {s with heap:=C}):ca (cr b w) A (setField (.ref a) k x>>=f) R E s:=dL (E9 F H h)
end
section
variable{w:lw}{f:W (be×be)}{A:pc}{P:PM}{s:ce}
noncomputable def rm(n k d:X)(B:im al):Prop:=match B with
 |none=>k=d
 |some i=>(if i<0 then wT (i+(n:al)) 0 else Fa i (n:al))=(k:al)
theorem jK.E{n d k:X}{G:PV->X->Prop}(e:jK n d p=O k)(B:G .bG d)(C:∀i j,jh n i=O j->G (.ab i) (Fa j n)):G p k:=by
 cases p<;>first
  |exact aH e
  |exact ii e▸B
  |exact aQ (On.mp e) λj h q=>q▸C _ j h
theorem BQ{n d k:X}{p:PV}(r:ar w f P v p)(e:jK n d p=O k)(C:d≤n):∃B,Bu v B∧k≤n∧rm n k d B:=by
 revert r
 refine jK.E (G:=λp k=>ar w f P v p->∃B,Bu v B∧k≤n∧rm n k d B) e (λr=>?_) λi j D r=>je r.I λt q=>?_
 ·rw [show v=_ from r.I];exact (cq am .none C N)
 ·refine eR q (cq (O i) (.int i t) (vX _ _) (jh.E (G:=λi j=>rm n (Fa j n) d (O i)) D ?_ λa E=>?_))
  ·exact (f0 (qL.mpr (pE j))).trans (af4)
  ·obtain ⟨m,rfl⟩:=Yv E
   exact (jp (E4 a)).trans ((lc (wT · 0) (Yw:_=(m:al))).trans ((Int.max_eq_left (pE m)).trans (lc Nat.cast ((lc (Fa · (a+1+m)) (Ml ..)).trans (ER (E' ..))).symm)))
theorem Oe{n a:X}{i:al}(h:(if i<0 then wT (i+(n:al)) 0 else Fa i (n:al))=(a:al)):wT 0 (Fa (if i<0 then i+(n:al)else i) (n:al))=(a:al):=by
 by_cases c:i<0
 ·rw [jp c]at h⊢
  exact (lc (wT 0) (YH (qK (Int.add_le_add_right (ME c) _) (EV (E_ _))))).trans ((Int.max_comm ..).trans h)
 ·rw [f0 c]at h⊢
  exact (Int.max_eq_right (h.symm▸pE a)).trans h
theorem WL{n a b:X}{B C:im al}(D:rm n a 0 B)(E:rm n b n C):MF B C am n=((a:al),(b:al),1):=by
 simp only [MF,MG,show(1:al)>0 by decide,qS]
 congr 1
 ·cases B with
  |none=>exact af5 D
  |some i=>exact Oe D
 ·congr 1
  cases C with
  |none=>exact af6 E
  |some i=>exact Oe E
theorem WM{n a b:X}{B C:im al}(D:rm n a 0 B)(E:rm n b n C):MH B C 1 (n:al)=((a:al),(b:al)):=by
 unfold MH
 simp only [show¬((1:al)<0) by decide,pK]
 congr 1
 ·cases B with
  |none=>rw [show a=0 from D];rfl
  |some i=>exact D
 ·cases C with
  |none=>rw [show b=n from E]
  |some i=>exact E
theorem WN(a b:X):Fb (a:al) (b:al) 1=b-a:=by
 unfold Fb
 simp only [show(1:al)>0 by decide,qS,Int.ediv_one]
 by_cases c:(a:al)<b
 ·exact (lc Mx ((jp c).trans (Int.sub_add_cancel ..))).trans (Int.toNat_sub ..)
 ·exact (lc Mx (f0 c)).trans (Nat.sub_eq_zero_of_le (sr.mp (qL.mp c))).symm
theorem Kf(B:Bu v k)(h:Q k s):ca (cr pw w) A (Builtin.Slice.slicePartIndex v) Q E s:=by
 cases B with
 |none=>exact slicePart_none h
 |int i t=>exact slicePart_int h
theorem acy(B:sK bm)(a b:X):((mJ (b-a)).filterMap λ(k:X)=>B[((a:al)+(k:al)*1).toNat]?).toArray=((B.toList.take b).drop a).toArray:=by
 have e:(λ(k:X)=>B[((a:al)+(k:al)*1).toNat]?)=λk=>B[a+k]? :=by
  funext k
  have:((a:al)+(k:al)*1).toNat=a+k:=lc (λz=>((a:al)+z).toNat) (Y0 (k:al))
  exact eR this N
 refine eR e ?_
 have:=pick_run B a (b-a)
 rw [Y1]at this
 have C:((λx=>B[x]?)∘λx=>a+x)=λk=>B[a+k]? :=N
 rw [C]at this
 exact eR this (eR Y2 N)
theorem WO{R:be}{n a b:X}{D F:im al}{Q:al×al×X->ce->Prop}{E:bm->ce->Prop}(Z:s.heap.IsSliceOf R S U .none)(H:Bu S D)(I:Bu U F)(J:rm n a 0 D)(L:rm n b n F)(h:Q ((a:al),1,b-a) s):
  ca (cr pw w) A (Y3 (.ref R) (re ((n:X):al))) Q E s:=by
 refine dk Z λc B Y C=>?_
 unfold Y3 Builtin.Slice.sliceFields
 refine dL (jZ B C (x:=S) N (jZ B C (x:=U) N (jZ B C (x:=.none) N (lf (dL (slicePart_none (?_:ca _ _ (if((1:al)==0)=M then _ else _) _ _ s)))))))
 refine gA (by decide) ?_
 refine dL (Kf H (dL (Kf I (kS (?_:ca _ _ (match MH D F 1 ((n:X):al)with|(D,F)=>re (D,(1:al),Fb D F 1)) _ _ s)))))
 refine eR (WM J L) (?_:ca _ _ (re ((a:al),(1:al),Fb (a:al) (b:al) 1)) _ _ s)
 exact eR (WN ..) (lf h)
theorem GN{B:Type}{l:W B}{a b:X}(h:l.length≤4096):((l.take b).drop a).length≤4096:=eR List.length_drop (eR Y4 (io (n7 _ _) (io (vX _ _) h)))
theorem TQ(R:P.ag s.heap)(h:ar w f P (.ref t) (.af l))(i:ar w f P vl pl)(j:ar w f P vu pu)(S:s.heap.IsSliceOf r vl vu .none)
  (y:jK l.length 0 pl=O a) (eb:jK l.length l.length pu=O b):bV w f A P s (uc (.ref t) (.ref r)) (.af ((l.take b).drop a)):=by
 refine cw h.I λt' C n hq ha hl hn=>?_
 obtain rfl:=Os hq
 have B:=hl.bO
 refine dk (BQ i y (Gc _)) λlo F hka H=>dk (BQ j eb (ul _)) λhi I hkb J=>?_
 have L:IsTup s.heap t C.toArray:=(cq _ (R _ _ ha) N ⟨_,N⟩)
 have U:s.TypeIs (.ref r) "slice" :=dk S λos Z c Y=>(ay os Z c)
 have d:=λ{A:pc} {Q:al×al×X->ce->Prop} {E:bm->ce->Prop}=>WO (w:=w) (A:=A) (Q:=Q) (E:=E) (n:=C.toArray.size) S F I (eR wP (eR B H)) (eR wP (eR B J))
 clear S F I H J i j y eb
 unfold bV uc
 try with_reducible refine sF ?_
 refine dL (wpAny_sequenceKey L.typeIs (by decide) ?_)
 refine dL (v9 (name:=to "__getitem__") L.typeIs E7
  (qT E7 L.typeIs entry_tuple_getitem ?_ (args_tuple_getitem _ _)))
 refine (?_:ca _ _ (Builtin.Tuple.tupleItemsOf (.ref t)>>=_) _ _ s)
 refine dL (tupleItemsOf_ L (uJ U ?_))
 refine mV (by decide) ?_
 refine dL (d (?_:ca _ _ (if((a:al)==0&&(1:al)==1&&(b-a)==C.toArray.size)=M then _ else _) _ _ s))
 by_cases D:((a:al)==0&&(1:al)==1&&(b-a)==C.toArray.size)=M
 ·refine mV D ?_
  simp only [mH,v_,wP,B]at D
  refine eR (show(l.take b).drop a=l by rw [show b=l.length from(lc (b-·) (Mr D.1.1)).symm.trans D.2,show a=0 from Mr D.1.1];exact List.take_length) ?_
  have e:Builtin.Tuple.tupleIsExact (.ref t)=(do return(←Bt (.ref t))==.type "tuple"):=N
  refine eR e (dL (uJ L.typeIs (lf ?_)))
  refine mV (by decide) ?_
  exact uV (lf (ay _ N (lf (ay P (bq.bQ R) h))))
 ·refine eR (f0 D ..) (eR (acy ..) ?_)
  have hz:sizeOk (.seq (((C.toArray).toList.take b).drop a).toArray):=by
   refine (?_:(((C.toArray).toList.take b).drop a).toArray.size≤E0)
   exact eR (wP ..) (io (GN (by refine (?_:C.length≤_);rw [B];exact hn)) f6)
  have x:=bq.oE (o:=f_ ((C.take b).drop a).toArray 0) R N s.toks
  exact dL (m:=Builtin.Tuple.tupleExact _) (uh (lf (ay _ N (lf (ay _ x (.af (vs:=(C.take b).drop a) (n:=0) (PM.ir ..) (((hl.Qz b).CQ a).bU x.le) (GN hn)))))) hz)
theorem UD{a b:X}{C D:im al}(h:MF C D am B.size=((a:al),(b:al),1)):slicePick B C D am=((B.toList.take b).drop a).toArray:=by
 unfold slicePick
 refine eR h ?_
 simp only [sliceRange_one,pick_run,Y2]
theorem Tx(I:P.ag s.heap){l:W PV}{a b:X}(R:ar w f P (.ref t) (.aj l))(S:ar w f P U Y)(Z:ar w f P c d)(e:s.heap.IsSliceOf h U c .none)
  (i:jK l.length 0 Y=O a) (j:jK l.length l.length d=O b):bV w f A P s (uc (.ref t) (.ref h)) (.aj ((l.take b).drop a)):=by
 refine cw R.I λt' C n m r J L=>?_
 obtain rfl:=Os m
 have B:C.toArray.size=l.length:=eR wP (eR J.bO N)
 refine dk (BQ S i (Gc _)) λlo D y E=>dk (BQ Z j (ul _)) λhi F hkb H=>?_
 have x:=bq.oE (o:=fM ((C.take b).drop a).toArray 0) I N s.toks
 refine wpAny_getItem_list_slice (cq _ (I _ _ r) N ⟨_,N⟩) e D F .none (by simp) ?_ (B▸io L f6)
 exact eR (UD (a:=a) (b:=b) (by rw [B];exact WL E H)) (ay _ x (.aj (vs:=(C.take b).drop a) (n:=0) (PM.ir ..) (((J.Qz b).CQ a).bU x.le) (GN L)))
@[reducible]noncomputable def zh(B C:bm):Db:={cls:=.type "slice",data:=.fields #[B,C,.none]}
theorem q_.E{v B C r:PV}{G:PV->PV->Prop}(e:q_ v B C=O r)(H:∀l a b,jK l.length 0 B=O a->jK l.length l.length C=O b->G (.af l) (.af ((l.take b).drop a)))(I:∀l a b,jK l.length 0 B=O a->jK l.length l.length C=O b->G (.aj l) (.aj ((l.take b).drop a))):G v r:=by
 cases v<;>first
  |exact aH e
  |exact o2.E e λa b D F q=>q▸H _ a b D F
  |exact o2.E e λa b D F q=>q▸I _ a b D F
theorem VG(Z:P.ag s.heap){B C:kt}{o E F:bm}{a d i r:PV}(D:ar w f P o a)(j:ar w f P E d)(m:ar w f P F i)(e:q_ a d i=O r):
  ca (cr pw w) A (v8 B C o (.ref s.heap.objs.size)) (λv I=>∃J,bq P s J I∧ar w f J v r) (λY Y=>wn) {s with heap:=s.heap.push (zh E F)}:=by
 have x:bq P s P {s with heap:=s.heap.push (zh E F),toks:=s.toks}:=bq.cv Z (kK _)
 have L:({s with heap:=s.heap.push (zh E F)}:ce).heap.IsSliceOf s.heap.objs.size E F .none:=Heap.IsSliceOf.new ..
 suffices h:bV w f A P {s with heap:=s.heap.push (zh E F)} (v8 B C o (.ref s.heap.objs.size)) r from h.bU λv I J y z=>(ay J (x.bD y) z)
 have H:=x.ag
 clear x Z
 revert D L H
 generalize s.heap.objs.size=c
 generalize ({s with heap:=s.heap.push (zh E F)}:ce)=I
 intro D L H
 revert D
 refine q_.E (G:=λa r=>ar w f P o a->bV w f A P I (v8 B C o (.ref c)) r) e (λl a b R S D=>?_) λl a b R S D=>?_
 ·refine cw D.I λt Y Y q U Y Y=>?_
  rw [q]at D⊢
  exact t7 (ay _ (H _ _ U) N) E7.lookup (TQ H D j m L R S)
 ·refine cw D.I λt Y Y q U Y Y=>?_
  rw [q]at D⊢
  exact t7 (ay _ (H _ _ U) N) YW.lookup (Tx H D j m L R S)
theorem Eu(h:n≤4096):((n:X):al)<2^63:=EU (sr.mpr h) (by decide)
theorem aax(B:P.ag s.heap)(r:ar w f P v a)(e:zI a=O n):bV w f A P s (po (.builtin "len") [v]) (.ab n):=by
 revert r
 refine zI.E (G:=λa n=>ar w f P v a->bV w f A P s (po (.builtin "len") [v]) (.ab n)) e (λl r=>?_) (λl r=>?_) λl r=>?_
 ·refine cw r.I λa F k q D C E=>?_
  have e:F.toArray.size=l.length:=eR wP (eR C.bO N)
  exact eR q (PySem.P.len_tuple (B _ _ D) (e▸by have:=Eu E;exact af7 this) (ay P (bq.fB B _) (e▸.ab _ _)))
 ·refine cw r.I λa F k q D C E=>?_
  have e:F.toArray.size=l.length:=eR wP (eR C.bO N)
  exact eR q (call_len_list (cq _ (B _ _ D) N ⟨_,N⟩) (e▸Eu E) (ay P (bq.fB B _) (e▸.ab _ _)))
 ·exact rE r.I λa o I q D H C E=>eR q (call_len_dict H.1 (H.2.2 _ (B _ _ D)) (C.bO▸Eu E) (ay P (bq.fB B _) (C.bO▸.ab _ _)))
theorem WQ(a:al):(if a<0 then-a else a)=(a.natAbs:al):=by
 by_cases c:a<0
 ·exact (jp c).trans (Int.ofNat_natAbs_of_nonpos (ME c)).symm
 ·exact (f0 c).trans (Int.natAbs_of_nonneg (qL.mp c)).symm
theorem aay(B:P.ag s.heap):bV w f A P s (po (.builtin "abs") [.int i t]) (.ab i.natAbs):=by
 refine call_abs_int λu C=>(ay P (bq.fB B _) ?_)
 rw [WQ];exact .ab _ _
theorem VH(B:P.ag s.heap)(r:ar w f P v (.aj l)):bV w f A P s (po (.type "tuple") [v]) (.af l):=by
 refine cw r.I λa C n q H D E=>?_
 refine eR q (call_tuple_list (cq _ (B _ _ H) N ⟨_,N⟩) (λF I=>?_) (by rw [wP,D.bO];exact io E f6))
 have x:bq P s P {s with heap:=F,toks:=s.toks}:=bq.cv B I
 have y:=x.bD (bq.oE (s:={s with heap:=F}) (o:=f_ C.toArray 0) x.ag N s.toks)
 exact (ay _ y (.af (vs:=C) (n:=0) (PM.ir ..) (D.bU y.le) E))
theorem WR(B:P.ag s.heap)(r:ar w f P v (.aj l)):bV w f A P s (po (.type "list") [v]) (.aj l):=by
 refine cw r.I λa E n q F C D=>?_
 refine eR q (MI _ (.inl N) (B _ _ F) N N (λL H I J=>?_) (by rw [wP,C.bO];exact io D f6))
 have x:=bq.cS (t:=s.toks) B I J (kJ _)
 exact (ay _ x (.aj (vs:=E) (n:=H) (PM.ir ..) (C.bU x.le) D))
theorem TR(B:P.ag s.heap)(r:ar w f P v (.af l)):bV w f A P s (po (.type "tuple") [v]) (.af l):=by
 refine cw r.I λa D n q C E F=>?_
 rw [q]at r⊢
 exact call_tuple_tup (cq _ (B _ _ C) N ⟨_,N⟩) (ay P (bq.fB B _) r)
theorem Ue(B:P.ag s.heap)(r:ar w f P v (.af l)):bV w f A P s (po (.type "list") [v]) (.aj l):=by
 refine cw r.I λa E n q F C D=>?_
 refine eR q (MI _ (.inr N) (B _ _ F) N N (λL H I J=>?_) (by rw [wP,C.bO];exact io D f6))
 have x:=bq.cS (t:=s.toks) B I J (kJ _)
 exact (ay _ x (.aj (vs:=E) (n:=H) (PM.ir ..) (C.bU x.le) D))
end
theorem WS:typeLookup (.type "list") "keys" =re am:=am_miss_of_fast (by kernel_rfl)
section
variable{w:lw}{c:W (be×be)}{A:pc}{P:PM}{s:ce}
theorem Ug(H:s.heap.get? a=O (fM L k))(R:A.handled=am)
  (h:∀D I,(∀b o,s.heap.get? b=O o->D.get? b=O o)->Q am {s with heap:=D,toks:=I}):ca (cr pw w) A (getAttr? (.ref a) "keys") Q E s:=by
 obtain ⟨S,g,d,I,U⟩:=s
 have J:∀B,(⟨S,g,d,B,U⟩:ce).TypeIs (.ref a) "list" :=λY=>(ay _ H N)
 have Z:=sub_AttributeError
 have f:=MJ.lookup
 have i:=MJ.bind (.ref a)
 have j:=am_list_getattr_none
 unfold getAttr? getAttrBy? getAttrBy
 repeat(any_goals (first|assumption|exact J _|((with_reducible show ca _ _ (po (Value.builtin "list.__getattribute__") _ _) _ _ _);refine call_meets MJ (J _) am_entry_list_getattribute (F.args_list_getattribute_2 _ _) (meets_getattribute_miss_list a L k #[] "keys" _ WS (by decide+kernel) (by rw [pG];decide+kernel)) (bt H R (λD B e C=>?_)))|wp_step))
 refine fP (C.there) λl m n=>(?_:ca _ _ (Y5 _ _ _ _ _ _ _) _ _ _)
 unfold Y5
 repeat(any_goals (first|assumption|wp_step))
 exact h _ _ C.keeps
end
theorem J4:Fc table "dict.update.loop" =O Builtin.«dict.update.loop»:=entryFor_of_tree (by kernel_rfl)
theorem AX:plainId "dict.update.loop" =M:=by decide+kernel
class inductive kN(h:li):W bm->W (f8×bm)->Prop
 |aU:kN h [] []
 |bg {a:be} {k:f8} {t:SC} {x:bm} {n:X} {vs:W bm} {d4:W (f8×bm)}:h.get? a=O (f_ #[.str k t,x] n)->kN h vs d4->kN h (.ref a::vs) ((k,x)::d4)
theorem kN.FZ(x:kN h B A)(k:∀a o,.ref a∈B->h.get? a=O o->C.get? a=O o):kN C B A:=by
 induction x with
 |aU=>exact .aU
 |bg e _ D=>exact .bg (k _ _ (wf ..) e) (D λa o m=>k a o (wv _ m))
theorem kN.bO(x:kN h B A):A.length=B.length:=by
 induction x with
 |aU=>rfl
 |bg e _ C=>rw [Da,Da,C]
section
variable{w:lw}{c:W (be×be)}{A:pc}{P:PM}{s:ce}
set_option tactic.hygienic true in
theorem aaz(d I l:be)(E:W bm)(f:bm)(J:d≠I)(AH:l≠d)(hil:l≠I):∀(B:W bm) (C:W (f8×bm)) (i:X) (D:W (f8×bm)),E.drop i=B->D.length+C.length≤16384->
  MeetsIn pw w (Builtin.«dict.update.loop» ⟨[.ref d,.ref I,wa i,f],[]⟩) (λA R s=>A.handled=am∧s.heap.IsListIter I l i∧s.heap.IsList l E.toArray∧s.heap.DictOf (AT pw w) d D∧
   kN s.heap B C∧(∀a∈B,a≠.ref I∧a≠.ref d)∧
   (∀L tk,L.DictOf (AT pw w) d (yt D C)->(∀b o,b≠d->b≠I->s.heap.get? b=O o->L.get? b=O o)->R (.ok (.ret f)) {s with heap:=L,toks:=tk})):=by
 intro B
 induction B with
 |nil=>
  intro C i D hd H A R s j
  refine C' j λhh S hl hD y F hR=>?_
  clear j
  cases y
  unfold Builtin.«dict.update.loop»
  dsimp only [wa]
  have hx:E.toArray[i]? =am:=by
   rw [yu,YV]
   exact List.drop_eq_nil_iff.mp hd
  exact dL (wpAny_pyNext_list_end hh S hl hx λL Z=>dL (m:=Builtin.Dict.addKeywords d []) (lf (lf (hR L s.toks (hD.extBut Z J) λb o Y hb e=>Z b o hb e))))
 |cons v B ih=>
  intro C i D hd H A R s j
  refine C' j λhh S hl hD y F hR=>?_
  clear j
  cases y with
  |bg ha y=>
   rename_i a k t x n C
   unfold Builtin.«dict.update.loop»
   dsimp only [wa]
   have hx:E.toArray[i]? =O (.ref a):=by
    refine eR (yu) ?_
    have:=lc List.head? hd
    rwa [Y6]at this
   refine dL (wpAny_pyNext_list_item S hl hx λL IF Z=>?_)
   have had:a≠d:=λe=>(F (.ref a) (wf ..)).2 (eR e N)
   have As:L.get? a=O (f_ #[.str k t,x] n):=Z.extBut a _ (λe=>(F (.ref a) (wf ..)).1 (eR e N)) ha
   refine gy (dL (wpAny_tryCatch ?_))
   unfold Builtin.Dict.pairItems
   refine uJ (T:="tuple") (ay _ As N) (mV (by decide) (nW As N (lf (?_:ca _ _ (mI [.str k t,x] (dictSet d (.str k t) x)) _ _ _))))
   refine sF ?_
   rw [Da]at H
   refine wpAny_dictSet_pairs (k:=k) (by refine (?_:uf (.str k t) k=M);simp [uf]) (hD.sameBut Z J) (λh2 fZ qz=>?_) (eR pG (L2 0x20e8378e03a8ea3a8e8fc10721d8711d1e10bf38 N H))
   have U:E.drop (i+1)=B:=by rw [←Y7,hd];rfl
   have hi1:((i:al)+1)=((i+1:X):al):=by push_cast;rfl
   refine lf ⟨wb AX _,ui J4 (eR (wc AX _) (eR hi1 ?_))⟩
   have kp:∀b o,b≠d->b≠I->s.heap.get? b=O o->h2.get? b=O o:=λb o b1 b2 e=>qz.extBut b o b1 (Z.extBut b o b2 e)
   refine ih C (i+1) (pL D k x) U (by have:=stored_length_le D k x;exact L3 0x41c8761c4747873a205f8d10721d8711d1e10bf38 N H this) A R _ ⟨hh,?_,?_,fZ,?_,λa ha=>F a (wv _ ha),λh3 tk hD3 k3=>?_⟩
   ·obtain ⟨o,ho,r⟩:=IF;exact (ay o (qz.extBut _ _ (SB J) ho) r)
   ·obtain ⟨o,ho,r⟩:=hl;exact (ay o (kp _ _ AH hil ho) r)
   ·refine y.FZ λb o hb e=>?_
    have:=F (.ref b) (wv _ hb)
    exact kp b o (λq=>this.2 (eR q N)) (λq=>this.1 (eR q N)) e
   ·exact hR h3 tk hD3 λb o b1 b2 e=>k3 b o b1 b2 (kp b o b1 b2 e)
theorem JY(hh:A.handled=am)(F:s.heap.get? l=O (fM B.toArray n))(hld:l≠d)
  (hD:s.heap.DictOf (AT pw w) d C) (hp:kN s.heap B D) (H:∀a∈B,a≠.ref d) (I:C.length+D.length≤16384)
  (hR:∀J tk,J.DictOf (AT pw w) d (yt C D)->(∀b o,b≠d->s.heap.get? b=O o->J.get? b=O o)->R (.ok (.ret L)) {s with heap:=J,toks:=tk}):
  ca (cr pw w) A.in1 (Y8 nm d (.ref l) [] L) (λfin U=>match fin with|.done f=>R (.ok f) U|.again c'=>c'.quiet=M∧mK (cr pw w) A c' R U) (λe U=>R (.error e) U) s:=by
 have alq:d<s.heap.objs.size:=let⟨_,_,_,S,_⟩:=hD;FM S
 unfold Y8
 refine uJ (T:="list") (ay _ F N) (mV (by decide) (dL (Ug F hh λZ Jx k1=>mV (by decide) (uV ?_))))
 have hL:Z.IsList l B.toArray:=(cq _ (k1 _ _ F) N ⟨_,N⟩)
 refine dL (MK hL ?_)
 have j:∀b o,s.heap.get? b=O o->(Z.push {cls:=.type "list_iterator",data:=.fields #[.ref l,.int 0 0]}).get? b=O o:=λb o e=>tz _ (k1 b o e)
 have y:∀b,s.heap.get? b≠am->b≠Z.objs.size:=λb hb e=>by
  cases q:s.heap.get? b with
  |none=>exact hb q
  |some o=>have:=FM (k1 _ _ q);rw [e]at this;exact mF _ this
 have hdo:s.heap.get? d≠am:=by obtain ⟨o,_,_,S,_⟩:=hD;rw [S];simp
 have qA:s.heap.get? l≠am:=by rw [F];simp
 have mem:∀(a:be),.ref a∈B->s.heap.get? a≠am:=by
  clear hR hL H F I
  induction hp with
  |aU=>intro a E;contradiction
  |bg e _ ih=>
   intro a E
   rcases wl.mp E with q|E
   ·obtain rfl:=Os q;rw [e];simp
   ·exact ih a E
 refine dL (m:=re _) (lf (lf ⟨wb AX _,ui J4 ?_⟩))
 refine eR (wc AX _) (aaz d Z.objs.size l B L (y d hdo) hld (y l qA) B D 0 C N I A R _ ⟨hh,cq _ (Ix _ N) N N,cq _ (j _ _ F) N ⟨_,N⟩,?_,hp.FZ λa o Y e=>j a o e,λa E=>⟨?_,H a E⟩,λJ tk fu k'=>?_⟩)
 ·obtain ⟨o,es,ep,S,r⟩:=hD;exact (nu o es ep (j _ _ S) r)
 ·intro q;subst q;exact y _ (mem _ E) N
 ·exact hR J tk fu λb o hb e=>k' b o hb (y b (by rw [e];simp)) (j b o e)
theorem JZ(hh:A.handled=am)(S:s.heap.get? l=O (fM H.toArray n))
  (j:kN s.heap H I) (J:I.length≤16384)
  (y:∀L U,L.DictOf (AT pw w) s.heap.objs.size (yt [] I)->(∀b o,s.heap.get? b=O o->L.get? b=O o)->Q (.ref s.heap.objs.size) {s with heap:=L,toks:=U}):
  ca (cr pw w) A (po (.type "dict") [.ref l]) Q E s:=by
 refine callType_codes (Q₁:=λR C=>R=.ref s.heap.objs.size∧C={s with heap:=s.heap.push {cls:=.type "dict",data:=.dict #[]}}) F.kt_called_dict (F.kt_typeCall_dict_1 _) F.entry_dict_init (kt_code_dict_new _ ⟨N,N⟩) ?_
 rintro R C ⟨rfl,rfl⟩
 have B:(s.heap.push {cls:=.type "dict",data:=.dict #[]}).DictOf (AT pw w) s.heap.objs.size []:=Fd s.heap
 refine (bt B.typeIs (F.args_dict_init_2 _ _) ?_)
 unfold Builtin.«dict.__init__»
 refine dL ?_
 unfold Y9
 refine dL (Y' B.typeIs (?_:ca _ _ (re (s.heap.objs.size,[Ev l])) _ _ _))
 refine lf ?_
 have Z:∀(a:be),.ref a∈H->a≠s.heap.objs.size:=by
  clear y J S
  induction j with
  |aU=>intro a D;contradiction
  |bg e _ ih=>
   intro a D
   rcases wl.mp D with q|D
   ·obtain rfl:=Os q;exact λq=>mF _ (q▸FM e)
   ·exact ih a D
 refine JY (A:=A.in1) (L:=.none) hh (tz _ S) (λq=>mF _ (q▸FM S)) B (j.FZ λa o Y e=>tz _ e) (λa D q=>Z _ (q▸D) N) (by simpa using J) λL U f k'=>⟨N,y L U f λb o e=>k' b o (λq=>mF _ (q▸FM e)) (tz _ e)⟩
end
section
variable{w:lw}{i:W (be×be)}{A:pc}{P B:PM}{s:ce}
theorem WT{r:W (f8×bm)}(h:x≠k):pL ((x,u)::r) k v=(x,u)::pL r k v:=by
 unfold pL
 refine eR ue ?_
 simp only [h,decide_false,Bool.false_or]
 split<;>simp [h]
theorem WU{r:W (f8×bm)}(h:k∉r.map (·.1)):pL ((k,u)::r) k v=(k,v)::r:=by
 unfold pL
 refine eR ue ?_
 simp only [Y_,Bool.true_or,qS,UV]
 exact eR (map_store_of_not_mem r k v h) N
set_option tactic.hygienic true in
theorem dx.Cf{C:W (f8×bm)}{l:W (PS×PV)}(h:dx w i P C l)(D:(C.map (·.1)).Nodup){p:PS}(o:jN p=M){v:bm}{r:PV}(H:ar w i P v r):dx w i P (pL C (dJ p) v) (fE l p r):=by
 induction C generalizing l with
 |nil=>(have E:=h.J;subst E);exact .bg o H .aU
 |cons U C R=>
  cases h with
  |bg F S L=>
   rename_i x u q l
   rw [UV,uj]at D
   by_cases e:x=p
   ·subst e
    exact eR (WU D.1) (eR (x:=fE ((x,q)::l) x r) (cT N) (.bg F H L))
   ·exact eR (WT (λq=>e (GJ F o q))) (eR (x:=fE ((x,q)::l) p r) (cF e) (.bg F S (R L D.2)))
theorem A4:∀(l:W (PS×PV)) (p:PS) (v:PV),(fE l p v).length≤l.length+1:=λl=>gV l (λY Y=>ul _) λk u r C p v=>bE (z:=fE ((k,u)::r) p v) (i:=λz=>z.length≤_) N (λY=>Fe _) λY=>v7 (C p v)
theorem Kg(D:(C.map (·.1)).Nodup)(k:f8)(v:bm):((pL C k v).map (·.1)).Nodup:=by
 unfold pL
 split
 ·rw [keys_map_store];exact D
 ·rename_i h
  rw [uk,yv]
  refine (bt D (by simp) ?_)
  intro a F b E
  simp only [UV,List.map_nil,IR]at E
  subst E
  rintro rfl
  exact aQ (No.mp F) λH I J=>h (Bv.mpr (ay H I (FB J)))
set_option tactic.hygienic true in
theorem jG.E{G:Prop}(h:jG (p::C) D=O d)(f:∀k u,p=.af [.ae k,u]->jG C (fE D k u)=O d->G):G:=by
 cases p
 case af l=>
  cases l with
  |nil=>exact aH h
  |cons a l=>
   cases a
   case ae k=>
    cases l with
    |nil=>exact aH h
    |cons u l=>
     cases l with
     |nil=>exact f k u N h
     |cons _ _=>exact aH h
   all_goals exact aH h
 all_goals exact aH h
theorem Ew(j:P.ag h):∀{E:W bm} {F:W PV} {C:W (f8×bm)} {I d:W (PS×PV)},bH w i P E F->jG F I=O d->dx w i P C I->(C.map (·.1)).Nodup->
  ∃D,kN h E D∧dx w i P (yt C D) d∧((yt C D).map (·.1)).Nodup:=by
 intro E
 induction E with
 |nil=>intro F C I d r e L J;(have R:=r.J;subst R);obtain rfl:=ii e;exact (cq [] .aU L J)
 |cons v E y=>
  intro F C I d r e L J
  refine bX r.J λ_ _ S Z r2=>?_
  clear r
  subst S
  rename_i q F
  refine jG.E e λk u hq e=>?_
  subst hq
  refine cw Z.I λ_ _ _ U ha H _=>bX H.I λ_ _ q1 f H=>bX H.I λ_ _ q2 h2 H=>?_
  have q3:=H.I
  subst q3 q2 q1 U
  clear Z
  refine aQ f.I λt Y o=>?_
  clear f
  subst Y
  exact dk (y r2 e (L.Cf J o h2) (Kg J _ _)) λD x1 x2 x3=>(cq (_::D) (.bg (j _ _ ha) x1) x2 x3)
theorem D0:∀{C:W PV} {D d:W (PS×PV)},jG C D=O d->d.length≤D.length+C.length:=λ{C}=>no_implicit_lambda% (cB C (@λY Y e=>by obtain rfl:=ii e;exact ul _) λp C E {D} {d} e=>jG.E e λk u _ e=>by
   have F:=io (E e) (Sc (A4 _ _ _) _)
   rw [Da];exact L3 0x810bf59c103a0bf38 N F)
theorem F0{h:li}{C:W (f8×bm)}(F:h.DictOf (AT pw w) a C)(H:(a==ub)=bn):∃o,h.get? a=O o∧Eo w a o C:=by
 refine aQ (Heap.dictOf_iff.mp F) λo I E=>(dG o I H ?_ (λJ e=>Heap.dictOf_iff.mpr (ay o e E)))
 refine bX E λL R _ D _=>?_
 clear E
 exact Obj.isFreed_of_dict D
theorem tX(C:1<s.heap.objs.size):(s.heap.objs.size==ub)=bn:=by
 rw [Za];exact pC C
theorem F1(E:P.ag s.heap){C:li}{a:be}(J:C.DictOf (AT pw w) a D)(F:s.heap.get? a=am)(L:(a==ub)=bn)
  (H:∀b o,s.heap.get? b=O o->C.get? b=O o) (r:dx w i P D l) (R:l.length≤4096) (t:X):∃B,bq P s B {s with heap:=C,toks:=t}∧ar w i B (.ref a) (.a8 l):=by
 exact aQ (F0 J L) λo I S=>(ay _ (bq.cS (t:=t) E H I F) (.a8 (PM.ir ..) S (r.bU (bq.cS (t:=t) E H I F).le) R))
theorem TS(E:P.ag s.heap)(C:1<s.heap.objs.size)(r:ar w i P v (.a8 l)):bV w i A P s (po (.type "dict") [v]) (.a8 l):=by
 refine rE r.I λ_ _ _ D J F H I=>?_
 clear r
 subst D
 exact kt_call_dict F.1 (F.2.2 _ (E _ _ J)) (eR H.bO (io I f6)) λS L R=>F1 E L (kJ _) (tX C) (λb o e=>R.extBut b o (λq=>mF _ (q▸FM e)) (tz _ e)) H I s.toks
theorem Tz(H:P.ag s.heap)(E:1<s.heap.objs.size)(R:A.handled=am)(r:ar w i P v (.aj S))(e:jG S []=O d):bV w i A P s (po (.type "dict") [v]) (.a8 d):=by
 refine cw r.I λ_ _ _ F U I J=>?_
 clear r
 subst F
 refine dk (Ew (h:=s.heap) H I e (.aU:dx w i P [] []) (by simp)) λY L Z f=>?_
 have C:=D0 e
 have D:=I.bO
 refine JZ R (H _ _ U) L (eR L.bO (L2 0x41c8761c4747e4d8c9178 N J D)) λj a b c=>?_
 exact F1 H b (kJ _) (tX E) c Z (by simp at C;exact L2 4803007385976 N J C) a
noncomputable def PM.uW(P:PM)(h:li)(C:W be):PM:=λb=>if b∈C then h.get? b else P b
theorem bq.uW(C:P.ag s.heap)(k:∀a o,s.heap.get? a=O o->D.get? a=O o)(E:∀a∈F,s.heap.get? a=am):bq P s (P.uW D F) {s with heap:=D,toks:=t}:=by
 refine ⟨N,N,k,λb o e=>?_,λb o e=>?_,λb o e=>?_⟩
 ·unfold PM.uW
  rw [f0 (λm=>by have:=E b m;rw [C b o e]at this;exact Dc this)];exact e
 ·unfold PM.uW at e
  split at e
  ·exact e
  ·exact k b o (C b o e)
 ·unfold PM.uW at e
  split at e
  ·rename_i m;exact .inr (E b m)
  ·exact .inl e
theorem acz(e:(AT pw w).is k C=M):∃t,C=.str k t:=Value.isStrOf_shape e
set_option tactic.hygienic true in
theorem KN:∀{C:W (f8×bm)} {l:W (PS×PV)} {H:W be},dx w i B C l->H.length=C.length->
  (∀(j:X) (a:be),H[j]? =O a->∃D k x,C[j]? =O (k,x)∧(AT pw w).is k D=M∧B a=O {cls:=.type "tuple",data:=.seq #[D,x]})->
  bH w i B (H.map Ev) (l.map λp=>.af [.ae p.1,p.2])
 |[],_,[],r,_,_=>by(have E:=r.J;subst E);exact .aU
 |Z::C,_,a::H,r,F,I=>by
  cases r with
  |bg J L R=>
   rename_i x v q l
   refine .bg ?_ (KN R (by simpa using F) λj a e=>I (j+1) a e)
   refine xl (I 0 a N) λD k y S U Y=>?_
   cases S
   obtain ⟨t,rfl⟩:=acz U
   exact .af (vs:=[.str (dJ x) t,v]) (n:=0) Y (.bg (.ae x t J) (.bg L .aU)) (by simp)
 |[],_,_::_,_,F,_=>by simp at F
 |_::_,_,[],_,F,_=>by simp at F
theorem VI(Z:P.ag s.heap)(hh:A.handled=am)(r:ar w i P (.ref d) (.a8 l))(hv:s.heap.IsItemsView vw d):
  bV w i A P s (po (.type "list") [.ref vw]) (.aj (l.map λp=>.af [.ae p.1,p.2])):=by
 refine rE r.I λ_ _ _ E ha hd f hn=>?_
 clear r
 obtain rfl:=Os E
 rename_i o L
 have hD:=hd.2.2 _ (Z _ _ ha)
 refine zZ hD λo' es ep ho hx=>?_
 clear hD
 have F:=f.bO
 refine kdx_call (knd:=AT pw w) (kvs:=L) (ep:=ep) hh hv (fV o' es ho hx) (eR F (io hn f6)) λh' tk R c H hk hS S hG I=>?_
 have C:∀a∈s.heap.objs.size::H,s.heap.get? a=am:=by
  intro a m
  have U:s.heap.objs.size≤a:=by
   rcases wl.mp m with rfl|m
   ·exact ul _
   ·exact ML (hG.above a m)
  cases q:s.heap.get? a with
  |none=>rfl
  |some o=>exact nw (FM q) (yw.mpr U)
 have x:=bq.uW (t:=tk) Z hk C
 have J:∀a∈s.heap.objs.size::H,(P.uW h' (s.heap.objs.size::H)) a=h'.get? a:=λa m=>jp m
 have D:R=(H.map Ev).toArray:=eL I N
 subst D
 refine (ay _ x (.aj (vs:=H.map Ev) (n:=c) ((J _ (wf ..)).trans hS) (KN (f.bU x.le) S λj a e=>?_) (eR (sw ..) hn)))
 exact xl (hG.pairs j a e) λY k y e1 e2 e3=>(HW Y k y e1 e2 ((J _ (wv _ (E6 e))).trans e3))
end
theorem oa.E(h:oa A x l=M):∃k,A.names.lookup x=O k∧k∈l:=by
 unfold oa at h
 cases e:A.names.lookup x with
 |none=>rw [e]at h;exact bY h
 |some k=>rw [e]at h;exact (ay k N (ut h))
theorem B2{G:Prop}(h:(a&&b)=M)(k:a=M->b=M->G):G:=k (KM.mp h).1 (KM.mp h).2
set_option genInjectivity false in
structure Gh where
 w:lw
 l5:li
 os:t_
 az:W (be×be)
 F:X->X->im bm
 Φ:bA
structure cI(g:Gh):Prop where
 K:(K g.w.params).In g.l5
 b_:∃mg mb,g.l5.Ns ua mg∧g.l5.Ns Ff mb∧∀x:f8,x≠"__name__" ->mb x=MM x
 QY:g.l5.NoLimit
 rJ:∃o,g.l5.get? 687=O o
noncomputable def gT:X->be
 |1=>572
 |_=>403
noncomputable def dr(g:Gh)(P:PM)(h:li)(a:be):PV->Prop
 |.aj l=>∃B n,h.get? a=O (fM (mG B) n)∧bH g.w g.az P B l∧l.length≤4096
 |.a8 l=>(a==ub)=bn∧∃A,h.DictOf (AT pw g.w) a A∧dx g.w g.az P A l∧l.length≤4096
 |_=>wn
theorem dr.ct(B:P.le C)(k:∀o,h.get? a=O o->D.get? a=O o):∀{p:PV},dr g P h a p->dr g C D a p
 |.aj _,x=>bX x λE n F H I=>(d_ E n (k _ F) (H.bU B) I)
 |.a8 _,x=>x.2.elim λA y=>(ff x.1 (cq A (cC y.1 λo J L z=>(nu o J L (k _ z.1) z.2)) (y.2.1.bU B) y.2.2))
theorem dr.ix:∀{p:PV},dr g P h a p->h.get? a≠am
 |.aj _,x=>bX x λC n A D E q=>aH (q.symm.trans A)
 |.a8 _,x=>x.2.elim λB y=>cC y.1 λo F H z q=>aH (q.symm.trans z.1)
noncomputable def lT:PV->an
 |.aj l=>dY l
 |.a8 l=>dY (l.map (·.2))
 |_=>bn
@[reducible]noncomputable def xd(g:Gh)(k x:X):im PV:=(aY g.Φ k).bind λA=>aG A x
inductive fK(g:Gh)(P:PM)(k:X)(a d:be)(nums:W (X×al))(h:li):Prop
 |gD (i:al) (p:PV):dv g.Φ k=M->a=d->aG nums 0=O i->xd g k (i.toNat+2)=O p->(∀(x:X) p',xd g k (x+2)=O p'->lT p'=M)->dr g P h d p->fK g P k a d nums h
 |cD (kvs:W (f8×bm)):dv g.Φ k=bn->oj k=am->a=d->(d==ub)=bn->h.DictOf (AT pw g.w) d kvs->kvs.length≤100->(∀x p,dF g.Φ k x=O p->∃v,g.F k x=O v∧Rs kvs (aZ x)=O v)->
  (∀x i,aG nums x=O i->∃t,Rs kvs (aZ x)=O (.int i t))->fK g P k a d nums h
 |ie (gD:W (X×X)) (o:Db) (m:f8->im bm):dv g.Φ k=bn->oj k=O gD->P a=O o->o.cls=.ref (gT k)->notCls o=M->o.dict=O d->h.Ns1 d m->(∀x p,dF g.Φ k x=O p->∃v,g.F k x=O v∧m (aZ x)=O v)->
  (∀x i,aG nums x=O i->∃t,m (aZ x)=O (.int i t))->(∀x f,aG gD x=O f->m (aZ x)=am)->yy m ((si k).map aZ)->fK g P k a d nums h
theorem fK.ix(x:fK g P k a d A h):h.get? d≠am:=by
 cases x with
 |gD i p _ _ _ _ _ x=>exact x.ix
 |cD B _ _ _ _ x=>exact cC x λo C D z q=>aH (q.symm.trans z.1)
 |ie E o m _ _ _ _ _ _ x=>exact cC x λo C D z q=>aH (q.symm.trans z.1)
theorem fK.ct(x:fK g P k a d A h)(Z:P.le f)(H:∀o,h.get? d=O o->j.get? d=O o):fK g f k a d A j:=by
 cases x with
 |gD i p B C D E F x=>exact .gD i p B C D E F (x.ct Z H)
 |cD I B C D E x F J L=>exact .cD I B C D E (cC x λo R S z=>(nu o R S (H _ z.1) z.2)) F J L
 |ie U o m B C D E F J x L y h9 Y=>exact .ie U o m B C (Z _ _ D) E F J (cC x λo R S z=>(nu o R S (H _ z.1) z.2)) L y h9 Y
structure aS(g:Gh)(P:PM)(ob:ai)(s:ce):Prop where
 cJ:∀a o,g.l5.get? a=O o->P a=O o
 ag:P.ag s.heap
 i8:s.gens=#[]
 os:s.os=g.os
 ll:∀k x p,dF g.Φ k x=O p->∃v,g.F k x=O v∧ar g.w g.az P v p
 ah:∀k a d,aY g.az k=O (a,d)->∃nums,aY ob k=O nums∧fK g P k a d nums s.heap∧∀x p,dF g.Φ k x=O p->aG nums x=am
 c_:∀k nums,aY ob k=O nums->∃a d,aY g.az k=O (a,d)
 jL:∀k a d,aY g.az k=O (a,d)->P d=am
 fc:∀k j a d a' d',aY g.az k=O (a,d)->aY g.az j=O (a',d')->d=d'->k=j
noncomputable def ej(g:Gh)(a:be):Prop:=∃k x,aY g.az k=O (x,a)
structure bW(g:Gh)(hb:be->Prop)(P:PM)(s:ce)(P':PM)(s':ce):Prop where
 le:P.le P'
 cH:∀a o,s.heap.get? a=O o->¬ej g a->s'.heap.get? a=O o
 bR:∀a,s.heap.get? a≠am->s'.heap.get? a≠am
 bN:∀a o,P' a=O o->P a=O o∨¬hb a
theorem bW.bQ(g:Gh)(A:be->Prop)(P:PM)(s:ce):bW g A P s P s:=⟨PM.le.bQ P,λY Y e Y=>e,λY e=>e,λY Y e=>.inl e⟩
theorem bW.bD(x:bW g C P s D E)(y:bW g C D E A B):bW g C P s A B:=
 ⟨x.le.bD y.le,λa o e n=>y.cH a o (x.cH a o e n) n,λa e=>y.bR a (x.bR a e),λa o e=>by
  rcases y.bN a o e with h|h
  ·exact x.bN a o h
  ·exact .inr h⟩
noncomputable def cN(h:li)(a:be):Prop:=h.get? a≠am
theorem bW.cJ(x:bW g B P s C D)(d:∀a,A a->B a):bW g A P s C D:=
 ⟨x.le,x.cH,x.bR,λa o e=>by
  rcases x.bN a o e with h|h
  ·exact .inl h
  ·exact .inr λq=>h (d a q)⟩
theorem bq.ew(x:bq P s A B):bW g (cN s.heap) P s A B:=
 ⟨x.le,λa o e Y=>x.cH a o e,λa e q=>e (nV x.cH q),λa o e=>(x.bN a o e).imp id λh q=>q h⟩
theorem aS.g8(I:aS g P E s)(x:bq P s D F):aS g D E F where
 cJ a o e:=x.le _ _ (I.cJ a o e)
 ag:=x.ag
 i8:=x.i8.trans I.i8
 os:=x.os.trans I.os
 ll k y p e:=let⟨v,C,B⟩:=I.ll k y p e;(ay v C (B.bU x.le))
 ah k a d e:=let⟨A,C,B,H⟩:=I.ah k a d e;(cq A C (B.ct x.le λo=>x.cH d o) H)
 c_:=I.c_
 jL k a d e:=by
  obtain ⟨A,_,B,_⟩:=I.ah k a d e
  cases q:D d with
  |none=>rfl
  |some o=>
   rcases x.bN d o q with h|h
   ·rw [I.jL k a d e]at h;cases h
   ·exact nw h B.ix
 fc:=I.fc
theorem aS.ix(I:aS g P C s)(h:ej g d):s.heap.get? d≠am∧P d=am:=by
 obtain ⟨k,a,e⟩:=h
 obtain ⟨A,_,B,_⟩:=I.ah k a d e
 exact ⟨B.ix,I.jL k a d e⟩
theorem aS.oU(I:aS g P A s)(B:cI g):(K g.w.params).In s.heap:=λa o e=>I.ag _ _ (I.cJ _ _ (B.K a o e))
theorem aS.l5(I:aS g P A s):∀a o,g.l5.get? a=O o->s.heap.get? a=O o:=λa o e=>I.ag _ _ (I.cJ a o e)
theorem aS.rJ(I:aS g P C s)(B:cI g):1<s.heap.objs.size:=by
 obtain ⟨o,A⟩:=B.rJ
 exact MB (by decide) (FM (I.l5 _ _ A))
structure dh(env:ln)(sc:na):Prop where
 km:env.scope.kind=.function
 i4:∀x k,sc.names.lookup x=O k->env.kindOf x=O k∨(k=.free∧env.kindOf x=O .cell)
 Gz:env.globals=ua
 Nu:env.builtins=Ff
 CA:∀x,env.kindOf x=O .cell∨env.kindOf x=O .free->∃c,env.cells.lookup x=O c
noncomputable def fG(env:ln)(h:li)(x:f8)(v:bm):Prop:=
 (env.kindOf x=O .local∧∃m,h.Ns env.locals m∧m x=O v)∨((env.kindOf x=O .cell∨env.kindOf x=O .free)∧∃c,env.cells.lookup x=O c∧h.IsCell c (O v))
structure OU(g:Gh)(env:ln)(hb:be->Prop)(P:PM)(vs:av)(h:li)(ad:X->be):Prop where
 ax:∀x p,aG vs x=O (.ax p)->∃v,fG env h (aZ x) v∧ar g.w g.az P v p
 aX:∀x p,aG vs x=O (.aX p)->fG env h (aZ x) (.ref (ad x))∧¬hb (ad x)∧P (ad x)=am∧ad x≠env.locals∧¬ej g (ad x)∧dr g P h (ad x) p
 fc:∀x y p q,aG vs x=O (.aX p)->aG vs y=O (.aX q)->ad x=ad y->x=y
structure aT(g:Gh)(env:ln)(hb:be->Prop)(P:PM)(vs:av)(s:ce):Prop where
 bR:∀a,hb a->s.heap.get? a≠am
 ns:∃m,s.heap.Ns env.locals m
 dq:P env.locals=am∧¬ej g env.locals
 cj:∀x c,env.cells.lookup x=O c->P c=am∧¬ej g c∧∃v,s.heap.IsCell c v
 gu:∃ad,OU g env hb P vs s.heap ad
theorem fG.ct(l:fG env h x v)(E:∀o,h.get? env.locals=O o->D.get? env.locals=O o)(F:∀y c o,env.cells.lookup y=O c->h.get? c=O o->D.get? c=O o):fG env D x v:=by
 rcases l with⟨B,m,⟨o,H,I,C,r⟩,A⟩|⟨B,c,A,⟨o,C,r⟩⟩
 ·exact .inl (ff B (ay m (nu o H I (E _ C) r) A))
 ·exact .inr (ff B (ay c A (ay o (F _ c _ A C) r)))
theorem aT.cv(a:aT g env S P U s)(x:bW g (cN s.heap) P s D E):aT g env S D U E:=by
 have F:∀b,P b=am->s.heap.get? b≠am->D b=am:=λb A B=>by
  cases q:D b with
  |none=>rfl
  |some o=>
   rcases x.bN b o q with h|h
   ·rw [A]at h;cases h
   ·exact nw B h
 obtain ⟨m,J⟩:=a.ns
 have Y:s.heap.get? env.locals≠am:=by obtain ⟨o,_,_,C,_⟩:=J;rw [C];simp
 have H:∀o,s.heap.get? env.locals=O o->E.heap.get? env.locals=O o:=λo e=>x.cH _ _ e a.dq.2
 have I:∀y c o,env.cells.lookup y=O c->s.heap.get? c=O o->E.heap.get? c=O o:=λy c o e h=>x.cH _ _ h (a.cj y c e).2.1
 refine ⟨λb e=>x.bR b (a.bR b e),?_,⟨F _ a.dq.1 Y,a.dq.2⟩,λy c e=>?_,?_⟩
 ·obtain ⟨o,Z,f,C,r⟩:=J;exact (zV m o Z f (H _ C) r)
 ·obtain ⟨A,B,v,o,C,j⟩:=a.cj y c e
  exact (bt (F _ A (by rw [C];simp)) B (fV v o (I y c o e C) j))
 ·obtain ⟨ad,V⟩:=a.gu
  refine (zT ad ⟨λy p e=>?_,λy p e=>?_,V.fc⟩)
  ·obtain ⟨v,A,B⟩:=V.ax y p e
   exact (ay v (A.ct H I) (B.bU x.le))
  ·obtain ⟨A,B,h3,h4,L,R⟩:=V.aX y p e
   exact (l9 (A.ct H I) B (F _ h3 R.ix) h4 L (R.ct x.le λo e=>x.cH _ _ e L))
noncomputable def eW(A:pc)(n:X):Prop:=A.handled=am∧A.depth+n<MN∧A.units+3*n+12<NE
@[reducible]noncomputable def a9:bm->ce->Prop:=λY Y=>wn
noncomputable def EP(g:Gh)(env:ln)(E:be->Prop)(P:PM)(s:ce)(Q:PV->av->ai->Prop)(v:bm)(D:ce):Prop:=
 ∃r A B C,Q r A B∧aT g env E C A D∧aS g C B D∧ar g.w g.az C v r∧bW g E P s C D
structure SE(g:Gh)(n:X)(sc:na)(e:kt)(m:MX):Prop where
 go:∀{A:pc} {env:ln} {hb:be->Prop} {P:PM} {vs:av} {ob:ai} {s:ce} {Q:PV->av->ai->Prop},dh env sc->eW A n->aT g env hb P vs s->aS g P ob s->
  bB (ba g.Φ n) g.Φ m vs ob Q->ca (cr pw g.w) A (Fk e env) (EP g env hb P s Q) a9 s
theorem EP.jO(a:aT g env D P E s)(I:aS g P F s)(G:bW g D B C P s)
  (q:Q r E F) (h:bV g.w g.az A P s t r):ca (cr pw g.w) A t (EP g env D B C Q) a9 s:=
 h.bU λY Y H x y=>(d6 r E F H q (a.cv x.ew) (I.g8 x) y (G.bD (x.ew.cJ a.bR)))
theorem EP.kq(a:aT g env C P D s)(I:aS g P E s)(G:bW g C A B P s)
  (q:Q r D E) (h:ar g.w g.az P v r):EP g env C A B Q v s:=(d6 r D E P q a I h G)
theorem EP.bJ(h:ca (cr pw g.w) A t (EP g env F P s Q) a9 s)
  (k:∀v D r B C E,Q r B C->aT g env F E B D->aS g E C D->ar g.w g.az E v r->bW g F P s E D->R v D):ca (cr pw g.w) A t R a9 s:=
 ss h (λv D y=>rG y λr B C E q a I x G=>k v D r B C E q a I x G) λY Y f=>f
section
variable{w:lw}{j:W (be×be)}{P:PM}{v:bm}{r:PV}{G:Prop}
theorem ar.oB{K:an->Prop}(x:ar w j P v r)(h:oB r K)(f:∀b,v=.bool b->K b->G):G:=by
 cases r<;>first|exact Ps h|exact f _ x.I h
theorem ar.oI{K:al->Prop}(x:ar w j P v r)(h:oI r K)(f:∀i t,v=.int i t->K i->G):G:=by
 cases r<;>first|exact Ps h|exact je x.I λt q=>f _ t q h
theorem ar.oP{K:PS->Prop}(x:ar w j P v r)(h:oP r K)(f:∀p t,v=.str (dJ p) t->jN p=M->K p->G):G:=by
 cases r<;>first|exact Ps h|exact aQ x.I λt q o=>f _ t q o h
theorem oL.E{K:X->Prop}(h:oL p K)(f:∀c,p=.aA c->K c->G):G:=by
 cases p<;>first|exact Ps h|exact f _ N h
theorem ar.oD{K:W (PS×PV)->Prop}(x:ar w j P v r)(h:oD r K)(f:∀l,ar w j P v (.a8 l)->K l->G):G:=by
 cases r<;>first|exact Ps h|exact f _ x h
theorem ar.oO{K:X->Prop}(x:ar w j P v r)(h:oO r K)(f:∀k a d,v=.ref a->aY j k=O (a,d)->K k->G):G:=by
 cases r<;>first|exact Ps h|exact eD x.I λa d q e=>f _ a d q e h
end
section
variable{g:Gh}{n:X}{B:na}
theorem eW.HJ(r:eW A n):A.units+4<NE:=by have:=r.2.2;exact L3 0x2e832c17411c1e116638 N this
theorem SE.eE:SE g n B e .eE:=⟨λY Y Y Y q=>q.elim⟩
theorem SE.bG:SE g n B (.Constant .none k p) .bG:=⟨λY Y a I q=>EP.jO a I (.bQ ..) q (Lq I.ag .bG)⟩
theorem SE.aJ:SE g n B (.Constant (.bool b) k p) (.aJ b):=⟨λY Y a I q=>EP.jO a I (.bQ ..) q (Lq I.ag (.aJ b))⟩
theorem SE.ab:SE g n B (.Constant (.int i) k p) (.ab i):=⟨λY Y a I q=>EP.jO a I (.bQ ..) q (wpAny_Constant_int (ay _ (bq.fB I.ag _) (.ab _ _)))⟩
theorem SE.bj(H:SE g n B a J)(L:SE g n B b S):SE g n B (.BinOp a U b p) (.bj U J S):=by
 refine ⟨?_⟩
 intro A env Y P t w s Q F R a I q
 exact wpAny_BinOp (EP.bJ (H.go F R a I q) λv y r1 Z c P1 d f h i j=>EP.bJ (L.go F R f h d) λv2 s2 r2 l m P2 C o D r E=>oS.E C λu e C=>EP.jO o D (j.bD E) C (aaw D.ag (i.bU E.le) r e))
theorem gW.E{G:Prop}(h:gW C D k=O c)(f:dv C k=M->∀A i,aY D k=O A->aG A 0=O i->((aY C k).bind λF=>aG F (i.toNat+2))=O c->G):G:=
 gd.E h λH q=>aQ (sD.mp q) λA I q=>aQ (sD.mp q) λi J q=>f H A i I J q
theorem Cg(I:aS g P H s)(C:aY g.az k=O (a,d))(S:gW g.Φ H k=O c):
  ∃A i,aY H k=O A∧aG A 0=O i∧dv g.Φ k=M∧a=d∧(∀(x:X) J,xd g k (x+2)=O J->lT J=M)∧dr g P s.heap d c:=
 gW.E S λD A i L R U=>dk (I.ah k a d C) λE F Z Y=>by
  obtain rfl:=ii (L.symm.trans F)
  cases Z with
  |gD j p _ f o y h4 h5=>
   obtain rfl:=ii (R.symm.trans o)
   exact ⟨A,i,L,R,D,f,h4,ii (y.symm.trans U)▸h5⟩
  |cD _ h=>exact jf (D.symm.trans h)
  |ie _ _ _ h=>exact jf (D.symm.trans h)
theorem tx.E{A:bA}{C:sA}{u:an}{G:sA->PV->PV->an->Prop}(h:tx A D C a b=O u)(f:∀p k l,gW A D k=O (.a8 l)->G .In (.ae p) (.ah k) (gk l p).isSome):G C a b u:=by
 cases C with
 |In=>
  cases a with
  |ae p=>
   cases b with
   |ah k=>
    have h:(match gW A D k with|some (.a8 l)=>O (gk l p).isSome|_=>am)=O u:=h
    cases F:gW A D k with
    |none=>rw [F]at h;exact aH h
    |some c=>
     rw [F]at h
     cases c<;>first|exact aH h|exact ii h▸f p k _ F
   |_=>exact aH h
  |_=>exact aH h
 |_=>exact aH h
theorem WV{A:pc}{R:ai}{C:sA}{D E:PV}{u:an}(I:aS g P R s)(F:ar g.w g.az P v D)(H:ar g.w g.az P J E)(e:tx g.Φ R C D E=O u):bV g.w g.az A P s (Tl C v J) (.aJ u):=by
 revert F H
 exact tx.E (G:=λC D E u=>ar g.w g.az P v D->ar g.w g.az P J E->bV g.w g.az A P s (Tl C v J) (.aJ u)) e λp k l Z F H=>aQ F.I λt q o=>eD H.I λa d b L=>zY (Cg I L Z) λS i Y Y Y c Y U=>U.2.elim λf y=>eR q (eR b (eR c (wpAny_in_of qF U.1 y.1.mapOf (ay P (bq.fB I.ag _) (Eb y.2.1 o▸.aJ _)))))
theorem zK.E{C:bA}{A:sA}{K:an->Prop}{G:Prop}(h:zK C D A a b K)(F:∀u,p_ A a b=O u->K u->G)(H:∀u,tx C D A a b=O u->K u->G):G:=by
 cases e:p_ A a b with
 |some u=>exact F u e ((lc (λo=>match o with|some u=>K u|Option.none=>oS (tx C D A a b) K) e).mp h)
 |none=>exact oS.E (A:=an) ((lc (λo=>match o with|some u=>K u|Option.none=>oS (tx C D A a b) K) e).mp h) H
theorem Lr{K:an->Prop}{G:Prop}(I:aS g P E s)(R:eW A n)(C:ar g.w g.az P v F)(D:ar g.w g.az P H J)(e:zK g.Φ E L F J K)(f:∀u,bV g.w g.az A P s (Tl L v H) (.aJ u)->K u->G):G:=
 zK.E e (λu e=>f u (aav I.ag R.HJ C D e)) λu e=>f u (WV I C D e)
theorem SE.ao(J:SE g n B a L)(S:SE g n B b U)(Y:Mw D b=bn):SE g n B (.Compare a [D] [b] p) (.ao D L U):=by
 refine ⟨?_⟩
 intro A env Z P w y s Q F R a I q
 exact wpAny_Compare1 (EP.bJ (J.go F R a I q) λv s1 r1 c d P1 e f i j l=>EP.bJ (S.go F R f i e) λv2 s2 r2 m o P2 C r E t H=>Lr E R (j.bU H.le) t C λu h C=>EP.jO r E (l.bD H) C h) Y
theorem oo.E{k x:X}{G:PV->Prop}(h:oo C I k x=O u)(f:dv C k=bn->dF C k x=O u->G u)(J:dv C k=bn->∀A i,aY I k=O A->aG A x=O i->G (.ab i)):G u:=by
 unfold oo at h
 cases D:dv C k with
 |true=>rw [D]at h;exact aH h
 |false=>
  rw [D]at h
  cases F:dF C k x with
  |some p=>rw [F]at h;exact f D (F.trans h)
  |none=>
   rw [F]at h
   exact aQ (On.mp h) λi H q=>aQ (sD.mp H) λA L H=>q▸J D A i L H
theorem Of{P:PM}{s:ce}{k x:X}{u:PV}{A:W (X×al)}{m:f8->im bm}(I:aS g P F s)(J:aY F k=O A)(L:oo g.Φ F k x=O u)
  (R:∀p,dF g.Φ k x=O p->∃v,g.F k x=O v∧m (aZ x)=O v) (S:∀i,aG A x=O i->∃t,m (aZ x)=O (.int i t)):∃v,m (aZ x)=O v∧ar g.w g.az P v u:=
 oo.E (G:=λu=>∃v,m (aZ x)=O v∧ar g.w g.az P v u) L (λY H=>aQ (I.ll _ _ _ H) λv U Z=>aQ (R _ H) λd C a=>(ay v (a.trans (C.symm.trans U)) Z))
  λY D i E b=>(S i (ii (J.symm.trans E)▸b)).elim λt c=>(ay _ c (.ab i t))
theorem zJ.E{A:bA}{k:X}{G:PV->Prop}(h:zJ A D k i=O u)(f:∀c,iO A k=am->oo A D k c=O u->G (.ae (.aA c))):G i:=by
 unfold zJ at h
 cases C:iO A k with
 |some t=>rw [C]at h;exact aH h
 |none=>
  rw [C]at h
  cases i with
  |ae p=>cases p<;>first|exact aH h|exact f _ C h
  |_=>exact aH h
theorem CV.E{A:bA}{v i:PV}{K:PV->Prop}{G:PV->PV->Prop}(h:CV A C v i K)(D:∀k c u,iO A k=am->oo A C k c=O u->K u->G (.ah k) (.ae (.aA c)))(F:∀u,eN v i=O u->K u->G v i):G v i:=by
 cases v<;>first|exact oS.E h F|exact oS.E h λu e q=>zJ.E e λc H I=>D _ c u H I q
theorem SE.ag{a i:kt}{o y:MX}(ha:SE g n B a o)(hi:SE g n B i y):SE g n B (.Subscript a i p) (.ag o y):=by
 refine ⟨?_⟩
 intro A env L P vs ob s Q F R a I q
 refine Subscript_ (EP.bJ (ha.go F R a I q) λv s1 r1 bu ob1 P1 q1 a1 I1 D G1=>EP.bJ (hi.go F R a1 I1 q1) λv2 s2 r2 cO cf S H a2 E J U=>?_)
 have D:=D.bU U.le
 refine CV.E (G:=λr1 r2=>ar g.w g.az S v r1->ar g.w g.az S v2 r2->ca _ _ _ (EP g env L P s Q) a9 s2) H (λk c u Z hu H D J=>?_) (λu e H D J=>EP.jO a2 E (G1.bD U) H (aau E.ag D J e)) D J
 refine eD D.I λa' d q f=>aQ J.I λt q' Y=>dk (E.ah k a' d f) λnums hn ho Y=>?_
 have C:dv g.Φ k=bn:=oo.E (G:=λY=>dv g.Φ k=bn) hu (λh Y=>h) λh Y Y Y Y=>h
 cases ho with
 |gD _ _ h=>exact jf (h.symm.trans C)
 |ie _ _ _ _ h=>
  unfold iO at Z
  rw [C]at Z
  exact QT Z h
 |cD j _ _ e DH hD _ h1 h2=>
  exact eR q (eR q' (eR e (aQ (Of (m:=Rs j) E hn hu (λp=>h1 c p) λi=>h2 c i) λw hv hr=>EP.jO a2 E (G1.bD U) H (t7 hD.typeIs YX.lookup (wpAny_getItem_of qF hD.mapOf hv (ay S (bq.fB E.ag _) hr))))))
theorem SE.kz(E:SE g n B a H):SE g n B (.UnaryOp .USub a p) (.kz H):=by
 refine ⟨?_⟩
 intro A env J P b c s Q F R a I q
 exact wpAny_UnaryOp (EP.bJ (E.go F R a I q) λv d e L S f C U D Y Z=>Y.oI C λi t q C=>eR q (EP.jO U D Z C (neg_int (ay _ (bq.fB D.ag _) (.ab _ _)))))
theorem SE.d3(E:SE g n B a H):SE g n B (.UnaryOp .Not a p) (.d3 H):=by
 refine ⟨?_⟩
 intro A env J P c d s Q F R a I q
 exact wpAny_UnaryOp (EP.bJ (E.go F R a I q) λv e f L S h C U D Y Z=>Y.oB C λb q C=>eR q (EP.jO U D Z C (not_of (Fg (ay _ (bq.bQ D.ag) (.aJ _))))))
end
theorem OV(h:x≠y):pi x y=bn:=by
 cases e:pi x y with
 |false=>rfl
 |true=>exact nw (AC e) h
theorem fI{A:Type}{k x:X}{u:A}{r:W (X×A)}:aG ((k,u)::r) x=if k=x then O u else aG r x:=by
 by_cases h:k=x
 ·exact (bT (h▸Bw k)).trans (jp h).symm
 ·exact (bF (OV h)).trans (f0 h).symm
theorem aaA{A:Type}{k x:X}{u v:A}{r:W (X×A)}:aK ((k,u)::r) x v=if k=x then(k,v)::r else(k,u)::aK r x v:=by
 by_cases h:k=x
 ·exact (bT (h▸Bw k)).trans (jp h).symm
 ·exact (bF (OV h)).trans (f0 h).symm
theorem gg{B:Type}:∀(l:W (X×B)) (x y:X) (v:B),aG (aK l x v) y=if x=y then O v else aG l y:=λl=>gV l (λx y v=>fI) λk u r C x y v=>by
  refine eR aaA (eR fI ?_)
  by_cases A:k=x
  ·refine eR (jp A) (eR fI (eR A ?_))
   by_cases h:x=y
   ·rw [jp h,jp h]
   ·exact eR (f0 h) (eR (f0 h) (eR (f0 h) N))
  ·refine eR (f0 A) (eR fI (eR (C x y v) ?_))
   by_cases h:k=y
   ·rw [jp h,jp h,f0 λq=>A (h.trans q.symm)]
   ·exact eR (f0 h) (eR (f0 h) N)
section
variable{g:Gh}
theorem dr.tb{P:PM}{h:li}{a:be}{v:im bm}(y:h.IsCell a v):∀{p:PV},dr g P h a p->wn
 |.aj _,x=>aQ y λo A B=>bX x λH n E Y Y=>by
  obtain rfl:=ii (A.symm.trans E)
  cases B
 |.a8 _,x=>aQ y λo A B=>x.2.elim λF z=>xl z.1 λI J L C Y D=>by
  obtain rfl:=ii (A.symm.trans C)
  exact Fh (B.symm.trans D.1)
theorem dr.aeI{P:PM}{h:li}{a:be}(A:P a=am):∀{p:PV},dr g P h a p->∃o,h.get? a=O o∧ar g.w g.az (P.cS a o) (.ref a) p
 |.aj _,x=>bX x λY Y B C D=>(ay _ B (.aj (PM.ir ..) (C.bU (PM.pU A)) D))
 |.a8 _,x=>x.2.elim λY k=>aQ (F0 k.1 x.1) λo E F=>(ay o E (.a8 (PM.ir ..) F (k.2.1.bU (PM.pU A)) k.2.2))
theorem PM.A_{P:PM}{a b:be}{o A:Db}{G:Prop}(k:P.cS a o b=O A)(B:b=a->A=o->G)(C:P b=O A->G):G:=by
 unfold PM.cS at k
 by_cases q:b=a
 ·rw [jp q]at k;exact B q (ii k).symm
 ·rw [f0 q]at k;exact C k
theorem lI{A:Type}{l:W (X×A)}{x y:X}{v u:A}{G:Prop}(k:aG (aK l x v) y=O u)(B:x=y->v=u->G)(C:x≠y->aG l y=O u->G):G:=by
 rw [gg]at k
 by_cases q:x=y
 ·rw [jp q]at k;exact B q (ii k)
 ·rw [f0 q]at k;exact C q k
theorem aS.H9{P B:PM}{H:ai}{s:ce}(I:aS g P H s)(C:P.le B)(D:B.ag s.heap)(J:∀k a d,aY g.az k=O (a,d)->B d=am):aS g B H s:=
 ⟨λb o k=>C _ _ (I.cJ b o k),D,I.i8,I.os,λk y q L=>aQ (I.ll k y q L) λv E F=>(ay v E (F.bU C)),λk b d R=>dk (I.ah k b d R) λA E F S=>(cq A E (F.ct C λY q=>q) S),I.c_,J,I.fc⟩
theorem aT.adL{env:ln}{F:be->Prop}{P:PM}{H:av}{U:ai}{s:ce}{x:X}{p:PV}(a:aT g env F P H s)(I:aS g P U s)(e:aG H x=O (.aX p)):
  ∃v D,fG env s.heap (aZ x) v∧ar g.w g.az D v p∧aT g env F D (aK H x (.ax p)) s∧aS g D U s∧bW g F P s D s:=by
 refine a.gu.elim λC V=>jd (V.aX x p e) λZ h2 f h4 h5 j=>aQ (j.aeI f) λo ho hr=>?_
 have E:P.le (P.cS (C x) o):=PM.pU f
 refine ⟨.ref (C x),P.cS (C x) o,Z,hr,⟨a.bR,a.ns,⟨(PM.lP (SB h4)).trans a.dq.1,a.dq.2⟩,λy c A=>?_,C,⟨λy q A=>?_,λy q A=>?_,λy z q r A J=>?_⟩⟩,I.H9 E (λb o' k=>?_) λk b d ek=>?_,⟨E,λY Y k Y=>k,λY k=>k,λb o' k=>PM.A_ k (λq Y=>.inr (q▸h2)) .inl⟩⟩
 ·have c:=a.cj y c A
  exact ⟨(PM.lP λq=>c.2.2.elim λv hv=>dr.tb (q▸hv) j).trans c.1,c.2⟩
 ·refine lI A (λB q=>?_) λB A=>aQ (V.ax y q A) λv L R=>(ay v L (R.bU E))
  cases q
  exact (ay _ (B▸Z) hr)
 ·exact lI A (λY q=>cQ.noConfusion q) λB A=>jd (V.aX y q A) λL R k3 k4 k5 k6=>(l9 L R ((PM.lP λS=>B (V.fc x y p q e A S.symm)).trans k3) k4 k5 (k6.ct E λY k=>k))
 ·exact lI A (λY q=>cQ.noConfusion q) λY A=>lI J (λY q=>cQ.noConfusion q) λY J=>V.fc y z q r A J
 ·refine PM.A_ k (λq S=>?_) (I.ag b o')
  rw [q,S];exact ho
 ·exact (PM.lP λq:d=C x=>h5 (dC k b (eL q ek))).trans (I.jL k b d ek)
theorem wI(F:dh env I)(H:(x==("__classdict__" :f8))=bn)(l:fG env s.heap x v)(h:Q v s):
  ca (cr pw g.w) A (loadName env x) Q E s:=by
 rcases l with⟨B,m,C,D⟩|⟨B|B,c,C,D⟩
 ·exact wpAny_loadName_local F.km B C D h
 ·exact wpAny_loadName_cell F.km B C D h
 ·exact wpAny_loadName_free F.km B C D h H
theorem f7(h:fv x=M):aZ (aW x)=x∧(x==("__debug__" :f8))=bn∧(x==("__classdict__" :f8))=bn:=
 B2 h λh A=>B2 h λB C=>(bt (v_.mp B) (Fi _▸C) (Fi _▸A))
variable{n:X}{c:na}
theorem SE.aa(L:fv x=M):SE g n c (.Name x p) (.aa (aW x)):=by
 refine ⟨?_⟩
 intro A env b P C S s Q F R a I q
 obtain ⟨E,H,J⟩:=f7 L
 have q:oC C (aW x) λv C=>Q v C S:=q
 refine oC.E q (λr e q=>?_) λr e q=>?_
 ·refine a.gu.elim λd V=>aQ (V.ax _ _ e) λv B D=>?_
  rw [E]at B
  exact um (wI F J B (EP.kq a I (.bQ ..) q D)) H
 ·refine X25 (a.adL I e) λv f B D U Y Z=>?_
  rw [E]at B
  exact um (wI F J B (EP.kq U Y Z q D)) H
noncomputable def BP(g:Gh)(env:ln)(E:be->Prop)(P:PM)(s:ce)(Q:PV->av->ai->Prop)(b:an)(C:ce):Prop:=
 ∃A B D,Q (.aJ b) A B∧aT g env E D A C∧aS g D B C∧bW g E P s D C
structure ST(g:Gh)(n:X)(c:na)(e:kt)(m:MX):Prop where
 go:∀{A:pc} {env:ln} {hb:be->Prop} {P:PM} {vs:av} {ob:ai} {s:ce} {Q:PV->av->ai->Prop},dh env c->eW A n->aT g env hb P vs s->aS g P ob s->
  bB (ba g.Φ n) g.Φ m vs ob Q->(∀r vs ob,Q r vs ob->∃b,r=.aJ b)->ca (cr pw g.w) A (sG e env (Fk e env)) (BP g env hb P s Q) a9 s
theorem BP.bJ(h:ca (cr pw g.w) A t (BP g env F P s Q) a9 s)
  (k:∀b D B C E,Q (.aJ b) B C->aT g env F E B D->aS g E C D->bW g F P s E D->R b D):ca (cr pw g.w) A t R a9 s:=
 ss h (λb D y=>cw y λB C E q a I G=>k b D B C E q a I G) λY Y f=>f
theorem ar.oV{G:Prop}(x:ar g.w g.az P v r)(h:∃b,r=.aJ b)(f:∀b,v=.bool b->r=.aJ b->G):G:=
 h.elim λb e=>f b (show v=_ from(e▸x:ar g.w g.az P v (.aJ b)).I) e
theorem BP.of(h:ca (cr pw g.w) A t (EP g env E P s Q) a9 s)(B:∀r F H,Q r F H->∃b,r=.aJ b):
  ca (cr pw g.w) A (do let v ←t;qQ p;mI [v] (truthy v)) (BP g env E P s Q) a9 s:=by
 exact dL (EP.bJ h λv R r C D J q a I x G=>gS (sF (x.oV (B _ _ _ q) λb e L=>eR e (Fg (gB C D J (L▸q) a I G)))))
end
section
variable{g:Gh}{n:X}{d:na}
theorem ST.of(h:SE g n d e m)(B:∀env t,sG e env t=(do let v ←t;qQ e.pos;mI [v] (truthy v))):ST g n d e m:=by
 refine ⟨?_⟩
 intro A env D P E H s Q F R a I q C
 exact eR (B ..) (BP.of (h.go F R a I q) C)
theorem ST.eE:ST g n d e .eE:=⟨λY Y Y Y q Y=>q.elim⟩
theorem oB.oV{K:an->Prop}(h:Internal.oB r K):∃b,r=.aJ b:=by
 cases r<;>first|exact Ps h|exact ⟨_,N⟩
theorem ST.d3(D:ST g n d a E):ST g n d (.UnaryOp .Not a p) (.d3 E):=by
 refine ⟨?_⟩
 intro A env S P H J s Q F R ac I q U
 exact wpAny_isTrue_Not (BP.bJ (D.go F R ac I q λr H J h=>oB.oV h) λb Y B C L q a I G=>(gB B C L q a I G))
theorem ST.ao(S:SE g n d a U)(Y:SE g n d b Z)(c:Mw E b=bn):ST g n d (.Compare a [E] [b] p) (.ao E U Z):=by
 refine ⟨?_⟩
 intro A env f P vs ob s Q F R a I q i
 refine wpAny_isTrue_Compare1 (EP.bJ (S.go F R a I q) λv s1 r1 j l P1 m o t w y=>EP.bJ (Y.go F R o t m) λv2 s2 r2 cO cf P2 B a2 H x2 J=>Lr H R (w.bU J.le) x2 B λu h B=>?_) c
 exact EP.bJ (EP.jO a2 H (.bQ ..) B h) λv s3 r C D P3 L a3 I3 x3 G3=>x3.oV (i _ _ _ L) λb e e'=>eR e (Fg (gB C D P3 (e'▸L) a3 I3 ((y.bD J).bD G3)))
theorem SE.aF{t a b:kt}{S U Y:MX}(Z:ST g n d t S)(f:SE g n d a U)(j:SE g n d b Y):SE g n d (.IfExp t a b p) (.aF S U Y):=by
 refine ⟨?_⟩
 intro A env o P y ob s Q F R ac I q
 refine wpAny_IfExp (BP.bJ (Z.go F R ac I q λr y ob h=>oB.oV h) λc s' vs' aN P' q a I G=>?_)
 cases c with
 |true=>exact EP.bJ (f.go F R a I q) λv s2 r B C P2 D E H J L=>EP.kq E H (G.bD L) D J
 |false=>exact EP.bJ (j.go F R a I q) λv s2 r B C P2 D E H J L=>EP.kq E H (G.bD L) D J
theorem ST.aF{t a b:kt}{S U Y:MX}(f:ST g n d t S)(j:ST g n d a U)(o:ST g n d b Y):ST g n d (.IfExp t a b p) (.aF S U Y):=by
 refine ⟨?_⟩
 intro A env y P vs ob s Q F R ac I q Z
 refine (?_:ca _ _ (do if←sG t env (Fk t env)then sG a env (Fk a env)else sG b env (Fk b env)) _ _ s)
 refine dL (BP.bJ (f.go F R ac I q λr vs ob h=>oB.oV h) λc s' vs' aN P' q a I G=>?_)
 cases c with
 |true=>exact BP.bJ (j.go F R a I q Z) λv s2 B C D E H J L=>(gB B C D E H J (G.bD L))
 |false=>exact BP.bJ (o.go F R a I q Z) λv s2 B C D E H J L=>(gB B C D E H J (G.bD L))
class inductive dD(g:Gh)(n:X)(d:na):W kt->W MX->Prop
 |aU:dD g n d [] []
 |bg {e:kt} {m:MX} {es:W kt} {ms:W MX}:wG e=M->(∀x,m=.aa x->∃y p,e=.Name y p∧x=aW y∧fv y=M)->SE g n d e m->ST g n d e m->dD g n d es ms->dD g n d (e::es) (m::ms)
theorem dD.bO(h:dD g n d A B):B.length=A.length:=by
 induction h with
 |aU=>rfl
 |bg _ _ _ _ _ C=>rw [Da,Da,C]
theorem ND:xu C D E (m::F::H) A B Q=bB C D m A B λv A B=>Internal.oB v λb=>Nv E b (xu C D E (F::H) A B Q) (Q (.aJ b) A B):=N
theorem SE.cE(h:dD g n d H D):SE g n d (.BoolOp B H p) (.cE B D):=by
 refine ⟨?_⟩
 intro A env hb P J L s Q F R a I q
 refine eR (arm_eval_BoolOp ..) ?_
 replace q:xu (ba g.Φ n) g.Φ B D J L Q:=q
 induction h generalizing P J L s with
 |aU=>exact q.elim
 |@bg e m H D j hv S ht o y=>
  cases o with
  |aU=>exact S.go F R a I q
  |@bg e2 m2 E ms2 U rZ he2 xT rV=>
   show ca _ _ (do
    let v ←Fk e env
    qQ p
    let t ←mI [v] (truthy v)
    match B,t with
    |.And,bn|.Or,M=>re v
    |_,_=>boolOp p B (evalEach (e2::E) env)) _ _ _
   rw [ND]at q
   refine dL (EP.bJ (S.go F R a I q) λv s1 r bu ob1 P1 C Y Z x1 f=>gS (gy (x1.oB C λb e C=>eR e (Fg ?_))))
   cases B<;>cases b<;>first
    |exact lf (EP.kq Y Z f C (.aJ _))
    |exact EP.bJ (y Y Z C) λv s2 r cO cf P2 q2 a2 I2 x2 G2=>EP.kq a2 I2 (f.bD G2) q2 x2
theorem ST.cE(h:dD g n d E U):ST g n d (.BoolOp B E p) (.cE B U):=by
 refine ⟨?_⟩
 intro A env hb P Y Z s Q F R a I q hq
 refine (?_:ca _ _ (allTrue B E env) _ _ s)
 replace q:xu (ba g.Φ n) g.Φ B U Y Z Q:=q
 induction h generalizing P Y Z s with
 |aU=>exact q.elim
 |@bg e m E U jE hv he y hr ih=>
  show ca _ _ (do
   match B,←sG e env (Fk e env)with
   |.And,bn=>re bn
   |.Or,M=>re M
   |_,_=>allTrue B E env) _ _ s
  cases hr with
  |aU=>
   refine dL (BP.bJ (y.go F R a I q hq) λb s1 C D f H J L S=>?_)
   cases B<;>cases b<;>exact lf (gB C D f H J L S)
  |@bg e2 m2 lC ms2 ajP rZ he2 xT rV=>
   rw [ND]at q
   refine dL (BP.bJ (y.go F R a I q λr Y Z h=>oB.oV h) λb s1 C D f H J L S=>?_)
   cases B<;>cases b<;>first
    |exact lf ⟨C,D,f,H,J,L,S⟩
    |exact BP.bJ (ih J L H) λb s2 j o P2 q2 a2 I2 G2=>(gB j o P2 q2 a2 I2 (S.bD G2))
noncomputable def lq(g:Gh)(env:ln)(E:be->Prop)(P:PM)(s:ce)(Q:W PV->av->ai->Prop)(H:W bm)(D:ce):Prop:=
 ∃F A B C,Q F A B∧aT g env E C A D∧aS g C B D∧bH g.w g.az C H F∧bW g E P s C D
theorem lq.bJ(h:ca (cr pw g.w) A t (lq g env F P s Q) a9 s)
  (k:∀v D r B C E,Q r B C->aT g env F E B D->aS g E C D->bH g.w g.az E v r->bW g F P s E D->R v D):ca (cr pw g.w) A t R a9 s:=
 ss h (λv D y=>rG y λr B C E q a I x G=>k v D r B C E q a I x G) λY Y f=>f
theorem vR(h:wG e=M):uo (e::A) env=(bn,Fk e env)::uo A env:=by
 cases e<;>first|rfl|exact bY h
theorem dD.mT(h:dD g n d S E):∀{A:pc} {env:ln} {D:be->Prop} {P:PM} {B:av} {C:ai} {s:ce} {Q:W PV->av->ai->Prop},dh env d->eW A n->aT g env D P B s->aS g P C s->
  dP (ba g.Φ n) g.Φ E B C Q->ca (cr pw g.w) A (uq (yz pos (uo S env))) (lq g env D P s Q) a9 s:=by
 induction h with
 |aU=>intro A env D P B C s Q F R a I q;exact lf (d6 [] B C P q a I .aU (.bQ ..))
 |@bg e m S E H hv Z ht hr f=>
  intro A env D P B C s Q F R a I q
  replace q:bB (ba g.Φ n) g.Φ m B C λv B C=>dP (ba g.Φ n) g.Φ E B C λU B C=>Q (v::U) B C:=q
  exact eR (vR H) (yA (EP.bJ (Z.go F R a I q) λv s1 r j o P1 y a1 I1 x1 G1=>lq.bJ (f F R a1 I1 y) λU s2 rs J L P2 q2 a2 I2 x2 Y=>(d6 _ J L P2 q2 a2 I2 (.bg (x1.bU Y.le) x2) (G1.bD Y))))
theorem dD.bK(h:dD g n d B C):(yz pos (uo B env)).any (·.1)=bn:=by
 induction h with
 |aU=>rfl
 |@bg e m B C A _ _ _ _ D=>rw [vR A];exact D
theorem SE.af(h:dD g n d D E):SE g n d (.Tuple D k p) (.af E):=by
 refine ⟨?_⟩
 intro A env Z P b c s Q F R a I q
 exact eR (arm_eval_Tuple ..) (gS (dL (lq.bJ (h.mT F R a I q) λe f i H J j B L C S U=>oT.E B λY B=>EP.jO L C U B (Ua C.ag S (ww Y)))))
theorem SE.cK(h:dD g n d D E):SE g n d (.List D p) (.cK E):=by
 refine ⟨?_⟩
 intro A env Z P b c s Q F R a I q
 exact eR (arm_eval_List ..) (gS (dL (lq.bJ (h.mT F R a I q) λe f i H J j B L C S U=>oT.E B λY B=>EP.jO L C U B (Us C.ag S (ww Y)))))
end
section
set_option genSizeOf false
set_option genInjectivity false
noncomputable def HL(A:na):an:=ci (A.kind=.function)&&!A.isCoroutine&&!A.isGenerator&&A.names.all λx=>match x.2 with
 |.free=>bn
 |_=>M
structure xx where
 nm:f8
 Qu:f8
 st:sB
 pm:bm
 cd:X
 i4:W f8
@[reducible]noncomputable def xx.ah(r:xx):Bk:=z0 r.nm r.Qu r.st r.pm (.ref r.cd)
noncomputable def PA(K:TT)(A:xw)(r:xx):an:=codeIn K (.ref r.cd) r.Qu&&(mZ A.tu (cR r.st) (lR r.st)&&(HL (cR r.st)&&(ci (A.B_=r.i4.map aW)&&(r.i4.all (e9 (cR r.st))&&ci r.i4.Nodup))))
structure agh(K:TT)(a:be)(fi:xw)(r:xx):Prop where
 ah:K.lookup a=O ⟨.type "function",am,.func r.ah,#[]⟩
 ib:∀bC:W bm,bC.length=r.i4.length->bindArgs r.ah ⟨bC,[]⟩=re (r.i4.zip bC)
 nt:PA K fi r=M
@[reducible]noncomputable def fg:bm:=.str "relfinder.opening" 285
@[reducible]noncomputable def lu:bm:=.str "relfinder.sigs" 834
@[reducible]noncomputable def iD:bm:=.str "law_nu0252_01" 1063
noncomputable def adM:W xx:=[
⟨"all_of","all_of",b_ 13,fg,103,["formulas"]⟩,
⟨"united","united",b_ 14,fg,110,["exprs"]⟩,
⟨"fresh","Names.fresh",au 15 1,fg,131,["self","name"]⟩,
⟨"rel","Names.rel",au 15 2,fg,138,["self","name"]⟩,
⟨"owners","Names.owners",au 15 3,fg,143,["self","name"]⟩,
⟨"orders_of","Names.orders_of",au 15 4,fg,148,["self","name"]⟩,
⟨"places","Names.places",au 15 5,fg,153,["self","name"]⟩,
⟨"named","Names.named",au 15 6,fg,158,["self","name","spot"]⟩,
⟨"arity","Names.arity",au 15 10,fg,184,["self","expr"]⟩,
⟨"arity_of_relation","Names.arity_of_relation",au 15 11,fg,189,["self","r"]⟩,
⟨"form","Opener.form",au 16 0,fg,210,["self","node","env"]⟩,
⟨"form_of_call","Opener.form_of_call",au 16 1,fg,217,["self","name"]⟩,
⟨"value","Opener.value",au 16 2,fg,224,["self","node","env"]⟩,
⟨"let_env","Opener.let_env",au 16 3,fg,231,["self","node","env"]⟩,
⟨"begun","Opener.begun",au 16 4,fg,238,["self","node","env"]⟩,
⟨"call_of","Opener.call_of",au 16 5,fg,245,["self","node","env"]⟩,
⟨"call_env","Opener.call_env",au 16 6,fg,250,["self","name","args","env"]⟩,
⟨"truth","Opener.truth",au 16 7,fg,255,["self","node","env"]⟩,
⟨"compared","Opener.compared",au 16 9,fg,269,["self","node","env"]⟩,
⟨"decls_of","Opener.decls_of",au 16 10,fg,274,["self","decls","env"]⟩,
⟨"quantified","Opener.quantified",au 16 11,fg,281,["self","q","decls","body","env"]⟩,
⟨"expr","Opener.expr",au 16 12,fg,288,["self","node","env"]⟩,
⟨"wanted","Opener.wanted",au 16 16,fg,314,["self","value","form","spot"]⟩,
⟨"called_expr","Opener.called_expr",au 16 17,fg,321,["self","name","args","env","spot"]⟩,
⟨"number","Opener.number",au 16 18,fg,328,["self","node","env"]⟩,
⟨"is_marked","Opener.is_marked",au 16 19,fg,335,["self","node"]⟩,
⟨"bounded","Opener.bounded",au 16 20,fg,342,["self","value","node","env"]⟩,
⟨"goal","Opener.goal",au 16 27,fg,387,["self","command"]⟩,
⟨"witnessed","Opener.witnessed",au 16 29,fg,399,["self","name","spot"]⟩,
⟨"has","Signatures.has",au 19 9,lu,477,["self","name"]⟩,
⟨"fields","Signatures.fields",au 19 20,lu,554,["self"]⟩,
⟨"orders","Signatures.orders",au 19 22,lu,568,["self"]⟩,
⟨"_law_draw","_law_draw",b_ 21,iD,582,["feed","many"]⟩,
⟨"_law_name","_law_name",b_ 22,iD,589,["feed"]⟩,
⟨"_law_decl","_law_decl",b_ 23,iD,596,["feed","deep"]⟩,
⟨"_law_set","_law_set",b_ 24,iD,603,["feed","scope","deep"]⟩,
⟨"_law_number","_law_number",b_ 25,iD,610,["feed","scope","deep"]⟩,
⟨"_law_truth","_law_truth",b_ 26,iD,617,["feed","scope","deep"]⟩,
⟨"_law_joined","_law_joined",b_ 27,iD,622,["one","other"]⟩,
⟨"_law_mixed","_law_mixed",b_ 28,iD,627,["sign","one","other"]⟩,
⟨"_law_many","_law_many",b_ 29,iD,634,["kind","many","whole"]⟩,
⟨"_law_ways","_law_ways",b_ 30,iD,639,["decl","env","model"]⟩,
⟨"_law_called","_law_called",b_ 31,iD,646,["name","node","env","model"]⟩,
⟨"_law_bin","_law_bin",b_ 32,iD,651,["node","env","model"]⟩,
⟨"_law_node","_law_node",b_ 33,iD,656,["node","env","model"]⟩,
⟨"_law_choices","_law_choices",b_ 34,iD,661,["decls","env","world"]⟩,
⟨"_law_rows","_law_rows",b_ 35,iD,666,["expr","env","world"]⟩,
⟨"_law_count","_law_count",b_ 36,iD,671,["i","env","world"]⟩,
⟨"_law_holds","_law_holds",b_ 37,iD,676,["f","env","world"]⟩,
⟨"_law_world","_law_world",b_ 38,iD,681,["feed"]⟩,
⟨"look_above","Signatures.look_above",au 19 2,lu,432,["self","name"]⟩,
⟨"direct","Signatures.direct",au 19 3,lu,439,["self","name"]⟩,
⟨"parents_first","Signatures.parents_first",au 19 4,lu,444,["self"]⟩,
⟨"all_fields","Signatures.all_fields",au 19 5,lu,451,["self"]⟩,
⟨"look_fields","Signatures.look_fields",au 19 6,lu,458,["self"]⟩,
⟨"parent","Signatures.parent",au 19 11,lu,491,["self","name"]⟩,
⟨"supers","Signatures.supers",au 19 12,lu,498,["self","name"]⟩,
⟨"is_subset","Signatures.is_subset",au 19 13,lu,505,["self","name"]⟩,
⟨"all_above","Signatures.all_above",au 19 17,lu,533,["self","name"]⟩,
⟨"take_sig","Signatures.take_sig",au 19 1,lu,425,["self","item"]⟩,
⟨"law","law",b_ 39,iD,686,["script"]⟩]
noncomputable def zM(v:X->bm)(n:X):X->W bm:=nr (λ_=>[]) (λ_ A i=>v i::A (i+1)) n
theorem acA:∀{l m:W bm},zM (λi=>((m++l)[i]?).getD .none) l.length m.length=l:=λ{l}=>no_implicit_lambda% (cB l (@λY=>N) λa l A {m}=>by
  have h:=A (m:=m++[a])
  rw [qU,xz,List.singleton_append]at h
  refine (?_:_::zM _ l.length (m.length+1)=_)
  refine (lc (_::·) h).trans (?_:((m++a::l)[m.length]?).getD _::_=_)
  refine eR (List.getElem?_append_right (ul _) ..) (eR (Nat.sub_self ..) ?_)
  rfl)
noncomputable def w0:W ((X×xw)×xx):=wY.zip adM
theorem VJ(P:xL):w0.map (λx=>(K P).lookup x.1.1)=w0.map λx=>O ⟨.type "function",am,.func x.2.ah,#[]⟩:=by kernel_rfl
theorem U4(v:X->bm):w0.map (λx=>bindArgs x.2.ah ⟨zM v x.2.i4.length 0,[]⟩)=w0.map λx=>re (x.2.i4.zip (zM v x.2.i4.length 0)):=by kernel_rfl
theorem VK(P:xL):(w0.all λx=>PA (K P) x.1.2 x.2)=M:=by kernel_rfl
theorem adN:w0.map (·.1)=wY:=by kernel_rfl
theorem sU{A:Type}:∀{l:W (X×A)} {x:X} {v:A},aG l x=O v->(x,v)∈l
 |(k,u)::r,x,v,h=>by
  have h:(bif pi k x then O u else aG r x)=O v:=h
  cases e:pi k x with
  |true=>rw [e]at h;cases h;rw [AC e];exact wf ..
  |false=>rw [e]at h;exact wv _ (sU h)
theorem PB(P:xL)(h:aG wY a=O C):∃r,agh (K P) a C r:=by
 have B:=sU h
 rw [←adN]at B
 obtain ⟨⟨p,r⟩,B,rfl⟩:=No.mp B
 refine ⟨r,Zb.mp (VJ P) _ B,λA D=>?_,Do.mp (VK P) _ B⟩
 have e:=Zb.mp (U4 λi=>(([]++A)[i]?).getD .none) _ B
 dsimp only at e
 rw [←D,show zM _ A.length 0=A from acA (m:=[])]at e
 exact e
end
noncomputable def tC(P:xL):sK DictEntry:=match(K P).lookup 3 with|some ⟨_,_,.dict A _,_⟩=>A|_=>#[]
theorem adO(P:xL):∃c d A B,(K P).lookup 3=O ⟨c,d,.dict (tC P) A,B⟩:=(xi _ _ _ _ N)
noncomputable def Hs(o:im bm)(a:be):an:=match o with
 |some (.ref b)=>pi b a
 |_=>bn
theorem NF{o:im bm}{a:be}(h:Hs o a=M):o=O (.ref a):=by
 cases o with
 |none=>exact bY h
 |some v=>cases v<;>first|exact bY h|exact lc (λb=>O (Ev b)) (AC h)
theorem adP(P:xL):(GB.all λp=>Hs (sx (tC P) (aZ p.1)) p.2)=M:=by kernel_rfl
theorem WW(P:xL):(Ob.all λp=>Hs (sx (tC P) (aZ p.1)) p.2)=M:=by kernel_rfl
noncomputable def eU:W (X×bm):=[(Ct,.builtin "len"),(Cs,.builtin "abs"),(B3,.type "tuple"),(q9,.type "list"),(zt,.builtin "sum"),(uH,.builtin "sorted"),(q8,.type "dict"),(Hp,.type "set"),
 (Cu,.type "zip"),(D6,.type "enumerate"),(GD,.type "range")]
theorem adQ(P:xL):(eU.all λp=>(sx (tC P) (aZ p.1)).isNone)=M:=by kernel_rfl
noncomputable def NG(o:im bm)(v:bm):an:=match v,o with
 |.builtin a,O (.builtin b)=>a==b
 |.type a,O (.type b)=>a==b
 |_,_=>bn
theorem WX{o:im bm}{v:bm}(h:NG o v=M):o=O v:=by
 cases v<;>first
  |exact bY h
  |(cases o with
   |none=>exact bY h
   |some u=>cases u<;>first|exact bY h|rw [v_.mp h])
theorem acB:(eU.all λp=>NG (MM (aZ p.1)) p.2&&!(aZ p.1==("__name__" :f8)))=M:=by kernel_rfl
section
variable{g:Gh}
theorem Og(B:cI g){P:PM}{F:ai}{s:ce}(I:aS g P F s):∃A C,s.heap.Ns ua A∧s.heap.Ns Ff C∧(∀x,A x=sx (tC g.w.params) x)∧∀x:f8,x≠"__name__" ->C x=MM x:=by
 refine bX B.b_ λA C D H J=>(zU A C (D.keeps I.l5) (H.keeps I.l5) (λx=>?_) J)
 refine cw D λo Y Z L E a R=>(adO g.w.params).elim λc e=>cC e λd S b e=>?_
 have U:=ii (L.symm.trans (B.K 3 _ e))
 rw [U]at E
 exact eL (R x) (eL ((Data.dict.inj E).1) N)
theorem F3{A:Type}{l:W (X×A)}{f:X×A->an}(h:l.all f=M){x:X}{v:A}(e:aG l x=O v):f (x,v)=M:=Do.mp h _ (sU e)
variable{A:pc}{env:ln}{b:na}
theorem J9{s:ce}{x:f8}{Q:bm->ce->Prop}{E:bm->ce->Prop}(F:dh env b)(B:gU b x=M)(h:ca (cr pw g.w) A (loadGlobal env x) Q E s):ca (cr pw g.w) A (loadName env x) Q E s:=by
 refine B2 B λB Y=>aQ (oa.E B) λk e C=>?_
 have D:env.kindOf x=O k:=(F.i4 x k e).elim id λh=>nw (h.1▸C) (by decide)
 cases k with
 |globalImplicit=>rw [loadName_read F.km D];exact h
 |globalExplicit=>rw [loadName_declared F.km D];exact h
 |_=>exact nw C (by decide)
theorem yi{x:f8}(B:gU b x=M):fv x=M:=(KM.mp B).2
theorem BR(B:cI g){P:PM}{D:ai}{s:ce}(I:aS g P D s){x:f8}{p:KF}{a:be}{Q:bm->ce->Prop}{E:bm->ce->Prop}(F:dh env b)(C:gU b x=M)
  (e:sx (tC g.w.params) x=O (.ref a)) (h:Q (.ref a) s):ca (cr pw g.w) A (Fk (.Name x p) env) Q E s:=
 qm (Og B I) λL R H S J U=>um (J9 F C (loadGlobal_global (eR F.Gz H) ((J x).trans e) h)) (f7 (yi C)).2.1
theorem GO(B:cI g){P:PM}{R:ai}{s:ce}(I:aS g P R s){x:f8}{p:KF}{v:bm}{Q:bm->ce->Prop}{E:bm->ce->Prop}(F:dh env b)(D:gU b x=M)
  (e:aG eU (aW x)=O v) (h:Q v s):ca (cr pw g.w) A (Fk (.Name x p) env) Q E s:=by
 have H:=f7 (yi D)
 have J:=Do.mp (adQ g.w.params) _ (sU e)
 have L:=Do.mp acB _ (sU e)
 simp only [H.1]at J L
 exact B2 L λS C=>qm (Og B I) λc d U Y Z a=>um (J9 F D (loadGlobal_builtin (eR F.Gz U) ((Z x).trans (Option.isNone_iff_eq_none.mp J)) (eR F.Nu Y) ((a x (by simpa using C)).trans (WX S)) h)) H.2.1
end
section
variable{g:Gh}
theorem B5{w:lw}{D A:W (be×be)}{P B:PM}(k:∀a C n,P a=O (f_ C n)->B a=O (f_ C n)){v:bm}{p:PV}(r:ar w D P v p):p.dS=M->ar w A B v p:=
 ar.rec (motive_1:=λv p Y=>p.dS=M->ar w A B v p) (motive_2:=λC l Y=>dY l=M->bH w A B C l) (motive_3:=λY Y Y=>WF)
  (λY=>.bG) (λb Y=>.aJ b) (λi t Y=>.ab i t) (λp t o Y=>.ae p t o) (λe Y l E g=>.af (k _ _ _ e) (E g) l) (λY Y Y Y g=>bY g) (λY Y Y Y Y g=>bY g) (λY g=>bY g)
  (λY=>.aU) (λY Y i j g=>.bg (i (kH g).1) (j (kH g).2)) tt (λY Y Y Y Y=>tt) r
theorem F5{w:lw}{B A:W (be×be)}{P C:PM}(k:∀a D n,P a=O (f_ D n)->C a=O (f_ D n)):∀{p:W PV} {v:W bm},bH w B P v p->dY p=M->bH w A C v p:=λ{p}=>no_implicit_lambda% (cB p (@λv r Y=>eR (show v=[] from r.I) .aU) λY Y E {Y} r h=>bX r.I λY Y q F H=>q▸.bg (B5 k F (kH h).1) (E H (kH h).2))
theorem F6{w:lw}{B A:W (be×be)}{P C:PM}(k:∀a D n,P a=O (f_ D n)->C a=O (f_ D n)):∀{p:W (PS×PV)} {v:W (f8×bm)},dx w B P v p->dY (p.map (·.2))=M->dx w A C v p:=λ{p}=>no_implicit_lambda% (cB p (@λv r Y=>eR (show v=[] from r.I) .aU) λY Y E {Y} r h=>qm r.I λY Y q o F H=>q▸.bg o (B5 k F (kH h).1) (E H (kH h).2))
set_option tactic.hygienic true in
theorem VL{P C:PM}{h:li}{d:be}(k:∀a A n,P a=O (f_ A n)->C a=O (f_ A n)){p:PV}(D:lT p=M)(x:dr g P h d p):dr g C h d p:=by
 cases p
 case aj l=>exact bX x λA n E F H=>(d_ A n E (F5 k F D) H)
 case a8 l=>exact x.2.elim λB y=>(ff x.1 (cq B y.1 (F6 k y.2.1 D) y.2.2))
 all_goals exact x.elim
theorem qE:∀{A:av},kR A=bn->∀x p,aG A x≠O (.aX p)
 |[],_,x,p,e=>aH e
 |(k,.aX v)::r,h,x,p,e=>jf h
 |(k,.ax v)::r,h,x,p,e=>by
  rw [fI]at e
  by_cases q:k=x
  ·rw [jp q]at e;exact cQ.noConfusion (ii e)
  ·rw [f0 q]at e;exact qE (A:=r) h x p e
theorem dr.zu{P:PM}{h:li}{a:be}{B:sK bm}{n:X}(e:h.get? a=O (f_ B n)):∀{p:PV},dr g P h a p->wn
 |.aj _,x=>bX x λF m C Y Y=>nw (Value.type.inj (lc Obj.cls (ii (C.symm.trans e)))) (by decide)
 |.a8 _,x=>x.2.elim λD y=>xl y.1 λo H I E Y A=>by
  have:=ii (E.symm.trans e)
  rw [this]at A
  exact Fh A.1
theorem fK.cut{P L R:PM}{k:X}{a d:be}{A B:W (X×al)}{h h':li}(x:fK g R k a d A h)(y:fK g P k a d B h')(C:∀b us n,R b=O (f_ us n)->L b=O (f_ us n))(le:P.le L)(S:P.le R):fK g L k a d A h:=by
 cases x with
 |gD i p D E I F H J=>exact .gD i p D E I F H (VL C (H _ _ F) J)
 |cD U D E I F H J Y Z=>exact .cD U D E I F H J Y Z
 |ie f o m D E I F H J Y Z h9 pj AV=>
  cases y with
  |gD _ _ j=>exact bY (D.symm.trans j)
  |cD _ _ j=>exact aH (j.symm.trans E)
  |ie _ o' _ _ _ j=>exact .ie f o m D E (ii ((S _ _ j).symm.trans I)▸le _ _ j) F H J Y Z h9 pj AV
open Classical in
noncomputable def zy(P:PM)(h:li)(a:be->Prop):PM:=λb=>if a b then h.get? b else P b
open Classical in
noncomputable def w3(P:PM)(a:be->Prop):PM:=λb=>if a b then am else P b
theorem uO{P:PM}{h:li}{a:be->Prop}{b:be}(x:¬a b):zy P h a b=P b:=f0 x
theorem GP{P:PM}{h:li}{a:be->Prop}{b:be}(x:a b):zy P h a b=h.get? b:=jp x
theorem wJ{P:PM}{a:be->Prop}{b:be}(x:¬a b):w3 P a b=P b:=f0 x
theorem GQ{P:PM}{a:be->Prop}{b:be}(x:a b):w3 P a b=am:=jp x
theorem KO{P:PM}{a:be->Prop}{b:be}{o:Db}(e:w3 P a b=O o):¬a b∧P b=O o:=
 have h:¬a b:=λh=>aH ((GQ h).symm.trans e)
 ⟨h,(wJ h).symm.trans e⟩
noncomputable def mU(A:av)(B:X->be)(b:be):Prop:=∃x p,aG A x=O (.aX p)∧b=B x
section
variable{env:ln}{l:be->Prop}{P:PM}{f:av}{j:ai}{s:ce}{i:X->be}
theorem uK{b:be}(h:∀x p,aG f x=O (.aX p)->b≠i x):¬mU f i b:=λq=>eD q λx p e A=>h x p e A
theorem NH(V:OU g env l P f s.heap i){b:be}{o:Db}(e:P b=O o):¬mU f i b:=uK λx p A q=>aH ((V.aX x p A).2.2.1.symm.trans (q▸e))
theorem GR{h:li}{A:PM}{a:be}(B:P.le A)(e:A a=h.get? a):∀{p:PV},dr g P h a p->ar g.w g.az A (.ref a) p
 |.aj _,x=>bX x λY Y C D E=>.aj (e.trans C) (D.bU B) E
 |.a8 _,x=>x.2.elim λY k=>aQ (F0 k.1 x.1) λY F H=>.a8 (e.trans F) H (k.2.1.bU B) k.2.2
theorem aT.PC(a:aT g env l P f s)(I:aS g P j s):
  ∃L,P.le L∧aS g L j s∧(∀x p,aG f x=O (.aX p)->∃v,fG env s.heap (aZ x) v∧ar g.w g.az L v p)∧L env.locals=am∧(∀x c,env.cells.lookup x=O c->L c=am)∧
   ∀A R F,aS g A F R->bW g (cN s.heap) L s A R->∃S,aS g S F R∧bW g (cN s.heap) P s S R∧(∀b,A b=am->S b=am)∧(∀v r,ar g.w g.az A v r->(kR f=M->r.dS=M)->ar g.w g.az S v r)∧∀b,s.heap.get? b=am->S b=A b:=by
 refine a.gu.elim λi V=>?_
 have U:P.le (zy P s.heap (mU f i)):=λb o e=>(uO (NH V e)).trans e
 have m:∀x p,aG f x=O (.aX p)->mU f i (i x):=λx p e=>(fV x p e N)
 have t:aS g (zy P s.heap (mU f i)) j s:=by
  refine I.H9 U (λb o k=>?_) λk b d H=>(uO (uK λx p C (q:d=i x)=>(V.aX x p C).2.2.2.2.1 (dC k b (eL q H)))).trans (I.jL k b d H)
  by_cases h:mU f i b
  ·exact (GP h).symm.trans k
  ·exact I.ag b o ((uO h).symm.trans k)
 refine (QP _ U t (λx p e=>(ay _ ((V.aX x p e).1) (GR U (GP (m x p e)) (V.aX x p e).2.2.2.2.2))) ((uO (uK λx p C q=>(V.aX x p C).2.2.2.1 q.symm)).trans a.dq.1) (λx c e=>(uO (uK λy p w q=>(a.cj x c e).2.2.elim λv c3=>dr.tb (q▸c3) (V.aX y p w).2.2.2.2.2)).trans (a.cj x c e).1) (λA R F E G=>?_))
 by_cases hO:kR f=M
 ·have D:P.le (w3 A (mU f i)):=λb o e=>(wJ (NH V e)).trans (G.le _ _ (U _ _ e))
  have B:∀b Z n,A b=O (f_ Z n)->w3 A (mU f i) b=O (f_ Z n):=λb Z n e=>by
   refine (wJ (uK λx p C q=>?_)).trans e
   have h6:=(V.aX x p C).2.2.2.2.2
   refine (lJ.mp h6.ix).elim λo ho=>dr.zu (B:=Z) (n:=n) (ho.trans ?_) h6
   exact (G.le _ _ ((GP (m x p C)).trans ho)).symm.trans (q▸e)
  refine (cz (w3 A (mU f i)) ⟨λb o k=>D _ _ (I.cJ b o k),λb o k=>E.ag b o (KO k).2,E.i8,E.os,λk y q w=>aQ (I.ll k y q w) λv k1 k2=>(ay v k1 (k2.bU D)),λk b d H=>?_,E.c_,λk b d H=>?_,E.fc⟩ ⟨D,G.cH,G.bR,λb o e=>?_⟩ (λb e=>?_) (λv r hr hg=>B5 B hr (hg hO)) (λb e=>wJ (uK λx p C q=>(V.aX x p C).2.2.2.2.2.ix (q▸e))))
  ·exact dk (E.ah k b d H) λJ k1 k2 k3=>dk (I.ah k b d H) λnums Y k2' Y=>(cq J k1 (k2.cut k2' B D (U.bD G.le)) k3)
  ·by_cases h:mU f i d
   ·exact GQ h
   ·exact (wJ h).trans (E.jL k b d H)
  ·have h:=KO e
   exact (G.bN b o h.2).imp (λk=>(uO h.1).symm.trans k) id
  ·by_cases h:mU f i b
   ·exact GQ h
   ·exact (wJ h).trans e
 ·rw [Bool.not_eq_true]at hO
  have:zy P s.heap (mU f i)=P:=T0 λb=>uO (uK λx p C Y=>qE hO x p C)
  rw [this]at G
  exact (cz A E G (λY e=>e) (λv r hr Y=>hr) (λY Y=>N))
theorem aT.dW(a:aT g env l P f s)(I:aS g P j s):
  ∃B,P.le B∧aS g B j s∧(∀x p,aG f x=O (.aX p)->∃v,fG env s.heap (aZ x) v∧ar g.w g.az B v p)∧B env.locals=am∧(∀x c,env.cells.lookup x=O c->B c=am)∧
   ∀C D A,aS g C A D->bW g (cN s.heap) B s C D->∃E,aS g E A D∧bW g (cN s.heap) P s E D∧(∀b,C b=am->E b=am)∧∀v r,ar g.w g.az C v r->(kR f=M->r.dS=M)->ar g.w g.az E v r:=
 xk (a.PC I) λB F H J L R S=>(QP B F H J L R (λC D A U G=>rD (S C D A U G) λE Z d e h Y=>(dG E Z d e h)))
end
end
section
variable{g:Gh}{n:X}{b:na}
noncomputable def CP(g:Gh)(P:PM)(s:ce)(Q:PV->ai->Prop)(v:bm)(C:ce):Prop:=
 ∃r A B,Q r A∧aS g B A C∧ar g.w g.az B v r∧bW g (cN s.heap) P s B C
noncomputable def j'(g:Gh)(n:X):Prop:=∀{A:pc} {P:PM} {C:ai} {s:ce} {a:be} {D:W PV} {B:W bm} {Q:PV->ai->Prop},eW A n->aS g P C s->bH g.w g.az P B D->aR g.Φ n a D C Q->
 ca (cr pw g.w) A (po (.ref a) B) (CP g P s Q) a9 s
theorem OW(h:aR B n a C D Q):∃A,aG wY a=O A:=by
 cases n with
 |zero=>exact Ps h
 |succ n=>exact oS.E (A:=xw) h λA e Y=>⟨A,e⟩
theorem OX(B:cI g)(I:aS g P C s)(e:aG wY a=O D):∃o A,s.heap.get? a=O o∧o.data=.func A:=
 (PB g.w.params e).elim λY h=>(fV _ _ (I.oU B _ _ h.ah) N)
theorem tY(F:args.any (·.1)=bn)(h:ca (cr pw g.w) A (uq args) (λB C=>Q ⟨B,[]⟩ C) E s):
  ca (cr pw g.w) A (evalArgs f M args []) Q E s:=by
 cases args with
 |nil=>
  unfold evalArgs
  refine (?_:ca _ A (uq []>>=_) Q E s)
  refine dL (ss h (λB C H=>?_) λY Y x=>x)
  exact kS (sF (kS (kS (lf H))))
 |cons x D=>
  obtain ⟨I,t⟩:=x
  cases I with
  |true=>cases F
  |false=>exact Calls.evalArgs_plain h
theorem WY(h:dD g n b J L)(F:dh env b)
  (V:∀x C,aG R x=O C->∃v,fG env s.heap (aZ x) v∧ar g.w g.az S v (Pp C)):
  ∀{r:W PV×an} {A:pc} {Q:W bm->ce->Prop},sX L R=O r->(∀B,bH g.w g.az S B r.1->Q B s)->ca (cr pw g.w) A (uq (yz pos (uo J env))) Q a9 s:=by
 induction h with
 |aU=>exact λe k=>lf (k [] (ii e▸.aU))
 |@bg e m J L D E he ht P U=>
  refine λe k=>sX.E e λx C p Y Z f q=>bX (E x Y) λy py j o H=>aQ (V x C Z) λv l P=>?_
  have I:=f7 H
  have q:_=Pp C::p.1:=(lc Prod.fst q).symm.trans (by cases C<;>rfl)
  refine eR (vR D) (eR j ?_)
  rw [o,I.1]at l
  exact yA (um (wI F I.2.2 l (U f λB E=>k _ (q▸.bg P E))) I.2.1)
theorem J'(H:args.any (·.1)=bn)
  (h:ca (cr pw g.w) A (uq args) (λJ B=>(∃o F,B.heap.get? a=O o∧o.data=.func F)∧ca (cr pw g.w) A (po (.ref a) (first++J) []) Q E B) E s):
  ca (cr pw g.w) A (wd pos (.ref a) first args []) Q E s:=by
 unfold wd
 refine gy (ss (tY (Q:=λx B=>(∃o F,B.heap.get? a=O o∧o.data=.func F)∧ca (cr pw g.w) A (po (.ref a) (first++x.pos) x.kw) Q E B) H h) (λx B C=>gS ?_) λY Y x=>x)
 obtain ⟨⟨o,F,L,P⟩,C⟩:=C
 have D:∀{t:wE bm},ca (cr pw g.w) A t Q E B->ca (cr pw g.w) A (t>>=λr=>mI [r] point>>=λY=>re r) Q E B:=
  λR=>dL (ss R (λr I S=>gy (wpAny_point (lf S))) λY Y x=>x)
 refine eR (show(args.any (·.1)||List.any (α:=im f8×wE bm) [] (·.1.isNone))=bn from lc (· ||false) H) (dL (m:=Fj (.ref a)) ?_)
 unfold Fj
 refine dL (MO L (eR P (lf ?_)))
 exact wpAny_ite_split (λY=>D C) λY=>D (by unfold callMarked;exact wpAny_keep C)
theorem CP.bJ(h:ca (cr pw g.w) A t (CP g P s Q) a9 s)
  (k:∀v C r B D,Q r B->aS g D B C->ar g.w g.az D v r->bW g (cN s.heap) P s D C->R v C):ca (cr pw g.w) A t R a9 s:=
 ss h (λv C x=>cw x λr B D q I x G=>k v C r B D q I x G) λY Y f=>f
theorem Ls(B:cI g)(hC:j' g n)(h:dD g n b es ms)
 (F:dh env b) (R:eW A n) (ac:aT g env hb P E s) (I:aS g P D s) (hf:bH g.w g.az P first H)
    (q:w_ (sX ms E) (λJ=>ba g.Φ n a (H++J) D λr D=>r.dS=M∧Q r E D) (dP (ba g.Φ n) g.Φ ms E D λJ E D=>ba g.Φ n a (H++J) D λr D=>Q r E D)):
    ca (cr pw g.w) A (wd pos (.ref a) first (yz pos (uo es env)) []) (EP g env hb P s Q) a9 s:=by
  refine w_.E q (λJ e q=>?_) λq=>?_
  · refine xk (ac.dW I) λPl le f j Y Y L=>?_
    refine J' h.bK (WY h F (λx sl ex=>?_) e λS x=>⟨(OW (q ())).elim λfi e=>OX B I e,CP.bJ (hC R f ((hf.bU le).og x) (q ())) λv s2 r C o U y x2 Z=>dn (L o s2 C y Z) λP' I' G' Y k=>?_⟩)
    · cases sl with
      |aX p=>exact j x p ex
      |ax p=>exact ac.gu.elim λad V=>aQ (V.ax x p ex) λv h1 h2=>(ay v h1 (h2.bU le))
    · exact (d6 r E C P' U.2 (ac.cv G') I' (k v r x2 λY=>U.1) (G'.cJ ac.bR))
  · exact J' h.bK (lq.bJ (h.mT F R ac I q) λS s1 J bu ob1 P1 q1 a1 I1 x1 G1=>⟨(OW (q1 ())).elim λfi e=>OX B I1 e,CP.bJ (hC R I1 ((hf.bU G1.le).og x1) (q1 ())) λv s2 r C o U y x2 Z=>(d6 r bu C o U (a1.cv Z) y x2 (G1.bD (Z.cJ a1.bR)))⟩)
theorem SE.fn(B:cI g)(D:j' g n)(C:gU b f=M)(E:aG GB (aW f)=O a)(h:dD g n b H J):SE g n b (.Call (.Name f L) H [] p) (.fn a J):=by
 refine ⟨?_⟩
 intro A env S P U Y s Q F R ac I q
 refine eR (yB ..) ?_
 have e:=NF (F3 (adP g.w.params) E)
 rw [(f7 (yi C)).1]at e
 exact dL (BR B I F C e (Ls B D h F R ac I (.aU:bH g.w g.az P [] []) q))
end
noncomputable def Ht(K:TT)(C:be)(A:W (X×X)):an:=A.all λp=>ci (Wp K (.ref C) (aZ p.1)=O (O (.ref p.2)))&&ci (typeIn K (.ref p.2)=O (.type "function"))
theorem VM(P:xL):Ht (K P) 403 En=M:=by kernel_rfl
theorem aaB(P:xL):Ht (K P) 572 GC=M:=by kernel_rfl
noncomputable def Hf(K:TT)(C:be)(A:W X):an:=ci (Wp K (.ref C) "__getattribute__" =O (O (.builtin "object.__getattribute__")))&&(ci (Wp K (.ref C) "__getattr__" =O am)&&(hasDictIn K C&&(ci (Wp K (.ref C) "__setattr__" =O (O (.builtin "object.__setattr__")))&&(Fn K C&&
 A.all λx=>ci (Wp K (.ref C) (aZ x)=O am)))))
theorem aaC(P:xL):Hf (K P) 572 (si 1)=M:=by kernel_rfl
theorem aaD(P:xL):Hf (K P) 403 (si 2)=M:=by kernel_rfl
theorem U5(h:oj k=O A):(k=1∧GC=A)∨(k=2∧En=A):=by
 rcases k with _|_|_|k
 ·exact aH h
 ·exact .inl ⟨N,ii h⟩
 ·exact .inr ⟨N,ii h⟩
 ·exact aH h
structure PD(K:TT)(C:be)(tab:W (X×X))(akT:W X):Prop where
 ga:Wp K (.ref C) "__getattribute__" =O (O (.builtin "object.__getattribute__"))
 no:Wp K (.ref C) "__getattr__" =O am
 a8:hasDictIn K C=M
 sa:Wp K (.ref C) "__setattr__" =O (O (.builtin "object.__setattr__"))
 bK:Fn K C=M
 au:∀x f,aG tab x=O f->Wp K (.ref C) (aZ x)=O (O (.ref f))∧typeIn K (.ref f)=O (.type "function")
 jj:∀x,akT.any (pi x)=M->Wp K (.ref C) (aZ x)=O am
theorem NI{K:TT}{A:W (X×X)}{B:W X}(D:Ht K C A=M)(E:Hf K C B=M):PD K C A B:=by
 exact B2 E λa h=>B2 h λb h=>B2 h λc h=>B2 h λd h=>B2 h λe h=>⟨ut a,ut b,c,ut d,e,λx f q=>B2 (F3 D q) λi j=>⟨ut i,ut j⟩,λx F=>aQ (Bv.mp F) λy H q=>eR (AC q) (ut (Do.mp h y H))⟩
theorem zA{k:X}{A:W (X×X)}(h:oj k=O A)(P:xL):PD (K P) (gT k) A (si k):=
 (U5 h).elim (λh=>h.1▸h.2▸NI (aaB P) (aaC P)) λh=>h.1▸h.2▸NI (VM P) (aaD P)
set_option tactic.hygienic true in
theorem WZ{h:li}{m:f8->im bm}(x:h.Ns d m):∃C,h.get? d=O C∧∀name,lookIn name C=O (m name):=by
 obtain ⟨o,E,R,F,H,I,J⟩:=x
 refine (ay o F (λname=>?_))
 unfold lookIn
 refine eR H ?_
 dsimp only
 have e:=J name
 unfold sx findBy at e
 rw [←Array.find?_toList]at e
 split
 ·rename_i D A;rw [A]at e;rw [←e];rfl
 ·rename_i A
  rw [A]at e
  have L:E.toList.any (·.refKey)=bn:=by
   rw [Zc]
   intro D B
   obtain ⟨x,t,P⟩:=I D (by simpa using B)
   simp [DictEntry.refKey,P]
  rw [L,f0 (by decide),←e];rfl
theorem VN(r:ar w A P v p):handedIn v=M:=by cases r<;>rfl
section
variable{g:Gh}{n:X}{w:na}
structure agi(g:Gh)(P:PM)(k:X)(a d:be)(nums:W (X×al))(s:ce)(ox od:Db)(m:f8->im bm):Prop where
 vf:InstAt s.heap a ox (gT k) (O od)
 cD:ox.dict=O d
 ns:s.heap.Ns d m
 aG:∀name,lookIn name od=O (m name)
 ll:∀x p,dF g.Φ k x=O p->∃v,g.F k x=O v∧m (aZ x)=O v
 iE:∀x i,Internal.aG nums x=O i->∃t,m (aZ x)=O (.int i t)
theorem t8(h:iO B k=O A):dv B k=bn∧oj k=O A:=by
 unfold iO at h
 cases e:dv B k with
 |true=>rw [e]at h;exact aH h
 |false=>rw [e]at h;exact ⟨N,h⟩
theorem y5(I:aS g P U s)(B:iO g.Φ k=O D)(E:aY g.az k=O (a,d)):
  ∃A C F m,aY U k=O A∧agi g P k a d A s C F m∧P a=O C∧∀x f,aG D x=O f->m (aZ x)=am:=by
 refine dk (I.ah k a d E) λA Y Z h3=>?_
 have B:=t8 B
 cases Z with
 |gD _ _ h=>exact jf (h.symm.trans B.1)
 |cD _ _ h=>exact aH (h.symm.trans B.2)
 |ie J C m _ j L o y R S j6 j7 j8 _=>
  exact eR (ii (B.2.symm.trans j)) (aQ (WZ S.ns) λF H hl=>(xj A C F m Y ⟨⟨I.ag _ _ L,o,y,by rw [R];exact H⟩,R,S.ns,hl,j6,j7⟩ L j8))
theorem yj(h:uN o=M):attributeBase o m env t=t:=by
 cases o with
 |Call f l k p=>cases k<;>exact bY h
 |_=>rfl
inductive Oh(g:Gh)(P:PM)(s:ce)(b:be)(x:f8)(C:be)(u:PV):Prop
 |mk (ox od:Db) (v:bm):InstAt s.heap b ox C (O od)->lookIn x od=O (O v)->ar g.w g.az P v u->Oh g P s b x C u
theorem aaE(I:aS g P B s)(C:aZ (aW x)=x)(D:iO g.Φ k=O E)(F:oo g.Φ B k (aW x)=O u)(A:aY g.az k=O (b,d)):Oh g P s b x (gT k) u:=
 rF (y5 I D A) λY H J Y L S Y Y=>aQ (Of I L F (λp=>S.ll _ p) λi=>S.iE _ i) λv R U=>⟨H,J,v,S.vf,(S.aG x).trans (lc O (C▸R)),U⟩
theorem SE.cW(B:cI g){e:kt}{p:KF}(Y:uN e=M)(J:fv a=M)(Z:SE g n w e f):SE g n w (.Attribute e a p) (.cW f (aW a)):=by
 refine ⟨?_⟩
 intro A env hb P vs ob s Q F R ac I q
 refine eR (arm_eval_Attribute ..) (eR (yj Y ..) (dL (EP.bJ (Z.go F R ac I q) λv j r o y P1 D L E x1 G1=>gS (x1.oO D λk b d e H D=>oS.E D λtab S D=>oT.E D λhf D=>oS.E D λu hu D=>?_))))
 cases aaE E (f7 J).1 S hu H with
 |mk ox od v i1 i2 U=>
 have C:=zA (t8 S).2 g.w.params
 have x:=bq.fB E.ag (j.toks+1)
 exact eR (e ..) (gy (get_value (E.oU B) i1 C.ga (findObj_own C.a8 ((f7 J).1▸C.jj _ hf) N i2) (VN U) (dL (YU (lf (EP.kq (L.cv (bq.fB E.ag _).ew) (E.g8 (bq.fB E.ag _)) (G1.bD ((bq.fB E.ag _).ew.cJ L.bR)) D U))))))
noncomputable def NJ(g:Gh)(n:X)(m:f8):Prop:=∀{P:PM} {s:ce} {l:bm} {v:PV},P.ag s.heap->ar g.w g.az P l v->zg (aW m) v=M->
 ∃T D,PlainAttrs T∧Fo T m D∧Bt (.builtin D)=re (.type "method_descriptor")∧s.TypeIs l T∧(∀a,l=.ref a->∃E,s.heap.get? a=O E∧E.dict=am)∧
  ∀{A:pc} {C:PM} {F:ce} {B:W bm} {H:W PV} {u:PV},eW A n->C.ag F.heap->ar g.w g.az C l v->bH g.w g.az C B H->wU (aW m) v H=O u->bV g.w g.az A C F (po (.builtin D) (l::B)) u
theorem Ex(h:dD g n w A D)(B:A.length<20):methodCallForm (A.length+([]:W Keyword).length) (yz p (uo A env)) (backToKw p (keywordEach [] env))=M:=by
 unfold methodCallForm
 refine eR (show backToKw p (keywordEach [] env)=[] from N) ?_
 have:=h.bK (pos:=p) (env:=env)
 rw [Zc]at this
 simp only [List.all_nil,Bs,List.isEmpty_nil,qS,mH,Do,yr,Bx]
 exact ⟨λx C=>by simpa using this x C,L1 0xa37442e0bb051ba18 N B⟩
theorem SE.au(B:cI g)(hC:j' g n){o:kt}{l p:KF}{t:W kt}{ms:W MX}(h1:uN o=M)(h2:fv m=M)(h3:(l.endLine==p.line)=M)(h4:t.length<20)(ho:SE g n w o mo)(h:dD g n w t ms)
  (H:NJ g n m):SE g n w (.Call (.Attribute o m l) t [] p) (.au mo (aW m) ms):=by
 refine ⟨?_⟩
 intro A env hb P vs ob s Q F R ac I q
 refine eR (Fp ..) (eR (yj h1 ..) (dL (EP.bJ (ho.go F R ac I q) λv s1 r bu ob1 P1 D a1 J L G1=>gS ?_)))
 have E:ur M o env l p=re p:=by unfold ur;simp [h3]
 unfold Fq
 refine eR (Ex h h4) (Cw.E D (λj er D=>oS.E D λtab hc D=>oS.E D λf hf D=>eD (er▸L:ar g.w g.az P1 v (.ah j)).I λb d e y=>rF (y5 J hc y) λnums ox od m' hn S Y Z=>?_) λD=>oT.E D λhk D=>?_)
 ·have C:=zA (t8 hc).2 g.w.params
  have c:=C.au _ _ hf
  have Z:=Z _ _ hf
  rw [(f7 h2).1]at c Z
  rw [e,er]at L
  refine eR e ?_
  have Jv:shadowIn (O od) m=O bn:=by
   refine (?_:(lookIn m od).map _=_)
   rw [S.aG m,Z];rfl
  refine gy (?_:ca _ _ (getMethod _ _ _) _ _ _)
  exact method_fn (J.oU B) S.vf C.ga C.no c.1 c.2 Jv (dL (sH E (EP.bJ (Ls B hC h F R a1 J (.bg L .aU) D) λv s2 r cO cf P2 U a2 a x2 i=>EP.kq a2 a (G1.bD i) U x2)))
 ·exact zY (H J.ag L hk) λT id pa sl ty hT hd k=>gy (Fs hT pa sl ty hd (dL (sH E (Ft h.bK (tY h.bK (lq.bJ (h.mT F R a1 J D) λbC s2 us cO cf P2 U a2 a x2 i=>oS.E U λu hu U=>EP.jO a2 a (G1.bD i) U (k R a.ag (L.bU i.le) x2 hu)))))))
end
theorem aaF:∀{A:W (X×SC)},(A.all λc=>jg c.1)=M->bH w B P (A.map λc=>By (aZ c.1) c.2) (A.map λc=>.ae (.aA c.1)):=λ{A}=>cB A (λY=>.aU) λc A C h=>by
  rw [pJ,mH]at h
  exact .bg (.ae (.aA c.1) c.2 h.1) (C h.2)
theorem A5{w:lw}{B:W (be×be)}{P:PM}{n:X}{A:W (X×SC)}(h:P a=O (f_ (A.map λc=>By (aZ c.1) c.2).toArray n))(C:(A.all λc=>jg c.1)=M)(D:A.length≤4096):
  ar w B P (.ref a) (.af (A.map λc=>.ae (.aA c.1))):=.af h (aaF C) (eR (sw ..) D)
noncomputable def Hu(P:xL)(c:X×SC×bm×PV):DictEntry:=⟨hs P (aZ c.1),.str (aZ c.1) c.2.1,c.2.2.1⟩
noncomputable def Hg:bm->PV->an
 |.int i _,.ab j=>ci (i=j)
 |.str x _,.ae (.aA c)=>x==aZ c&&jg c
 |_,_=>bn
set_option tactic.hygienic true in
theorem VO(h:Hg v p=M):ar w A P v p:=by
 cases v
 case int i t=>
  cases p
  case ab j=>exact ut h▸.ab _ _
  all_goals exact bY h
 case str x t=>
  cases p
  case ae q=>
   cases q
   case aA c=>exact v_.mp (KM.mp h).1▸.ae (.aA _) _ (KM.mp h).2
   all_goals exact bY h
  all_goals exact bY h
 all_goals exact bY h
theorem aaG{w:lw}{B:W (be×be)}{P:PM}:∀{A:W (X×SC×bm×PV)},(A.all λc=>jg c.1&&Hg c.2.2.1 c.2.2.2)=M->
  dx w B P (A.map λc=>(aZ c.1,c.2.2.1)) (A.map λc=>(.aA c.1,c.2.2.2))∧Pairs (AT pw w) (A.map (Hu w.params)) (A.map λc=>(aZ c.1,c.2.2.1)):=λ{A}=>cB A (λY=>⟨.aU,.nil⟩) λc A C h=>by
  rw [pJ,mH,mH]at h
  obtain ⟨D,E⟩:=C h.2
  exact ⟨.bg (x:=.aA c.1) h.1.1 (VO h.1.2) D,.cons (by refine (?_:uf (.str (aZ c.1) c.2.1) (aZ c.1)=M);simp [uf]) N E⟩
theorem W0{l:W X}(h:l.Nodup):(l.map aZ).Nodup:=by
 induction l with
 |nil=>exact sy
 |cons a l A=>
  rw [uj]at h
  rw [UV,uj]
  refine ⟨λm=>?_,A h.2⟩
  obtain ⟨b,B,e⟩:=No.mp m
  exact h.1 (kM e▸B)
theorem D5{w:lw}{B:W (be×be)}{P:PM}{a:be}{n:X}{A:W (X×SC×bm×PV)}(h:P a=O ⟨.type "dict",am,.dict (A.map (Hu w.params)).toArray n,#[]⟩)(E:(a==ub)=bn)
  (F:(A.all λc=>jg c.1&&Hg c.2.2.1 c.2.2.2)=M) (H:(A.map (·.1)).Nodup) (I:A.length≤4096):ar w B P (.ref a) (.a8 (A.map λc=>(.aA c.1,c.2.2.2))):=by
 obtain ⟨J,L⟩:=aaG (w:=w) (B:=B) (P:=P) F
 have C:((A.map λc=>(aZ c.1,c.2.2.1)).map (·.1)).Nodup:=by
  have:=W0 H
  rw [mL]at this⊢
  exact this
 have R:KeysOf (AT pw w) (A.map (Hu w.params)).toArray:=by
  intro e D
  rw [List.mem_toArray]at D
  obtain ⟨c,_,rfl⟩:=No.mp D
  exact (ay (aZ c.1) (by refine (?_:uf (.str (aZ c.1) c.2.1) (aZ c.1)=M);simp [uf]) N)
 exact .a8 h (bt E N (λS e=>⟨_,_,_,e,bt N N N,N,R,L,C⟩)) J (eR (sw ..) I)
section
variable{w:lw}{b:W (be×be)}{P:PM}
noncomputable def agj:W (X×SC):=[(1817455,287),(31641679972,288),(245217009,289),(245183341,290),(31354238325,291),(1817460,292),(3536068556004,293)]
theorem agk(A:∀a o,(K w.params).lookup a=O o->P a=O o):ar w b P (.ref 91) (.af (agj.map λc=>.ae (.aA c.1))):=
 A5 (n:=0) (A _ _ (by kernel_rfl)) (by kernel_rfl) (by decide)
noncomputable def agl:W (X×SC×bm×PV):=[(245217009,295,.str "plus" 296,.ae (.aA 245217009)),(31387809134,297,.str "less" 298,.ae (.aA 245183341)),(1801070,299,.str "times" 300,.ae (.aA 31354238325))]
theorem agm(A:∀a o,(K w.params).lookup a=O o->P a=O o):ar w b P (.ref 92) (.a8 (agl.map λc=>(.aA c.1,c.2.2.2))):=
 D5 (n:=3) (A _ _ (by kernel_rfl)) (by decide) (by kernel_rfl) (by decide+kernel) (by decide)
noncomputable def agn:W (X×SC):=[(215857653,305),(27625484647,306),(1931375,307),(1669090,308),(14832,309),(513706773215082,310),(1700842,311),(14314,312),(215724404,313),(215726196,314),(14447,315),(1685488,316),(215742573,317),(1799906,318),(4017381620966,319),(13165,320),(15085,321),(14694,322)]
theorem ago(A:∀a o,(K w.params).lookup a=O o->P a=O o):ar w b P (.ref 93) (.af (agn.map λc=>.ae (.aA c.1))):=
 A5 (n:=0) (A _ _ (by kernel_rfl)) (by kernel_rfl) (by decide)
noncomputable def agp:W (X×SC×bm×PV):=[(31385875311,324,.int 1 325,.ab 1),(31389759985,326,.int 1 327,.ab 1),(15085,328,.int 2 329,.ab 2),(1686253,330,.int 2 331,.ab 2),(15080,332,.int 2 333,.ab 2),(1686248,334,.int 2 335,.ab 2)]
theorem agq(A:∀a o,(K w.params).lookup a=O o->P a=O o):ar w b P (.ref 94) (.a8 (agp.map λc=>(.aA c.1,c.2.2.2))):=
 D5 (n:=6) (A _ _ (by kernel_rfl)) (by decide) (by kernel_rfl) (by decide+kernel) (by decide)
noncomputable def agr:W (X×SC):=[(31652115815,343),(247279981,344),(247362415,345),(251247089,346)]
theorem ags(A:∀a o,(K w.params).lookup a=O o->P a=O o):ar w b P (.ref 95) (.af (agr.map λc=>.ae (.aA c.1))):=
 A5 (n:=0) (A _ _ (by kernel_rfl)) (by kernel_rfl) (by decide)
noncomputable def agt:W (X×SC×bm×PV):=[(44,348,.str "union" 349,.ae (.aA 30032967670)),(39,350,.str "meet" 351,.ae (.aA 247051118)),(46,352,.str "minus" 353,.ae (.aA 31387809134)),(47,354,.str "join" 355,.ae (.aA 234535019)),(5676,356,.str "override" 357,.ae (.aA 57868771191798768)),(7613,358,.str "ahead" 359,.ae (.aA 27319186658)),(8123,360,.str "behind" 361,.ae (.aA 3500353942371))]
theorem agu(A:∀a o,(K w.params).lookup a=O o->P a=O o):ar w b P (.ref 96) (.a8 (agt.map λc=>(.aA c.1,c.2.2.2))):=
 D5 (n:=7) (A _ _ (by kernel_rfl)) (by decide) (by kernel_rfl) (by decide+kernel) (by decide)
noncomputable def agv:W (X×SC):=[(127,370),(95,371),(43,372)]
theorem agw(A:∀a o,(K w.params).lookup a=O o->P a=O o):ar w b P (.ref 97) (.af (agv.map λc=>.ae (.aA c.1))):=
 A5 (n:=0) (A _ _ (by kernel_rfl)) (by kernel_rfl) (by decide)
theorem W2(A:∀a o,(K w.params).lookup a=O o->P a=O o)(e:aG FX x=O v):∃a,aG Ob x=O a∧ar w b P (.ref a) v:=by
 have m:=sU e
 unfold FX at m
 simp only [wl,sI,yD,Mt]at m
 rcases m with⟨rfl,rfl⟩|⟨rfl,rfl⟩|⟨rfl,rfl⟩|⟨rfl,rfl⟩|⟨rfl,rfl⟩|⟨rfl,rfl⟩|⟨rfl,rfl⟩
 ·exact (ay 91 (by kernel_rfl) (agk A))
 ·exact (ay 92 (by kernel_rfl) (agm A))
 ·exact (ay 93 (by kernel_rfl) (ago A))
 ·exact (ay 94 (by kernel_rfl) (agq A))
 ·exact (ay 95 (by kernel_rfl) (ags A))
 ·exact (ay 96 (by kernel_rfl) (agu A))
 ·exact (ay 97 (by kernel_rfl) (agw A))
end
section
variable{g:Gh}{n:X}{j:na}
theorem SE.ae(A:jg c=M):SE g n j (.Constant (.str (aZ c)) k p) (.ae c):=⟨λY Y a I q=>
 EP.jO a I (.bQ ..) q (Zd (ay _ (bq.fB I.ag _) (.ae (.aA c) _ A)))⟩
theorem SE.gZ(B:cI g)(D:gU j x=M):SE g n j (.Name x p) (.gZ (aW x)):=by
 refine ⟨?_⟩
 intro A env J P L S s Q F R a I q
 refine oS.E (A:=PV) q λv e q=>aQ (W2 (w:=g.w) (b:=g.az) (P:=P) (λa o k=>I.cJ a o (B.K a o k)) e) λb C H=>?_
 have E:=NF (F3 (WW g.w.params) C)
 rw [(f7 (yi D)).1]at E
 exact BR B I F D E (EP.kq a I (.bQ ..) q H)
structure rK(g:Gh)(n:X)(j:na)(e:im kt)(m:MX):Prop where
 go:∀{A:pc} {env:ln} {hb:be->Prop} {P:PM} {vs:av} {ob:ai} {s:ce} {Q:PV->av->ai->Prop},dh env j->eW A n->aT g env hb P vs s->aS g P ob s->
  bB (ba g.Φ n) g.Φ m vs ob Q->ca (cr pw g.w) A (valueOrNone (evalOpt e env)) (EP g env hb P s Q) a9 s
theorem rK.bG:rK g n j am .bG:=⟨λY Y a I q=>lf (EP.kq a I (.bQ ..) q .bG)⟩
theorem rK.fL(h:SE g n j e m):rK g n j (O e) m:=⟨λF R a I q=>h.go F R a I q⟩
theorem SE.iS{H J:im kt}{L S U:MX}(d:SE g n j a L)(e:rK g n j H S)(i:rK g n j J U):SE g n j (.Subscript a (.Slice H J am sp) p) (.iS L S U):=by
 refine ⟨?_⟩
 intro A env l P vs ob s Q F R ac I q
 refine Subscript_ (EP.bJ (d.go F R ac I q) λv s1 r1 m o P1 r t w x1 G1=>eR (arm_eval_Slice ..) (dL (EP.bJ (e.go F R t w r) λvl s2 r2 cO cf P2 q2 a2 I2 x2 Z=>gy (EP.bJ (i.go F R a2 I2 q2) λvh s3 r3 B C P3 D b c x3 E=>gy (lf (uh ?_ (by size_fits)))))))
 exact oS.E D λu hu D=>ss (VG c.ag ((x1.bU Z.le).bU E.le) (x2.bU E.le) x3 hu) (λv s' h=>aQ h λP' x y=>(d6 _ B C P' D (b.cv x.ew) (c.g8 x) y (((G1.bD Z).bD E).bD (x.ew.cJ b.bR)))) λY Y f=>f.elim
theorem Ba(h:jN p=M):(dJ p).length≤2000:=by
 cases p with
 |aA c=>exact io (Nz h) (by decide)
 |jz c k=>
  obtain ⟨A,H⟩:=Cy h
  have B:=Ze (a:=(k:al)) (k:=7) (by decide) (W1 (by assumption) (by decide:1000000<10^7))
  refine (?_:(fr (aZ c) k).length≤2000)
  unfold fr
  refine eR (we ..) (eR (we ..) ?_)
  have C:(to (qM k)).length=(qM k).length:=Zf _
  have D:("'" :f8).length=1:=by decide+kernel
  have E:(qM k).length≤8:=B
  have F:(aZ c).length=(aZ c).cps.size:=N
  exact L5 0x8370dc3740390ef86c7096d19fb36b241b86e1b9f8 N (Nz A) C D E F
theorem vS(h:k≤10000):k≤E0:=eR pG (L1 0x20e8378e03a8ea3a8e8fc106e1b86e1b9f8 N h)
theorem y6(x:f8):Str.empty++x=x:=by
 apply GI
 rw [vN];rfl
theorem Oi(F:x.length≤10)
  (h:ca (cr pw g.w) A (Fk a env) (λv I=>∃y t,v=.str y t∧y.length≤2000∧∀B,ca (cr pw g.w) A (Fk b env) (λJ D=>∃z:f8,z.length≤2000∧(∀L:bm->ce->Prop,(∀E B,L (.str z E) {D with toks:=B})->ca (cr pw g.w) A (formatField J Str.empty) L a9 D)∧
   ∀E B,Q (.str (y++x++z) E) {D with toks:=B}) a9 {I with toks:=B}) a9 s):
  ca (cr pw g.w) A (Fk (.JoinedStr [.FormattedValue a (-1) am c,.Constant (.str x) k d,.FormattedValue b (-1) am e] p) env) Q a9 s:=by
 refine JoinedStr_many (MP (FormattedValue_plain (ss h (λv I H=>?_) λY Y f=>f)))
 obtain ⟨y,t,rfl,C,H⟩:=H
 refine formatField_str (λE B=>?_) (vS (L1 0x20dc370dc373f041b86e1ba18 N C))
 refine ⟨vS (eR (y6 ..) (L1 0x20dc370dc373f041b86e1ba18 N C)),MP (Zd ⟨vS (eR (we ..) (eR (y6 ..) (L2 0x106e1b86e1b9e1c648370dc3743241b9f8 N F C))),MP (FormattedValue_plain (ss (H (B+1)) (λJ D R=>?_) λY Y f=>f))⟩)⟩
 obtain ⟨z,P,S,U⟩:=R
 refine S _ λi Z=>⟨vS (eR (we ..) (eR (we ..) (eR (y6 ..) (L3 0x8370dc370dcf0e838c906e1b86e8688370dc3743241b9f8 N F C P)))),joinParts_nil ?_ (vS (eR (we ..) (eR (we ..) (eR (y6 ..) (L3 0x8370dc370dcf0e838c906e1b86e8688370dc3743241b9f8 N F C P)))))⟩
 exact eR (y6 ..) (U _ _)
theorem aaH(h:Pr i=O m):i=m:=by
 cases i with
 |ofNat k=>exact lc n5 (ii h)
 |negSucc k=>exact aH h
theorem TU(A:m≤1000000):(to (qM m)).length≤2000:=by
 have B:=Ze (a:=(m:al)) (k:=7) (by decide) (W1 A (by decide:1000000<10^7))
 exact eR (Zf ..) (io B (by decide))
theorem W3(B:m≤1000000):m.log2<1920:=by
 by_cases A:m=0
 ·subst A;decide
 ·exact MB ((Nat.log2_lt A (k:=20)).mpr (W1 B (by decide))) (by decide)
theorem SE.iJ(Z:SE g n j a f)(l:SE g n j b r):
  SE g n j (.JoinedStr [.FormattedValue a (-1) am p1,.Constant (.str "'") k p2,.FormattedValue b (-1) am p3] p) (.iJ f r):=by
 refine ⟨?_⟩
 intro A env w P vs ob s Q F R ac I q
 refine Oi (by decide+kernel) (EP.bJ (Z.go F R ac I q) λv s1 r1 y ob1 P1 C J L x1 G1=>x1.oP C λx t e o C=>oL.E C λc ec C=>(d_ (dJ x) t e (Ba o) (λtk=>?_)))
 have d:=bq.fB L.ag tk
 refine EP.bJ (l.go F R (J.cv d.ew) (L.g8 d) C) λv2 s2 r2 cO cf P2 B S U x2 G2=>x2.oI B λi t2 e2 B=>oS.E B λm hi B=>oT.E B λY B=>?_
 have D:=ww Y
 rw [ec]at o⊢
 refine eR e2 (eR (aaH hi) (cq (to (qM m)) (TU D) (λQ' h=>formatField_int_small (W3 D) (show Q' (.str (to (qM (m:al))) _) _ from h _ _)) (λt' E=>?_)))
 have H:=bq.fB U.ag E
 exact EP.kq (S.cv H.ew) (U.g8 H) (((G1.bD (d.ew.cJ J.bR)).bD G2).bD (H.ew.cJ S.bR)) B (.ae (.jz c m) t' (KM.mpr ⟨o,Y⟩))
theorem SE.uU(i:SE g n j a l)(m:SE g n j b r):
  SE g n j (.JoinedStr [.FormattedValue a (-1) am p1,.Constant (.str ".") k p2,.FormattedValue b (-1) am p3] p) (.uU l r):=by
 refine ⟨?_⟩
 intro A env w P vs ob s Q F R ac I q
 refine Oi (by decide+kernel) (EP.bJ (i.go F R ac I q) λv s1 r1 bu ob1 P1 C H J x1 G1=>x1.oP C λx t e o C=>oL.E C λc ec C=>(d_ (dJ x) t e (Ba o) (λL=>?_)))
 have f:=bq.fB J.ag L
 refine EP.bJ (m.go F R (H.cv f.ew) (J.g8 f) C) λv2 s2 r2 cO cf P2 B S U x2 G2=>x2.oP B λy t2 e2 Y B=>oL.E B λd ed B=>oT.E B λhd B=>eR e2 (cq _ (Ba Y) (λQ' h=>formatField_str (λZ L=>h _ _) (vS (io (Ba Y) (by decide)))) (λZ D=>?_))
 have E:=bq.fB U.ag D
 have e:dJ x++("." :f8)++dJ y=dJ (.aA (tw c 47 d)):=by
  refine eR ec (eR ed (?_:aZ c++("." :f8)++aZ d=aZ (tw c 47 d)))
  rw [aar,show aZ 47=("." :f8) by decide+kernel]
 exact eR e (EP.kq (S.cv E.ew) (U.g8 E) (((G1.bD (f.ew.cJ H.bR)).bD G2).bD (E.ew.cJ S.bR)) B (.ae (.aA (tw c 47 d)) Z hd))
end
section
variable{g:Gh}{n:X}{i:na}
theorem aT.xe(a:aT g env R P S s)(G:bW g (cN s.heap) P s P A)(U:s.heap.get? D=am)(C:A.heap.get? D≠am):
  aT g env (λb=>R b∨b=D) P S A:=by
 have B:=a.cv G
 refine ⟨λb h=>h.elim (B.bR b) λe=>e▸C,B.ns,B.dq,B.cj,?_⟩
 obtain ⟨Y,V⟩:=a.gu
 obtain ⟨m,f⟩:=a.ns
 have H:∀o,s.heap.get? env.locals=O o->A.heap.get? env.locals=O o:=λo e=>G.cH _ _ e a.dq.2
 have I:∀y c o,env.cells.lookup y=O c->s.heap.get? c=O o->A.heap.get? c=O o:=λy c o e h=>G.cH _ _ h (a.cj y c e).2.1
 refine (zT Y ⟨λy p e=>?_,λy p e=>?_,V.fc⟩)
 ·obtain ⟨v,E,F⟩:=V.ax y p e
  exact (ay v (E.ct H I) F)
 ·obtain ⟨E,F,Z,d,J,L⟩:=V.aX y p e
  refine (l9 (E.ct H I) (λh=>h.elim F λe=>L.ix (e▸U)) Z d J (L.ct (PM.le.bQ P) λo e=>G.cH _ _ e J))
theorem aT.fN(a:aT g env A P B s)(h:∀b,C b->A b):aT g env C P B s:=by
 obtain ⟨D,V⟩:=a.gu
 exact ⟨λb e=>a.bR b (h b e),a.ns,a.dq,a.cj,D,V.ax,λy p e=>let⟨E,F,H⟩:=V.aX y p e;(bt E (λq=>F (h _ q)) H),V.fc⟩
theorem bW.cv(A:P.ag s.heap)(k:∀a o,s.heap.get? a=O o->B.get? a=O o):bW g (cN s.heap) P s P {s with heap:=B,toks:=t}:=(bq.cv (t:=t) A k).ew
theorem aS.iJ(I:aS g P A s)(h:s.heap.get? D=am):P D=am∧¬ej g D:=
 ⟨I.ag.bG h,λq=>(I.ix q).1 h⟩
theorem aS.cS(I:aS g P C s)(E:P D=am)(A:¬ej g D)(F:s.heap.get? D=O o):aS g (P.cS D o) C s:=
 I.H9 (PM.pU E) (λb H k=>PM.A_ k (λq J=>q▸J▸F) (I.ag b H)) λk b d B=>(PM.lP λq:d=D=>A (dC k b (q▸B))).trans (I.jL k b d B)
theorem bW.cS(G:bW g A P s B C)(E:B D=am)(F:¬A D):bW g A P s (B.cS D o) C:=
 ⟨G.le.bD (PM.pU E),G.cH,G.bR,λa H e=>PM.A_ e (λq Y=>.inr (q▸F)) (G.bN a H)⟩
theorem aT.cS(a:aT g env (λb=>E b∨b=D) P F s)(H:P D=am)(I:D≠env.locals)(J:∀x,env.cells.lookup x≠O D):aT g env E (P.cS D o) F s:=by
 have C:P.le (P.cS D o):=PM.pU H
 refine a.gu.elim λL V=>⟨λb e=>a.bR b (.inl e),a.ns,⟨(PM.lP (SB I)).trans a.dq.1,a.dq.2⟩,λx c e=>⟨(PM.lP λq:c=D=>J x (q▸e)).trans (a.cj x c e).1,(a.cj x c e).2⟩,L,λy p e=>aQ (V.ax y p e) λv B A=>(ay v B (A.bU C)),λy p e=>?_,V.fc⟩
 exact jd (V.aX y p e) λB A R S U Z=>(l9 B (λq=>A (.inl q)) ((PM.lP λq=>A (.inr q)).trans R) S U (Z.ct C λY q=>q))
theorem aT.u_(a:aT g env B P C s)(h:s.heap.get? D=am):D≠env.locals∧∀x,env.cells.lookup x≠O D:=by
 refine ⟨λq=>?_,λx q=>?_⟩
 ·obtain ⟨m,o,_,_,A,_⟩:=a.ns;rw [←q,h]at A;cases A
 ·obtain ⟨_,_,v,o,A,_⟩:=a.cj x D q;rw [h]at A;cases A
class inductive oW(g:Gh)(n:X)(i:na):W (im kt)->W kt->W MX->Prop
 |aU:oW g n i [] [] []
 |bg {k v:kt} {mk mv:MX} {ks:W (im kt)} {vs:W kt} {ms:W MX}:SE g n i k mk->SE g n i v mv->oW g n i ks vs ms->oW g n i (O k::ks) (v::vs) (mk::mv::ms)
theorem oW.jx(h:oW g n i A C D):A.all (·.isSome)=M∧A.length=C.length∧D.length=2*A.length:=by
 induction h with
 |aU=>exact (bt N N N)
 |bg _ _ _ B=>exact (bt B.1 (eR Da (eR Da (eR B.2.1 N))) (eR Da (eR Da (eR Da (eR B.2.2 (KE (L1 0x4105f8805e178b10 N) (L1 0x40bc2f162020bf10 N)))))))
noncomputable def PG(l:W (bm×bm)):W bm:=lr [] (λp _ A=>p.1::p.2::A) l
noncomputable def EPd(g:Gh)(env:ln)(E:be->Prop)(P:PM)(s:ce)(Q:W PV->av->ai->Prop)(H:W (bm×bm))(D:ce):Prop:=
 ∃F A B C,Q F A B∧aT g env E C A D∧aS g C B D∧bH g.w g.az C (PG H) F∧bW g E P s C D
theorem oW.aeH(h:oW g n i S U Z):∀{A:pc} {env:ln} {D:be->Prop} {P:PM} {B:av} {C:ai} {s:ce} {Q:W PV->av->ai->Prop},dh env i->eW A n->aT g env D P B s->aS g P C s->
  dP (ba g.Φ n) g.Φ Z B C Q->ca (cr pw g.w) A (evalPairs (pairTrees S U env pos)) (EPd g env D P s Q) a9 s:=by
 induction h with
 |aU=>intro A env D P B C s Q F R a I q;exact evalPairs_nil (d6 [] B C P q a I .aU (.bQ ..))
 |bg j o hr ih=>
  intro A env D P B C s Q F R a I q
  refine pairTrees_cons_walk (EP.bJ (j.go F R a I q) λv s1 r bu ob1 P1 q1 a1 I1 x1 G1=>EP.bJ (o.go F R a1 I1 q1) λv2 s2 r2 cO cf P2 q2 a2 I2 x2 L=>ss (ih F R a2 I2 q2) (λus s3 y=>rG y λrs E H P3 q3 a3 I3 x3 J=>?_) λY Y f=>f)
  exact (d6 _ E H P3 q3 a3 I3 (.bg ((x1.bU L.le).bU J.le) (.bg (x2.bU J.le) x3)) ((G1.bD L).bD J))
theorem n_.E{p u:PV}{A:W PV}{B d:W (PS×PV)}{G:PV->Prop}(e:n_ (p::u::A) B=O d)(f:∀k,n_ A (fE B k u)=O d->G (.ae k)):G p:=by
 cases p<;>first|exact aH e|exact f _ e
theorem U6{w:lw}{B:W (be×be)}{P:PM}:∀{D:W (bm×bm)} {E:W PV} {A:W (f8×bm)} {F d:W (PS×PV)},bH w B P (PG D) E->n_ E F=O d->dx w B P A F->(A.map (·.1)).Nodup->
  ∃C,Carries (AT pw w) D C∧dx w B P (yt A C) d:=λ{D}=>no_implicit_lambda% (gV D (@λE A F d r e H I=>by
  rw [show E=[] from r.J]at e
  exact (ay [] tt (ii e▸H))) λS v D U {E} {A} {F} {d} r e H I=>by
  refine bX r.J λR m q J L=>bX L.J λf l Y L Z=>?_
  rw [q,Y]at e
  revert J
  refine n_.E (G:=λR=>ar w B P S R->_) e λk e J=>aQ J.I λt a o=>aQ (U Z e (H.Cf I o L) (Kg I _ _)) λC b c=>(ay ((_,v)::C) (bt ?_ N b) c)
  rw [a];exact qF)
theorem J5:∀{A:W PV} {B d:W (PS×PV)},n_ A B=O d->d.length≤B.length+A.length
 |[],_,_,e=>ii e▸ul _
 |[p],_,_,e=>by cases p<;>exact aH e
 |p::u::A,B,d,e=>n_.E (G:=λY=>_) e λk e=>io (io (J5 e) (Sc (A4 _ _ _) _)) (eR Da (eR Da (L2 0x4085e17e701c85f8 N)))
theorem aS.z6(I:aS g P F s)(H:P D=am)(B:¬ej g D)(C:∀b o,b≠D->s.heap.get? b=O o->J.get? b=O o):aS g P F {s with heap:=J,toks:=t}:=by
 refine ⟨I.cJ,λb o k=>C b o (λq=>by rw [q,H]at k;cases k) (I.ag b o k),I.i8,I.os,I.ll,λk b d E=>?_,I.c_,I.jL,I.fc⟩
 obtain ⟨A,L,R,S⟩:=I.ah k b d E
 exact (cq A L (R.ct (PM.le.bQ P) λo=>C d o λq=>B (dC k b (q▸E))) S)
theorem aT.z6{env:ln}{J:be->Prop}{P:PM}{s:ce}{t:X}(a:aT g env (λb=>J b∨b=D) P L s)(R:D≠env.locals)(S:∀x,env.cells.lookup x≠O D)
  (C:∀b o,b≠D->s.heap.get? b=O o->A.get? b=O o) (E:∀b,s.heap.get? b≠am->A.get? b≠am):aT g env (λb=>J b∨b=D) P L {s with heap:=A,toks:=t}:=by
 have F:∀o,s.heap.get? env.locals=O o->A.get? env.locals=O o:=λo e=>C _ _ (SB R) e
 have H:∀y c o,env.cells.lookup y=O c->s.heap.get? c=O o->A.get? c=O o:=λy c o e h=>C _ _ (λq=>S y (q▸e)) h
 refine a.gu.elim λU V=>⟨λb e=>E b (a.bR b e),a.ns.elim λm x=>⟨m,cC x λo Y Z z=>(nu o Y Z (F _ z.1) z.2)⟩,a.dq,λx c e=>(bt ((a.cj x c e).1) ((a.cj x c e).2.1) ((a.cj x c e).2.2.elim λv d=>⟨v,aQ d λo f E=>(ay o (H x c o e f) E)⟩)),U,λy p e=>aQ (V.ax y p e) λv I B=>(ay v (I.ct F H) B),λy p e=>?_,V.fc⟩
 exact jd (V.aX y p e) λI B j l r w=>(l9 (I.ct F H) B j l r (w.ct (PM.le.bQ P) λo e=>C _ o (λq=>B (.inr q)) e))
structure vg(g:Gh)(env:ln)(hb:be->Prop)(P:PM)(h:li)(D:be)(p:PV):Prop where
 nb:¬hb D
 nP:P D=am
 nL:D≠env.locals
 nI:¬ej g D
 eY:dr g P h D p
structure Hh(g:Gh)(env:ln)(hb:be->Prop)(P:PM)(s:ce)(D:be)(p:PV)(vs':av)(aN:ai)(P':PM)(s':ce):Prop where
 a:aT g env (λb=>hb b∨b=D) P' vs' s'
 o:vg g env hb P' s'.heap D p
 I:aS g P' aN s'
 G:bW g hb P s P' s'
theorem Hh.kq(Z:Hh g env F P s D p B C J E):∃A,aT g env F A B E∧aS g A C E∧ar g.w g.az A (.ref D) p∧bW g F P s A E:=
 (lJ.mp Z.o.eY.ix).elim λo H=>(dG (J.cS D o) (Z.a.cS Z.o.nP Z.o.nL (λx e=>(Z.a.cj x D e).2.2.elim λv L=>Z.o.eY.tb L)) (Z.I.cS Z.o.nP Z.o.nI H) (GR (PM.pU Z.o.nP) ((PM.ir ..).trans H.symm) Z.o.eY) (Z.G.cS Z.o.nP Z.o.nb))
theorem NK(B:cI g)(h:oW g n i ks es ms)(ef:ks≠[])(L:ks.length≤15)(F:dh env i)(R:eW A n)(a:aT g env S P vs s)(I:aS g P ob s)
  (q:bB (ba g.Φ n) g.Φ (.cD ms) vs ob Q):ca (cr pw g.w) A (Fk (.Dict ks es p) env) (λv s'=>∃D d U Z P',v=.ref D∧Q (.a8 d) U Z∧Hh g env S P s D (.a8 d) U Z P' s') a9 s:=by
 have j:=kJ s.heap
 have f:=I.iJ j
 have l:=a.u_ j
 have C:=h.jx
 have c:=bq.cv (A:=s.heap.push {cls:=.type "dict",data:=.dict #[]}) (t:=s.toks) I.ag (kK _)
 have H:(s.heap.push {cls:=.type "dict",data:=.dict #[]}).get? s.heap.objs.size=O {cls:=.type "dict",data:=.dict #[]}:=Ix _ N
 refine wpAny_Dict_walk (knd:=AT pw g.w) C.1 C.2.1 (by simpa using ef) L (ss (h.aeH F R (a.xe c.ew j λq=>aH (q.symm.trans H)) (I.g8 c) q) (λus s1 hx=>rG hx λrs bu ob1 P1 y a1 I1 x1 J=>?_) λY Y f=>f)
 refine oT.E y λaiO y=>oS.E y λd e y=>aQ (U6 x1 e (.aU:dx g.w g.az P1 [] []) sy) λd4 Ag jB=>(cq d4 Ag (cC (Fd (knd:=AT pw g.w) s.heap) λo es ep z=>(nu o es ep ?_ z.2)) (λh' RV fS=>?_))
 ·exact eR (ii (z.1.symm.trans H)) (J.cH _ _ H f.2)
 ·have RD:P1 s.heap.objs.size=am:=by
   cases q:P1 s.heap.objs.size with
   |none=>rfl
   |some o=>exact (J.bN _ o q).elim (λh=>aH (f.1.symm.trans h)) λh=>nw (.inr N) h
  have kp:∀b o,b≠s.heap.objs.size->s1.heap.get? b=O o->h'.get? b=O o:=λb o S e=>(fS.2 b S).trans e
  have dm:∀b,s1.heap.get? b≠am->h'.get? b≠am:=λb S q=>by
   by_cases e:b=s.heap.objs.size
   ·exact cC RV λo es ep z=>aH ((e▸q).symm.trans z.1)
   ·exact S ((fS.2 b e).symm.trans q)
  have E:=J5 e
  rw [Bx,sq]at E
  exact ⟨_,d,bu,ob1,P1,N,y,⟨a1.z6 (t:=s1.toks+us.length) l.1 l.2 kp dm,⟨λq=>a.bR _ q j,RD,l.1,f.2,tX (I.rJ B),_,RV,jB,io E (io (ww aiO) (by decide))⟩,I1.z6 RD f.2 kp,⟨J.le,λb o e hn=>kp b o (λq=>aH (j.symm.trans (q▸e))) (J.cH b o (kK _ b o e) hn),λb e=>dm b (J.bR b λq=>e (nV (kK _) q)),λb o e=>(J.bN b o e).imp id λh q=>h (.inl q)⟩⟩⟩
theorem adR(B:cI g)(h:oW g n i E U j)(C:E.length≤15):SE g n i (.Dict E U p) (.cD j):=by
 refine ⟨?_⟩
 intro A env hb P o ob s Q F R a I q
 by_cases L:E=[]
 ·subst L
  cases h
  have hD:=kJ s.heap
  exact wpAny_Dict_empty (aQ (F1 (w:=g.w) (i:=g.az) I.ag (C:=s.heap.push {cls:=.type "dict",data:=.dict #[]}) (Fd s.heap) hD (tX (I.rJ B)) (kK _) (.aU:dx g.w g.az P [] []) (Gc _) s.toks) λS x y=>(d6 _ o ob S q (a.cv x.ew) (I.g8 x) y (x.ew.cJ a.bR)))
 ·exact ss (NK B h L C F R a I q) (λv s' z=>QR z λD d H J S e q Z=>dn Z.kq λP2 a2 I2 x2 G2=>e▸(d6 _ H J P2 q a2 I2 x2 G2)) λY Y f=>f
end
section
variable{w:lw}{c:W (be×be)}{A:pc}{P:PM}{s:ce}
theorem js.E{p:PV}{l:W PV}{B:W al}{G:PV->W al->Prop}(e:js (p::l)=O B)(f:∀i m,js l=O m->G (.ab i) (i::m)):G p B:=by
 cases p<;>first|exact aH e|exact aQ (On.mp e) λm h q=>q▸f _ m h
theorem aaI:∀{l:W PV} {C:W bm} {B:W al},bH w c P C l->js l=O B->n4 C B:=λ{l}=>no_implicit_lambda% (cB l (@λC B r e=>eR (show C=[] from r.I) (eL (ii e) .nil)) λp l E {C} {B} r e=>bX r.I λv F q D H=>by
  refine eR q ?_
  revert D
  exact js.E (G:=λp B=>ar w c P v p->n4 (v::F) B) e λi m h D=>je D.I λt q=>q▸.cons _ _ (E H h))
theorem aaJ(F:P.ag s.heap)(I:A.handled=am){v:bm}{l:W PV}{D:W al}(r:ar w c P v (.aj l))(e:js l=O D):bV w c A P s (po (.builtin "sum") [v]) (.ab D.sum):=by
 refine cw r.I λa J n q H L Y=>?_
 have C:=aaI L e
 refine C.allInts.items.elim λE B=>?_
 rw [B]at H
 rw [show J=(intItems E).toList by rw [←B]]at C
 rw [q]
 refine sum_intListG I (cq _ (F _ _ H) N ⟨n,N⟩) λU R Z S=>(ay P (bq.cv (t:=R) F S) ?_)
 have:preSum (numAt E) E.size=D.sum:=by
  rw [preSum_eq,←nums_intItems,C.numsOf,Fu]
  rw [←C.numsOf,nums_intItems];simp
 rw [this];exact .ab _ _
theorem lO.E{k:an}{p:PV}{l:W PV}{n:X}{G:PV->X->Prop}(e:lO k (p::l)=O n)(f:∀b m,lO k l=O m->G (.aJ b) (bif b==k then m+1 else m)):G p n:=by
 cases p<;>first|exact aH e|exact aQ (On.mp e) λm h q=>q▸f _ m h
theorem VQ{h:li}:∀{l:W PV} {C:W bm} {k:an} {n:X},bH w c P C l->lO k l=O n->∃B D,qO h C B D∧B.all Zg.has=M∧MQ (.bool k) B=n:=λ{l}=>no_implicit_lambda% (cB l (@λC k n r e=>eR (show C=[] from r.I) (eL (ii e) (d_ [] [] .nil N N))) λp l F {C} {k} {n} r e=>bX r.I λv H q E I=>by
  refine eR q ?_
  revert E
  refine lO.E (G:=λp n=>ar w c P v p->∃B D,qO h (v::H) B D∧B.all Zg.has=M∧MQ (.bool k) B=n) e λb m h E=>bX (F I h) λB D J L R=>(d_ (.bool b::B) _ (.cons (eR (show v=_ from E.I) (.bool b)) J) (by rw [pJ,L];rfl) ?_)
  rw [MQ,R,show PySem.Spec.same (.bool b) (.bool k)=(b==k) from N]
  cases b==k<;>simp<;>exact ax0)
theorem VR(B:P.ag s.heap)(r:ar w c P v (.aj l))(C:ar w c P x (.aJ k))(e:lO k l=O n):bV w c A P s (po (.builtin "list.count") [v,x]) (.ab n):=by
 exact cw r.I λa J m q D E Y=>bX (VQ (h:=s.heap) E e) λL R F H I=>eR q (eR (show x=_ from C.I) (count_list_bools (cq _ (B _ _ D) N ⟨_,N⟩) F H (ay P (bq.fB B _) (I▸.ab _ _))))
end
structure iY(w:lw)(ids:W (be×be)):Prop where
 oF:∀{A:pc} {P:PM} {s:ce} {v:bm} {l:W PV} {rs:W (W al)},A.handled=am->A.units+4<NE->P.ag s.heap->ar w ids P v (.aj l)->j0 l=O rs->ta rs=M->
  bV w ids A P s (po (.builtin "sorted") [v]) (.aj (dE (fb rs)))
 Dg:∀{A:pc} {P:PM} {s:ce} {v:bm} {l:W PV} {rs:W (W al)},A.handled=am->A.units+4<NE->P.ag s.heap->ar w ids P v (.aj l)->j0 l=O rs->i5 rs=M->
  ca (cr pw w) A (po (.type "set") [v]) (λu s1=>ca (cr pw w) A (po (.builtin "sorted") [u]) (λx s2=>∃P',bq P s P' s2∧ar w ids P' x (.aj (dE (fb (e_ rs []))))) a9 s1) a9 s
section
variable{g:Gh}{n:X}{j:na}
theorem A0(D:(∃x,f=.builtin x)∨∃x,f=.type x)(C:args.any (·.1)=bn)
  (h:ca (cr pw g.w) A (uq args) (λF B=>ca (cr pw g.w) A (po f (first++F) []) Q E B) E s):ca (cr pw g.w) A (wd pos f first args []) Q E s:=by
 rcases D with⟨x,rfl⟩|⟨x,rfl⟩
 ·exact Ft C (tY C h)
 ·exact PySem.callWith_type C (tY C h)
noncomputable def PH:bm->an
 |.builtin _=>M
 |.type _=>M
 |_=>bn
theorem VS(e:aG eU x=O v):(∃x,v=.builtin x)∨∃x,v=.type x:=by
 have h:PH v=M:=Do.mp (show(eU.all λp=>PH p.2)=M by rfl) _ (sU e)
 cases v<;>first|exact bY h|exact .inl ⟨_,N⟩|exact .inr ⟨_,N⟩
theorem wK(B:cI g)(F:dh env j)(U:eW A n)(a:aT g env J P Y s)(I:aS g P Z s)
  (b:gU j f=M) (e:aG eU (aW f)=O v) (h:dD g n j c d) (q:dP (ba g.Φ n) g.Φ d Y Z Q)
  (k:∀L E S C D H,Q S C D->aT g env J H C E->aS g H D E->bH g.w g.az H L S->bW g J P s H E->ca (cr pw g.w) A (po v L []) R a9 E):
  ca (cr pw g.w) A (Fk (.Call (.Name f i) c [] p) env) R a9 s:=by
 exact eR (yB ..) (dL (GO B I F b e (A0 (VS e) h.bK (lq.bJ (h.mT F U a I q) k))))
theorem gm.E{v:PV}{l:W PV}{G:PV->Prop}(e:gm v=O l)(A:G (.af l))(B:G (.aj l)):G v:=by
 cases v<;>first|exact aH e|exact ii e▸A|exact ii e▸B
theorem CS.E{v r:PV}{G:PV->PV->Prop}(e:CS v=O r)(f:∀i:al,G (.ab i) (.ab i.natAbs)):G v r:=by
 cases v<;>first|exact aH e|exact ii e▸f _
theorem CT.E{v r:PV}{G:PV->PV->Prop}(e:CT v=O r)(f:∀l A,js l=O A->G (.aj l) (.ab A.sum)):G v r:=by
 cases v<;>first|exact aH e|exact aQ (On.mp e) λA h q=>q▸f _ A h
theorem Cv.E{v r:PV}{G:PV->PV->Prop}(e:Cv v=O r)(f:∀l A,j0 l=O A->ta A=M->G (.aj l) (.aj (dE (fb A)))):G v r:=by
 cases v<;>first|exact aH e|exact aQ (sD.mp e) λA h q=>gd.E q λB q=>ii q▸f _ A h B
theorem pR.E{v r:PV}{G:PV->PV->Prop}(e:pR v=O r)(f:∀l A,j0 l=O A->i5 A=M->G (.aj l) (.aj (dE (fb (e_ A []))))):G v r:=by
 cases v<;>first|exact aH e|exact aQ (sD.mp e) λA h q=>gd.E q λB q=>ii q▸f _ A h B
theorem th.E{v r:PV}{G:PV->PV->Prop}(e:th v=O r)(A:∀l,G (.a8 l) (.a8 l))(B:∀l d,jG l []=O d->G (.aj l) (.a8 d)):G v r:=by
 cases v<;>first|exact aH e|exact ii e▸A _|exact aQ (On.mp e) λd h q=>q▸B _ d h
theorem xf{A:Type}{f c:X}{x y r:A}{G:X->Prop}(e:(bif pi f c then x else y)=r)(B:x=r->G c)(C:y=r->G f):G f:=by
 cases h:pi f c with
 |true=>rw [h]at e;exact AC h▸B e
 |false=>rw [h]at e;exact C e
theorem oQ.E{f:X}{A:W PV}{r:PV}{G:W PV->Prop}(e:oQ f A=O r)(h:∀v,H7 f v=O r->G [v]):G A:=by
 rcases A with _|⟨v,_|_⟩
 ·exact aH e
 ·exact h v e
 ·exact aH e
theorem acC(R:iY g.w g.az){A:pc}{P:PM}{s:ce}{f:X}{F:W PV}{H:W bm}{r:PV}(D:P.ag s.heap)(E:1<s.heap.objs.size)(I:A.handled=am)(S:A.units+4<NE)(x:bH g.w g.az P H F)(e:oQ f F=O r):
  ∃v,aG eU f=O v∧bV g.w g.az A P s (po v H []) r:=by
 revert x
 refine oQ.E (G:=λF=>bH g.w g.az P H F->_) e λa e x=>bX x.I λv J q U L=>eR q (eR (show J=[] from L.I) ?_)
 clear x L q
 revert e U
 have C:∀{c:X} {b:bm} {a r:PV},aG eU c=O b->(ar g.w g.az P v a->bV g.w g.az A P s (po b [v] []) r)->ar g.w g.az P v a->∃b,aG eU c=O b∧bV g.w g.az A P s (po b [v] []) r:=λh k x=>(ay _ h (k x))
 intro e
 unfold H7 at e
 refine xf (G:=λf=>ar g.w g.az P v a->∃B,aG eU f=O B∧bV g.w g.az A P s (po B [v] []) r) e (λe=>by have h:=On.mp e;exact aQ h λn e q=>q▸C (by kernel_rfl:aG eU Ct=some (.builtin "len")) λx=>aax D x e) λe=>?_
 exact xf (G:=λf=>ar g.w g.az P v a->∃B,aG eU f=O B∧bV g.w g.az A P s (po B [v] []) r) e (λe=>C (by kernel_rfl:aG eU Cs=some (.builtin "abs")) (CS.E (G:=λa r=>ar g.w g.az P v a->bV g.w g.az A P s (po _ [v] []) r) e λi x=>je x.I λt q=>q▸aay D)) λe=>xf (G:=λf=>ar g.w g.az P v a->∃B,aG eU f=O B∧bV g.w g.az A P s (po B [v] []) r) e (λe=>aQ (On.mp e) λl e q=>q▸C (by kernel_rfl:aG eU B3=some (.type "tuple")) (gm.E (G:=λa=>ar g.w g.az P v a->bV g.w g.az A P s (po _ [v] []) (.af l)) e (TR D) (VH D))) λe=>xf (G:=λf=>ar g.w g.az P v a->∃B,aG eU f=O B∧bV g.w g.az A P s (po B [v] []) r) e (λe=>aQ (On.mp e) λl e q=>q▸C (by kernel_rfl:aG eU q9=some (.type "list")) (gm.E (G:=λa=>ar g.w g.az P v a->bV g.w g.az A P s (po _ [v] []) (.aj l)) e (Ue D) (WR D))) λe=>xf (G:=λf=>ar g.w g.az P v a->∃B,aG eU f=O B∧bV g.w g.az A P s (po B [v] []) r) e (λe=>C (by kernel_rfl:aG eU zt=some (.builtin "sum")) (CT.E (G:=λa r=>ar g.w g.az P v a->bV g.w g.az A P s (po _ [v] []) r) e λl Z h x=>aaJ D I x h)) λe=>xf (G:=λf=>ar g.w g.az P v a->∃B,aG eU f=O B∧bV g.w g.az A P s (po B [v] []) r) e (λe=>C (by kernel_rfl:aG eU uH=some (.builtin "sorted")) (Cv.E (G:=λa r=>ar g.w g.az P v a->bV g.w g.az A P s (po _ [v] []) r) e λl F h Y x=>R.oF I S D x h Y)) λe=>gd.E e λh e=>AC h▸C (by kernel_rfl:aG eU q8=some (.type "dict")) (th.E (G:=λa r=>ar g.w g.az P v a->bV g.w g.az A P s (po _ [v] []) r) e (λl x=>TS D E x) λl d h x=>Tz D E I x h)
end
theorem U7(h:yZ f=M):∃v,aG eU f=O v:=aQ (Bv.mp h) λy A e=>eR (AC e) (Bz.mp (Do.mp (show(List.all _ λy=>(aG eU y).isSome)=M by kernel_rfl) y A))
section
variable{g:Gh}{n:X}{i:na}
theorem Hv(B:cI g)(J:iY g.w g.az)(L:gU i f=M)(h:dD g n i S U):SE g n i (.Call (.Name f o) S [] p) (.bi (aW f) U):=by
 refine ⟨?_⟩
 intro A env r P t w s Q F R a I q
 exact oT.E (b:=yZ (aW f)) q λY q=>(U7 Y).elim λv H=>wK B F R a I L H h q λy s' rs Z c P' C d D e j=>oS.E C λu l C=>aQ (acC J D.ag (D.rJ B) R.1 R.HJ e l) λv' E m=>eR (ii (H.symm.trans E)) (EP.jO d D j C m)
theorem VT(B:cI g)(t:iY g.w g.az)(hx:gU i f=M)(hf:aW f=uH)(hy:gU i h=M)(hh:aW h=Hp)(hs:dD g n i [e] [m]):
  SE g n i (.Call (.Name f fp) [.Call (.Name h hp) [e] [] p2] [] p) (.uM m):=by
 refine ⟨?_⟩
 intro A env hb P C D s Q F R a I q
 have L:aG eU (aW f)=O (.builtin "sorted"):=by rw [hf];kernel_rfl
 have S:aG eU (aW h)=O (.type "set"):=by rw [hh];kernel_rfl
 refine eR (yB ..) ?_
 have q2:dP (ba g.Φ n) g.Φ [m] C D (λc C D=>∃v u,c=[v]∧pR v=O u∧Q u C D):=by
  have q:bB (ba g.Φ n) g.Φ m C D λv C D=>oS (pR v) λu=>Q u C D:=q
  refine (?_:bB (ba g.Φ n) g.Φ m C D λv C D=>∃w u,[v]=[w]∧pR w=O u∧Q u C D)
  have e:(λv C D=>oS (pR v) λu=>Q u C D)=λ(v:PV) C D=>∃w u,[v]=[w]∧pR w=O u∧Q u C D:=by
   funext v C D
   exact BA ⟨λh=>oS.E h λu e q=>(d_ v u N e q),λh=>bX h λw u e1 e2 q=>eR ((Fv e1).1 ..) (eR (e2 ..) q)⟩
  rwa [e]at q
 refine dL (GO B I F hx L (A0 (.inl ⟨_,N⟩) N (yA (wK B F R a I hy S hs q2 λc s' rs E H P' J d j o G'=>bX J λr u er hu J=>?_))))
 rw [er]at o
 refine bX o.I λv U eu Z x2=>eR eu (eR (show U=[] from x2.I) ?_)
 revert J Z
 refine pR.E (G:=λr u=>Q u E H->ar g.w g.az P' v r->ca (cr pw g.w) A (po (.type "set") [v]) _ a9 s') hu λl rs hr ho J Z=>ss (t.Dg R.1 R.HJ j.ag Z hr ho) (λv s2 L=>lf (ss L (λx s3 hz=>aQ hz λP3 b y=>?_) λY Y f=>f)) λY Y f=>f
 exact (d6 _ E H P3 J (d.cv b.ew) (j.g8 b) y (G'.bD (b.ew.cJ d.bR)))
theorem W4(B:cI g)(w:gU i f=M)(y:aW f=q9)(Z:fv m=M)(hm:aW m=Oa)(h1:uN o=M)(h3:(c.endLine==E.line)=M)(ho:SE g n i o mo):
  SE g n i (.Call (.Name f fp) [.Call (.Attribute o m c) [] [] E] [] p) (.uT mo):=by
 refine ⟨?_⟩
 intro A env hb P vs ob s Q F R a I q
 have hv:aG eU (aW f)=O (.type "list"):=by rw [y];kernel_rfl
 have L:m=("items" :f8):=by rw [←((f7 Z).1),hm];decide+kernel
 subst L
 refine eR (yB ..) (dL (GO B I F w hv (A0 (.inr ⟨_,N⟩) N (yA (eR (Fp ..) (eR (yj h1 ..) (dL (EP.bJ (ho.go F R a I q) λv H r bu ob1 P1 S h U C G1=>gS (C.oD S λl C S=>rE C.I λd o' Y e ha j hl Z=>?_)))))))))
 rw [e]at C⊢
 have J:=j.2.2 _ (U.ag _ _ ha)
 have D:ur M o env c E=re E:=by unfold ur;simp [h3]
 unfold Fq
 refine (?_:ca _ _ (mI [Ev d] (getMethod (.ref d) "items" _)>>=_) _ _ H)
 refine gy (Fs (T:="dict") (id:="dict.items") J.typeIs Zh Zi PySem.F.type_dict_items J.mapOf.noDict (dL (sH D (?_:ca _ _ (wd E (.builtin "dict.items") [.ref d] [] []) _ _ H))))
 refine A0 (.inl ⟨_,N⟩) N (lf (call_meetsIn Zi J.typeIs PySem.F.entry_dict_items (PySem.F.args_dict_items_1 _) (meets_dict_items (AT pw g.w) d j.1) ⟨⟨Y,J⟩,lf ?_⟩))
 have b:=bq.cv (A:=H.heap.push {cls:=.type "dict_items",data:=.fields #[.ref d]}) (t:=H.toks) U.ag (kK _)
 exact EP.jO (h.cv b.ew) (U.g8 b) (G1.bD (b.ew.cJ h.bR)) S (VI b.ag R.1 C (cq _ (Ix _ N) N N))
theorem zg.E(h:zg m v=M):∃l,v=.aj l∧m=wF:=by
 cases v<;>first|exact bY h|exact (ay _ N (AC h))
theorem wU.E{G:Prop}(h:wU m (.aj l) A=O u)(f:∀k n,A=[.aJ k]->lO k l=O n->u=.ab (n5 n)->G):G:=by
 have h:(match(generalizing:=false) pi m wF,A with|true,[.aJ k]=>(match lO k l with|some n=>O (PV.ab (n5 n))|none=>am)|_,_=>am)=O u:=h
 cases B:pi m wF with
 |false=>rw [B]at h;exact aH h
 |true=>
  rw [B]at h
  rcases A with _|⟨a,_|_⟩
  ·exact aH h
  ·cases a with
   |aJ k=>
    cases e:lO k l with
    |none=>dsimp only at h;rw [e]at h;exact aH h
    |some n=>dsimp only at h;rw [e]at h;exact f k n N e (ii h).symm
   |_=>exact aH h
  ·cases a<;>exact aH h
theorem KP(F:fv m=M):NJ g n m:=by
 intro P s l v D r h
 refine aQ (zg.E h) λf H e=>?_
 subst H
 have A:m=("count" :f8):=by rw [←(f7 F).1,e];decide+kernel
 subst A
 refine cw r.I λa Y Y q E Y Y=>⟨"list","list.count",BB,PySem.F.slot_list_count,PySem.F.type_list_count,?_,λb e=>?_,λR B I x J=>wU.E J λk c L S U=>?_⟩
 ·rw [q];exact (ay _ (D _ _ E) N)
 ·rw [q]at e;rw [←Os e];exact (ay _ (D _ _ E) N)
 ·rw [L]at x
  exact bX x.I λv C q Z d=>eR q (eR U (eR (show C=[] from d.I) (VR B I Z S)))
end
structure tc(env:ln)(h h':li)(x:f8)(v:bm)(Z:be):Prop where
 eY:(Z=env.locals∧env.kindOf x=O .local)∨(env.kindOf x=O .cell∧env.cells.lookup x=O Z)
 eJ:∀b,b≠Z->h'.get? b=h.get? b
 bR:h.get? Z≠am∧h'.get? Z≠am
 QC:fG env h' x v
 va:∀y u,y≠x->fG env h y u->fG env h' y u
 ns:∃m,h'.Ns env.locals m
 cj:∀y c,env.cells.lookup y=O c->∃v,h'.IsCell c v
structure i9(env:ln)(sc:na)(hb:be->Prop):Prop where
 dq:¬hb env.locals
 cj:∀x c,e9 sc x=M->env.kindOf x=O .cell->env.cells.lookup x=O c->¬hb c
 inj:∀x y c,e9 sc x=M->env.kindOf x=O .cell->env.cells.lookup x=O c->env.cells.lookup y=O c->x=y
theorem Lu{h:li}{a:be}{m:f8->im bm}{v:im bm}(x:h.Ns a m)(y:h.IsCell a v):wn:=
 xl x λo E F D C Y=>aQ y λH A B=>by
  rw [ii (D.symm.trans A)]at C
  exact Fh (C.symm.trans B)
theorem Ey{h:li}{a:be}{m D:f8->im bm}(x:h.Ns a m)(y:h.Ns a D):m=D:=
 cw x λo L P F E Y H=>cw y λR I J A B Y C=>by
  rw [ii (F.symm.trans A)]at E
  funext z;rw [←H z,←C z,(Data.dict.inj (E.symm.trans B)).1]
theorem F7{h:li}{a:be}{m:f8->im bm}(x:h.Ns a m):h.get? a≠am:=cC x λo A B z q=>aH (q.symm.trans z.1)
theorem KQ{h:li}{a:be}{v:im bm}(x:h.IsCell a v):h.get? a≠am:=aQ x λo A Y q=>aH (q.symm.trans A)
theorem Oj{h A:li}{a:be}{m:f8->im bm}(x:h.Ns a m)(e:A.get? a=h.get? a):A.Ns a m:=cC x λo B C z=>(nu o B C (e.trans z.1) z.2)
theorem Ez{h A:li}{a:be}{v:im bm}(x:h.IsCell a v)(e:A.get? a=h.get? a):A.IsCell a v:=aQ x λo B C=>(ay o (e.trans B) C)
section
variable{g:Gh}
theorem KR{A:pc}{env:ln}{n:na}{s:ce}{x:f8}{v:bm}{Q:UF->ce->Prop}(F:dh env n)(Y:∀y c,env.kindOf x=O .cell->env.cells.lookup x=O c->env.cells.lookup y=O c->x=y)
  (B:env.kindOf x=O .local∨env.kindOf x=O .cell) (o:∃m,s.heap.Ns env.locals m) (I:∀y c,env.cells.lookup y=O c->∃v,s.heap.IsCell c v)
  (h:∀J r Z,tc env s.heap J x v Z->Q () {s with heap:=J,toks:=r}):ca (cr pw g.w) A (BC env x v) Q a9 s:=by
 refine o.elim λm P=>B.elim (λB=>wpAny_storeName_local B P (λJ D E=>?_) (by simp [F.km])) λB=>(F.CA x (.inl B)).elim λc R=>(I x c R).elim λt L=>?_
 ·have i:∀{c u},s.heap.IsCell c u->J.IsCell c u:=λC=>Ez C (E.2 _ λq=>Lu (q▸P) C)
  refine h J _ env.locals ⟨.inl ⟨N,B⟩,λb a=>E.2 b a,⟨F7 P,F7 D⟩,.inl (ff B (ay _ D (by simp))),λy u d l=>l.imp (λl=>⟨l.1,aQ l.2 λj H C=>(ay _ D ?_)⟩) (λl=>⟨l.1,aQ l.2 λc H C=>(ay c H (i C))⟩),⟨_,D⟩,λy c e=>(I y c e).elim λu f=>⟨u,i f⟩⟩
  rw [Ey H P]at C
  simp [d,C]
 ·have S:env.locals≠c:=λq=>Lu P (q▸L)
  refine wpAny_storeName_cell F.km B R L λJ D E=>h J s.toks c ⟨.inr ⟨B,R⟩,λb a=>E.2 b a,⟨KQ L,KQ D⟩,.inr (ff (.inl B) (ay c R D)),λy u d l=>l.imp (λl=>⟨l.1,aQ l.2 λj H C=>(ay j (Oj H (E.2 _ S)) C)⟩) (λl=>⟨l.1,aQ l.2 λU H C=>(ay U H (Ez C (E.2 _ λq=>d (Y y c B R (q▸H)).symm)))⟩),⟨m,Oj P (E.2 _ S)⟩,λy U e=>?_⟩
  by_cases q:U=c
  ·exact q▸⟨_,D⟩
  ·exact (I y U e).elim λu f=>⟨u,Ez f (E.2 _ q)⟩
structure eB(g:Gh)(hb:be->Prop)(P:PM)(s:ce)(P':PM)(s':ce):Prop where
 le:P.le P'
 cH:∀a o,hb a->s.heap.get? a=O o->¬ej g a->s'.heap.get? a=O o
 bR:∀a,s.heap.get? a≠am->s'.heap.get? a≠am
 bN:∀a o,P' a=O o->P a=O o∨¬hb a
theorem eB.bQ(g:Gh)(A:be->Prop)(P:PM)(s:ce):eB g A P s P s:=⟨PM.le.bQ P,λY Y Y e Y=>e,λY e=>e,λY Y e=>.inl e⟩
theorem eB.bD(x:eB g C P s D E)(y:eB g C D E A B):eB g C P s A B:=
 ⟨x.le.bD y.le,λa o h e n=>y.cH a o h (x.cH a o h e n) n,λa e=>y.bR a (x.bR a e),λa o e=>(y.bN a o e).elim (x.bN a o) .inr⟩
theorem bW.eP(x:bW g A P s B C):eB g A P s B C:=⟨x.le,λa o Y e n=>x.cH a o e n,x.bR,x.bN⟩
theorem eB.fN(x:eB g A P s B C)(h:∀b,D b->A b):eB g D P s B C:=⟨x.le,λa o q=>x.cH a o (h a q),x.bR,λa o e=>(x.bN a o e).imp id λn q=>n (h a q)⟩
theorem Ec(F:dh env C)(h:e9 C x=M):(env.kindOf x=O .local∨env.kindOf x=O .cell)∧fv x=M:=by
 refine B2 h λh D=>aQ (oa.E h) λk e A=>⟨?_,D⟩
 have B:env.kindOf x=O k:=(F.i4 x k e).elim id λh=>nw (h.1▸A) (by decide)
 cases k with
 |«local»=>exact .inl B
 |cell=>exact .inr B
 |_=>exact nw A (by decide)
theorem tc.Ol(S:tc env s.heap B x v Z)(I:aS g P C s)(D:P Z=am)(A:¬ej g Z):aS g P C {s with heap:=B,toks:=F}:=
 I.z6 D A λb o E e=>(S.eJ b E).trans e
theorem tc.HN(S:tc env h A x v Z)(e:h.get? b≠am):A.get? b≠am:=by
 by_cases q:b=Z
 ·exact q▸S.bR.2
 ·rw [S.eJ b q];exact e
theorem tc.PJ(S:tc env s.heap A x v Z)(B:¬C Z):eB g C P s P {s with heap:=A,toks:=D}:=
 ⟨PM.le.bQ P,λa o h e Y=>(S.eJ a (λq=>B (q▸h))).trans e,λY=>S.HN,λY Y e=>.inl e⟩
theorem aT.inj(A:i9 env B H)(C:e9 B x=M):∀y c,env.kindOf x=O .cell->env.cells.lookup x=O c->env.cells.lookup y=O c->x=y:=λy c D E F=>A.inj x y c C D E F
theorem Lv(A:i9 env B C)(E:e9 B x=M)(a:aT g env F P J s)(S:tc env s.heap L x v Z):
  (P Z=am∧¬ej g Z∧¬C Z)∧∀{D:be} {p:PV},dr g P s.heap D p->D≠env.locals->D≠Z:=
 S.eY.elim (λh=>eR h.1 ⟨(bt a.dq.1 a.dq.2 A.dq),λY H=>H⟩) λh=>⟨(bt ((a.cj _ _ h.2).1) ((a.cj _ _ h.2).2.1) (A.cj _ _ E h.1 h.2)),λo Y q=>(a.cj _ _ h.2).2.2.elim λu I=>dr.tb (q▸I) o⟩
theorem sj(F:dh env f)(h:i9 env f E)(H:e9 f x=M)(a:aT g env E P n s)(I:aS g P t s)(w:ar g.w g.az P v r)
  (k:∀C,aT g env E P (aK n (aW x) (.ax r)) C->aS g P t C->eB g E P s P C->R () C):ca (cr pw g.w) A (BC env x v) R a9 s:=by
 have i:=Ec F H
 refine KR F (aT.inj h H) i.1 a.ns (λy c e=>(a.cj y c e).2.2) λh' tk Z S=>?_
 have D:=Lv h H a S
 have j:∀{y},aW x≠y->aZ y≠x:=λB q=>B (eL (q ..) (eR (BO ..) N))
 refine k _ (a.gu.elim λad V=>⟨λb e=>S.HN (a.bR b e),S.ns,a.dq,λy c e=>(bt ((a.cj y c e).1) ((a.cj y c e).2.1) (S.cj y c e)),ad,λy p e=>lI e (λB q=>?_) λB e=>aQ (V.ax y p e) λu J L=>(ay u (S.va _ _ (j B) J) L),λy p e=>lI e (λY q=>cQ.noConfusion q) λB e=>jd (V.aX y p e) λJ L h3 l h5 m=>(l9 (S.va _ _ (j B) J) L h3 l h5 (m.ct (PM.le.bQ P) λo eo=>(S.eJ _ (D.2 m l)).trans eo)),λy z p q U d=>lI U (λY q=>cQ.noConfusion q) λY U=>lI d (λY q=>cQ.noConfusion q) λY d=>V.fc y z p q U d⟩) (S.Ol I D.1.1 D.1.2.1) (S.PJ D.1.2.2)
 exact eL B (eR ((f7 i.2).1) (eL (cQ.ax.inj q) (ay v S.QC w)))
theorem Lw(F:dh env t)(w:i9 env t L)(f:e9 t x=M)(a:aT g env (λb=>L b∨b=D) P vs s)(I:aS g P ob s)
  (h:¬L D) (i:P D=am) (H:D≠env.locals) (j:¬ej g D) (hD:dr g P s.heap D r)
  (k:∀U,aT g env L P (aK vs (aW x) (.aX r)) U->aS g P ob U->eB g L P s P U->R () U):ca (cr pw g.w) A (BC env x (.ref D)) R a9 s:=by
 have hk:=Ec F f
 refine KR F (aT.inj w f) hk.1 a.ns (λy c e=>(a.cj y c e).2.2) λh' tk Z S=>?_
 have J:=Lv w f a S
 have ne:∀{y},aW x≠y->aZ y≠x:=λB q=>B (eL (q ..) (eR (BO ..) N))
 refine k _ (a.gu.elim λad V=>⟨λb e=>S.HN (a.bR b (.inl e)),S.ns,a.dq,λy c e=>(bt ((a.cj y c e).1) ((a.cj y c e).2.1) (S.cj y c e)),λy=>if y=aW x then D else ad y,λy p e=>lI e (λY q=>cQ.noConfusion q) λB e=>aQ (V.ax y p e) λu l m=>(ay u (S.va _ _ (ne B) l) m),λy p e=>lI e (λB q=>?_) λB e=>?_,λy z p q d E=>lI d (λB Y=>?_) λB d=>?_⟩) (S.Ol I J.1.1 J.1.2.1) (S.PJ J.1.2.2)
 ·exact eL B (eR (jp N) (eR ((f7 hk.2).1) (eL (cQ.aX.inj q) (l9 S.QC h i H j (hD.ct (PM.le.bQ P) λo n=>(S.eJ _ (J.2 hD H)).trans n)))))
 ·exact eR (f0 (SB B)) (jd (V.aX y p e) λl m h3 h4 h5 h6=>(l9 (S.va _ _ (ne B) l) (λq=>m (.inl q)) h3 h4 h5 (h6.ct (PM.le.bQ P) λo n=>(S.eJ _ (J.2 h6 h4)).trans n)))
 ·exact lI E (λC Y=>λY=>B.symm.trans C) λC E=>eR (jp B.symm) (eR (f0 (SB C)) (λq=>nw (.inr q.symm) (V.aX z _ E).2.1))
 ·refine eR (f0 (SB B)) (lI E (λC Y=>?_) λC E=>?_)
  ·exact eR (jp C.symm) (λq=>nw (.inr q) (V.aX y p d).2.1)
  ·exact eR (f0 (SB C)) (V.fc y z p q d E)
end
noncomputable def ti(h:li)(v:bm)(A:W bm):Prop:=∃T,v=.ref T∧(h.IsTuple T A.toArray∨h.IsList T A.toArray)
noncomputable def rL(w:lw)(B:W (be×be))(P:PM)(t:eK)(p:PV)(v:bm)(h:li):Prop:=match t with
 |.ak _=>ar w B P v p
 |.bS _=>∃A l,ti h v A∧gm p=O l∧bH w B P A l
theorem W5(F:P.ag h)(r:ar w B P v p)(e:gm p=O l):∃A,ti h v A∧bH w B P A l∧l.length≤4096:=by
 revert r
 refine gm.E (G:=λp=>ar w B P v p->∃A,ti h v A∧bH w B P A l∧l.length≤4096) e (λr=>?_) λr=>?_
 ·exact cw r.I λa Y Y q C D E=>(cq _ (ay a q (.inl (cq _ (F _ _ C) N ⟨_,N⟩))) D E)
 ·exact cw r.I λa Y Y q C D E=>(cq _ (ay a q (.inr (cq _ (F _ _ C) N ⟨_,N⟩))) D E)
theorem eS.E{G:Prop}(e:eS (.bS B) p C=O A)(f:∀l,gm p=O l->eS.qZ B l C=O A->G):G:=by
 unfold eS at e
 cases h:gm p with
 |none=>dsimp only at e;rw [h]at e;exact aH e
 |some l=>dsimp only at e;rw [h]at e;exact f l h e
theorem rL.of(D:P.ag h)(r:ar w B P v p):∀{t:eK},eS t p I=O E->rL w B P t p v h
 |.ak _,_=>r
 |.bS _,e=>eS.E e λl C Y=>dk (W5 D r C) λA F H Y=>(d_ A l F C H)
section
variable{g:Gh}
theorem Kh(E:A.handled=am)(x:ti s.heap v C)(F:B.length=C.length)(D:B.findIdx? (·.1)=am)
  (h:∀H,BD s.heap.objs.size s.heap H->ca (cr pw g.w) A (wg (B.map (·.2)) C) Q a9 {s with heap:=H}):ca (cr pw g.w) A (unpack v B) Q a9 s:=by
 refine aQ x λT e x=>?_
 refine eR e (x.elim (λx=>wpAny_unpack_tuple E x (by rw [F];simp) D h) λx=>?_)
 unfold unpack
 exact eR D (eR (show B.length=(C.toArray).size by rw [F];simp) (gy (kun_itemsOf E x h)))
theorem Ci(h:xo x A e=M):∃y p,e=.Name y p∧e9 A y=M∧x=aW y:=
 B2 h λB h=>B2 h λC D=>fP (dH B) λy p q=>(d_ y p q (by subst q;exact C) (by subst q;exact (AC D).symm))
theorem iz.E{x:X}{B:W X}{A:W kt}{G:W kt->Prop}(h:iz (x::B) C A=M)(f:∀y p A,e9 C y=M->x=aW y->iz B C A=M->G (.Name y p::A)):G A:=by
 cases A with
 |nil=>exact bY h
 |cons e A=>exact B2 h λD F=>bX (Ci D) λy p q H I=>q▸f y p A H I F
theorem iz.aU(h:iz [] B A=M):A=[]:=uu.mp h
theorem KS:∀{B:W X} {A:W kt},iz B E A=M->(sJ A env).length=B.length∧(sJ A env).findIdx? (·.1)=am:=λ{B}=>no_implicit_lambda% (cB B (@λA h=>eR (iz.aU h) ⟨N,N⟩) λx B C {A} h=>iz.E (G:=λA=>(sJ A env).length=B.length+1∧(sJ A env).findIdx? (·.1)=am) h λy p A Y Y h=>by
  have D:=C h
  refine ⟨lc (· +1) D.1,(?_:List.findIdx? (·.1) ((bn,wh (.Name y p) env)::sJ A env)=am)⟩
  rw [List.findIdx?_cons,D.2];rfl)
theorem J0:∀{B:W X} {l:W PV} {C A:av},eS.qZ B l C=O A->B.length=l.length
 |[],[],_,_,_=>N
 |x::B,v::l,C,A,h=>lc (· +1) (J0 (show eS.qZ B l _=O A from h))
 |[],_::_,_,_,h=>aH h
 |_::_,[],_,_,h=>aH h
theorem KU{A:pc}{Z:na}{S:be->Prop}{P:PM}(F:dh env Z)(c:i9 env Z S):∀{U:W X} {E:W kt} {B:W bm} {l:W PV} {H D:av} {s:ce} {R:UF->ce->Prop},iz U Z E=M->bH g.w g.az P B l->eS.qZ U l H=O D->
  aT g env S P H s->aS g P e s->(∀J,aT g env S P D J->aS g P e J->eB g S P s P J->R () J)->ca (cr pw g.w) A (wg ((sJ E env).map (·.2)) B) R a9 s
 |[],E,B,[],H,D,s,R,L,b,C,a,I,k=>eR (iz.aU L) (eR (show B=[] from b.I) (lf (k s (ii C▸a) I (.bQ ..))))
 |[],_,_,_::_,_,_,_,_,_,_,h,_,_,_=>aH h
 |_::_,_,_,[],_,_,_,_,_,_,h,_,_,_=>aH h
 |x::U,E,B,p::l,H,D,s,R,L,b,C,a,I,k=>by
  refine bX b.I λv d q f i=>iz.E (G:=λE=>ca (cr pw g.w) A (wg ((sJ E env).map (·.2)) B) R a9 s) L λy j E m n L=>?_
  have C:eS.qZ U l (aK H x (.ax p))=O D:=C
  refine eR q ?_
  rw [n]at C
  refine (?_:ca _ _ (mI d (wh (.Name y j) env v)>>=λY=>wg ((sJ E env).map (·.2)) d) R a9 s)
  exact gy (Fw (sj F c m a I f λJ o r t=>KU F c L i C o r λw a2 I2 G2=>k w a2 I2 (t.bD G2)))
theorem y7(h:iB (.ak x) A e=M):∃y p,e=.Name y p∧e9 A y=M∧x=aW y:=Ci h
theorem yT(h:iB (.bS B) C e=M):∃A k p,e=.Tuple A k p∧iz B C A=M:=
 B2 h λD E=>cC (dH D) λA k p q=>(nu A k p q (by subst q;exact E))
theorem Ed(hh:A.handled=am)(F:dh env U)(Y:i9 env U J)(Z:iB t U B=M)
  (f:rL g.w g.az P t p v s.heap) (e:eS t p vs=O L) (a:aT g env J P vs s) (I:aS g P ob s) (k:∀C,aT g env J P L C->aS g P ob C->eB g J P s P C->R () C):ca (cr pw g.w) A (wh B env v) R a9 s:=by
 cases t with
 |ak x=>
  refine bX (y7 Z) λy py q hy ex=>eR q (Fw (sj F Y hy a I f λC H=>k C ?_))
  rw [←ex]at H
  exact ii e▸H
 |bS xs=>
  refine zZ (yT Z) λes kk pp q D=>bX f λj l h1 h2 h3=>eS.E e λl' hl e=>eR (q ..) (eR (arm_assign_Tuple ..) ?_)
  rw [ii (hl.symm.trans h2)]at e
  have c:∀{S:li},BD s.heap.objs.size s.heap S->bq P s P {s with heap:=S,toks:=s.toks}:=λE=>bq.cv I.ag λb o eo=>E b o (λq=>mF _ (q▸FM eo)) eo
  have m0:=KS (env:=env) D
  exact gS (Kh hh h1 (eR (m0.1 ..) (eR (J0 e ..) (eR (h3.bO ..) N))) m0.2 λS E=>KU (g:=g) (A:=A) F Y D h3 e (a.cv (c E).ew) (I.g8 (c E)) λC H I' G'=>k C H I' (((c E).ew.cJ a.bR).eP.bD G'))
end
section
variable{w:lw}{A:pc}{E:bm->ce->Prop}{s:ce}
theorem Ti(B:s.heap.IsTupleIter D t i)(P:s.heap.IsTuple t C)(R:C[i]? =O x)
  (S:∀I,I.IsTupleIter D t (i+1)->ug D s.heap I->Q x {s with heap:=I}):ca (cr pw w) A (uw (.ref D)) Q E s:=by
 refine dk (id B) λo H U F=>?_
 obtain ⟨Y,J,_,Z,L⟩:=P
 unfold uw
 refine dL (v9 (name:=to "__next__") B.typeIs Fx (qT Fx B.typeIs Zj ?_ (Zl _)))
 refine (?_:ca _ _ (sE (.ref D) 0>>=_) _ _ s)
 refine jZ H F (x:=.ref t) N (?_:ca _ _ (if(Ev t==Uf)=M then _ else _) _ _ s)
 refine (f0 (show¬((Ev t==Uf)=M) from MR))▸(?_:ca _ _ (sE (.ref D) 1>>=_) _ _ s)
 refine jZ H F (x:=.int i 0) N (?_:ca _ _ (seqItems? (.ref t)>>=_) _ _ s)
 refine nW J L ?_
 simp only [Zm,R]
 refine dL (wpAny_setField H F (by simp) (lf (ay x N (lf (S _ ?_ (Fy ..))))))
 exact (cq _ (yE _ H (Obj.isFreed_of_fields (Zn F _))) ((Obj.cls_mapFields ..).trans U) (by rw [Zn F];simp [wa]))
theorem Tr(P:A.handled=am)(B:s.heap.IsTupleIter D t i)(R:s.heap.IsTuple t C)(S:C[i]? =am)
  (U:∀F e,BD D s.heap F->(∃o,F.get? e=O o∧o.cls=.type "StopIteration")->E (.ref e) {s with heap:=F}):ca (cr pw w) A (uw (.ref D)) Q E s:=by
 refine dk (id B) λo H Y I=>?_
 obtain ⟨Z,J,_,b,L⟩:=R
 unfold uw
 refine dL (v9 (name:=to "__next__") B.typeIs Fx (qT Fx B.typeIs Zj ?_ (Zl _)))
 refine (?_:ca _ _ (sE (.ref D) 0>>=_) _ _ s)
 refine jZ H I (x:=.ref t) N (?_:ca _ _ (if(Ev t==Uf)=M then _ else _) _ _ s)
 refine (f0 (show¬((Ev t==Uf)=M) from MR))▸(?_:ca _ _ (sE (.ref D) 1>>=_) _ _ s)
 refine jZ H I (x:=.int i 0) N (?_:ca _ _ (seqItems? (.ref t)>>=_) _ _ s)
 refine nW J L ?_
 simp only [Zm,S]
 refine uV (dL (wpAny_setField H I (by simp) (?_:ca _ _ (newExc (.type "StopIteration") []>>=_) _ _ _)))
 refine dL ?_
 simp only [newExc,newTuple]
 refine dL (uh ?_ (by size_fits))
 refine dL (m:=firstArgMember _ _) (sH (a:=Uf) (by first|rfl|(simp only [firstArgMember];rfl)) ?_)
 refine uh ?_ (by size_fits)
 refine (?_:ca _ _ (handled>>=_) _ _ _)
 refine dL (wpAny_handled ?_)
 first|refine (show A.in1.handled=am from P)▸?_|refine P▸?_
 exact kS (wpAny_throw (U _ _ (((Fy ..).extBut.push _).push _) (ay _ (Ix _ N) N)))
end
theorem U8(U:A.handled=am)(D l:be)(I:l≠D)(B:sK bm):
  sL pw w A D [D,l] B.size (λi v=>B[i]? =O v) (λi h=>h.IsTupleIter D l i∧h.IsTuple l B)where
 live:=λY Y C=>let⟨o,J,_⟩:=C.1;⟨o,J⟩
 frame:=λY Y Y C P=>by
  obtain ⟨⟨o,J,r⟩,⟨R,L,Z⟩⟩:=C
  exact ⟨(ay o (P D (by simp) o J) r),(ay R (P l (by simp) R L) Z)⟩
 item:=λi s Q E S C a=>Ti C.1 C.2 (x:=B[i]) (by simp [S]) λb F H=>a _ b s.toks (by simp [S]) ⟨F,C.2.extBut H.extBut I⟩ H
 done:=λs Q E C c=>Tr U C.1 C.2 (by simp) c
structure Cj(z TI TO i1 i2:be)(fp1 nT:W be):Prop where
 H':TI≠z
 vm:TO≠z
 H_:i1≠z
 QZ:i2≠z
 agy:TI≠TO
 agz:TI≠i1
 agA:TI≠i2
 QD:TO≠i1
 agB:TO≠i2
 i12:i1≠i2
 z1:z∉fp1
 z2:z∉nT
 t1:TO∉fp1
 t2:TO∉nT
 a1:i2∉fp1
 a2:i1∉nT
section
variable{w:lw}{A:pc}{z j d t B:be}{C F:W be}{H I:X}{L J:X->bm->Prop}{m l:X->li->Prop}
noncomputable def Ia(z j d t B:be)(m l:X->li->Prop)(i:X)(h:li):Prop:=qV h z j d .none∧n8 h j (.ref t) (.ref B)∧(∃a b,n8 h d a b)∧m i h∧l i h
noncomputable def Q0(z j d t B:be)(L J:X->bm->Prop)(m l:X->li->Prop)(i:X)(v:bm)(h:li):Prop:=∃T x y,v=.ref T∧L i x∧J i y∧n8 h T x y∧qV h z j d (wa T)∧n8 h j (.ref t) (.ref B)∧(∃a b,n8 h d a b)∧m (i+1) h∧l (i+1) h∧T≠z
theorem kT{U:be}{S:W be}{n:X}{P:X->bm->Prop}{E:X->li->Prop}(D:sL pw w A U S n P E){i:X}{h R:li}{b:be}(Y:E i h)(Z:BD b h R)(a:b∉S):E i R:=
 D.frame i h R Y λc f o e=>Z c o (λq=>a (q▸f)) e
theorem Om{P R:Type}{x y:R}{D:P}{f:R×X->P->wE (ForInStep P)}{a:Model}{A:pc}{Q:P->ce->Prop}{E:bm->ce->Prop}{s:ce}
  (k:ca a A (f (x,0) D>>=λr=>match r with|.done b=>re b|.yield b=>f (y,1) b>>=λr=>match r with|.done b=>re b|.yield b=>re b) Q E s):ca a A (wi [x,y].zipIdx D f) Q E s:=by
 exact k
theorem aaK(D:Cj z j d t B C F)(D1:sL pw w A.in1 t C H L m)(D2:sL pw w A.in1 B F I J l){i:X}(h1:i<H)(h2:i<I){s:ce}{Q:im bm->ce->Prop}{E:bm->ce->Prop}(st:Ia z j d t B m l i s.heap)
  (hQ:∀v h' tk,Q0 z j d t B L J m l i v h'->(∀b o,b∉[z,d,t,B]->s.heap.get? b=O o->h'.get? b=O o)->Q (O v) {s with heap:=h',toks:=tk}):ca (cr pw w) A (n9 (.ref z)) Q E s:=by
 refine rC st λhz tV RJ my fq=>?_
 clear st
 refine fP RJ λa b r5=>?_
 clear RJ
 have hT:s.TypeIs (.ref z) "zip" :=(ay _ hz N)
 unfold n9
 refine dL (FA (v9 (name:=to "__next__") hT FC (qT FC hT Zp ?_ (Zq _))))
 refine (?_:ca _ _ (sE (.ref z) 2>>=_) _ _ _)
 refine jZ hz N (x:=.bool bn) N (?_:ca _ _ (sE (.ref z) 3>>=_) _ _ _)
 refine jZ hz N (x:=.ref j) N (nW tV N (?_:ca _ _ (FD (.ref z)>>=_) _ _ _))
 refine dL ?_
 unfold FD
 refine jZ hz N (x:=.none) N (lf (mV (by decide) (uV (jZ hz N (x:=.ref d) N (vP hz (by simp) λJa U f=>?_)))))
 replace U:qV Ja z j d .ellipsis:=U
 refine dL (Om (dL (dL (FE (?_:ca _ _ (uw (.ref t)>>=_) _ _ _)))))
 refine dL (D1.item i _ _ _ h1 (kT D1 my f.extBut D.z1) λx Az aiJ hx Sm h=>lf ?_)
 have n:n8 Az d a b:=h.extBut _ _ D.QD (f.extBut _ _ D.vm r5)
 refine nW n N (dL (MT n λJI S r=>?_))
 replace S:n8 JI d x b:=S
 refine GL (lf (dL (dL (FE (?_:ca _ _ (uw (.ref B)>>=_) _ _ _)))))
 refine dL (D2.item i _ _ _ h2 (kT D2 (kT D2 (kT D2 fq f.extBut D.z2) h.extBut D.a2) r.extBut D.t2) λy Ji aiY hy aja vt=>lf ?_)
 have RG:n8 Ji d x b:=vt.extBut _ _ D.agB S
 refine nW RG N (dL (MT RG λP R vG=>?_))
 replace R:n8 P d x y:=R
 refine GL (lf (lf (nW R N (dL (E3 ?_)))))
 have RU:qV P z j d .ellipsis:=vG.extBut _ _ D.vm.symm (vt.extBut _ _ D.QZ.symm (r.extBut _ _ D.vm.symm (h.extBut _ _ D.H_.symm U)))
 have Sx:∀c o,c≠z->c≠d->c≠t->c≠B->s.heap.get? c=O o->P.get? c=O o:=λc o c1 c2 c3 c4 e=>
  vG.extBut _ _ c2 (vt.extBut _ _ c4 (r.extBut _ _ c2 (h.extBut _ _ c3 (f.extBut _ _ c1 e))))
 have IJ:z<P.objs.size:=FM RU
 refine (?_:ca _ _ (Zr (.ref z) (.ref P.objs.size)>>=_) _ _ _)
 refine dL ?_
 unfold Zr
 have akW:qV (P.push {cls:=.type "tuple",data:=.seq #[x,y]}) z j d .ellipsis:=tz _ RU
 refine vP akW (by simp) λak4 Y R3=>?_
 replace Y:qV ak4 z j d (wa P.objs.size):=Y
 refine E9 Y (by simp) λDX Z Sq=>?_
 replace Z:qV DX z j d (wa P.objs.size):=Z
 have up:∀c o,c≠z->P.get? c=O o->DX.get? c=O o:=λc o c1 e=>Sq.extBut _ _ c1 (R3.extBut _ _ c1 (tz _ e))
 have akd:n8 DX P.objs.size x y:=Sq.extBut _ _ (pC IJ) (R3.extBut _ _ (pC IJ) (Ix _ N))
 refine lf (ay _ N (lf (hQ _ DX aiY ⟨_,x,y,N,hx,hy,akd,Z,?_,dC x y (up _ _ D.vm R),?_,?_,pC IJ⟩ λc o hc e=>?_)))
 ·exact up _ _ D.H' (Sx _ _ D.H' D.agy D.agz D.agA tV)
 ·exact D1.frame _ _ _ (kT D1 (kT D1 (kT D1 Sm r.extBut D.t1) vt.extBut D.a1) vG.extBut D.t1) λc hc o e=>up c o (λq=>D.z1 (q▸hc)) e
 ·exact D2.frame _ _ _ (kT D2 aja vG.extBut D.t2) λc hc o e=>up c o (λq=>D.z2 (q▸hc)) e
 ·simp only [wl,sI,yD,wj]at hc
  exact up c o hc.1 (Sx c o hc.1 hc.2.1 hc.2.2.1 hc.2.2.2 e)
theorem acD(hh:A.handled=am)(D:Cj z j d t B C F)(D1:sL pw w A.in1 t C H L m)(D2:sL pw w A.in1 B F I J l){s:ce}{Q:im bm->ce->Prop}{E:bm->ce->Prop}(st:Ia z j d t B m l (Fa H I) s.heap)
  (hQ:∀h' tk,(∀b o,b∉[z,d,t,B]->s.heap.get? b=O o->h'.get? b=O o)->Q am {s with heap:=h',toks:=tk}):ca (cr pw w) A (n9 (.ref z)) Q E s:=by
 refine rC st λhz tV hp6 my fq=>?_
 clear st
 obtain ⟨a,b,r5⟩:=hp6
 have hT:s.TypeIs (.ref z) "zip" :=(ay _ hz N)
 unfold n9
 refine dL (FA (v9 (name:=to "__next__") hT FC (qT FC hT Zp ?_ (Zq _))))
 refine (?_:ca _ _ (sE (.ref z) 2>>=_) _ _ _)
 refine jZ hz N (x:=.bool bn) N (?_:ca _ _ (sE (.ref z) 3>>=_) _ _ _)
 refine jZ hz N (x:=.ref j) N (nW tV N (?_:ca _ _ (FD (.ref z)>>=_) _ _ _))
 refine dL ?_
 unfold FD
 refine jZ hz N (x:=.none) N (lf (mV (by decide) (uV (jZ hz N (x:=.ref d) N (vP hz (by simp) λJa S U=>?_)))))
 replace S:qV Ja z j d .ellipsis:=S
 refine dL (Om (dL (dL (FE (?_:ca _ _ (uw (.ref t)>>=_) _ _ _)))))
 have fin:∀(h':li) (tk:X) (e:be),(∀c o,c≠z->c≠d->c≠t->c≠B->s.heap.get? c=O o->h'.get? c=O o)->(∃o,h'.get? e=O o∧o.cls=.type "StopIteration")->
   ca (cr pw w) A (do if←isInstance (.ref e) (.type "StopIteration")then re am else throw (.ref e)) Q E {s with heap:=h',toks:=tk}:=by
  intro h' tk e hk ⟨o,ho,hc⟩
  refine D4 (T:="StopIteration") (b:=M) (ay o ho hc) isSubtype_stop (lf (hQ _ _ λc o hc e=>?_))
  simp only [wl,sI,yD,wj]at hc
  exact hk c o hc.1 hc.2.1 hc.2.2.1 hc.2.2.2 e
 have DB:=kT D1 my U.extBut D.z1
 rcases n6 (Fa H I) H with cZ|Jr
 ·have e2:Fa H I=I:=ax1 cZ
  rw [e2]at fq cZ DB
  refine dL (D1.item I _ _ _ cZ DB λx y aiJ hx Sm P=>lf ?_)
  have f:n8 y d a b:=P.extBut _ _ D.QD (U.extBut _ _ D.vm r5)
  refine nW f N (dL (MT f λJI DU R=>GL (lf (dL (dL (FE (?_:ca _ _ (uw (.ref B)>>=_) _ _ _)))))))
  refine dL (D2.done _ _ _ (kT D2 (kT D2 (kT D2 fq U.extBut D.z2) P.extBut D.a2) R.extBut D.t2) λJi e vt he=>?_)
  obtain ⟨oe,Z,AN⟩:=he
  have Sr:qV Ji z j d .ellipsis:=vt _ _ D.QZ.symm (R.extBut _ _ D.vm.symm (P.extBut _ _ D.H_.symm S))
  have IL:e≠z:=λx=>by subst x;rw [Sr]at Z;obtain rfl:=ii Z;simp at AN
  refine E9 Sr (by simp) λpn Y vG=>fin _ _ e (λc o c1 c2 c3 c4 x=>vG.extBut _ _ c1 (vt _ _ c4 (R.extBut _ _ c2 (P.extBut _ _ c3 (U.extBut _ _ c1 x))))) (ay oe (vG.extBut _ _ IL Z) AN)
 ·have e1:Fa H I=H:=ax2 Jr
  rw [e1]at DB
  refine dL (D1.done _ _ _ DB λy e P he=>?_)
  obtain ⟨oe,Z,AN⟩:=he
  have SG:qV y z j d .ellipsis:=P _ _ D.H_.symm S
  have IL:e≠z:=λx=>by subst x;rw [SG]at Z;obtain rfl:=ii Z;simp at AN
  refine E9 SG (by simp) λJI Y R=>fin _ _ e (λc o c1 Y c3 Y x=>R.extBut _ _ c1 (P _ _ c3 (U.extBut _ _ c1 x))) (ay oe (R.extBut _ _ IL Z) AN)
theorem W6(hh:A.handled=am){elts:W kt}{k:X}(D:Cj z j d t B C F)(D1:sL pw w A.in1 t C H L m)(D2:sL pw w A.in1 B F I J l)(m1:t∈C)(m2:B∈F):
  sM pw w A (.Tuple elts k pos) z (z::j::d::(C++F)) [z,d,t,B] (Fa H I) (λi v h=>∃T x y,v=.ref T∧L i x∧J i y∧n8 h T x y) (Q0 z j d t B L J m l) (Ia z j d t B m l)where
 sub:=λc S=>by
  simp only [wl,sI,yD]at S
  simp only [wl,pI]
  rcases S with rfl|rfl|rfl|rfl
  ·exact .inl N
  ·exact .inr (.inr (.inl N))
  ·exact .inr (.inr (.inr (.inl m1)))
  ·exact .inr (.inr (.inr (.inr m2)))
 frame:=λi h h' f hk=>by
  refine rC f λhz U Sy Y Z=>?_
  clear f
  refine fP Sy λa b R=>?_
  clear Sy
  refine (C2 (hk z (by simp) _ hz) (hk j (by simp) _ U) (dC a b (hk d (by simp) _ R)) (D1.frame _ _ _ Y λc S=>hk c (by simp [S])) (D2.frame _ _ _ Z λc S=>hk c (by simp [S])))
 item:=λi s Q E hi f hQ=>aaK D D1 D2 (ax3 hi) (ax4 hi) f hQ
 go:=λi v s Q E hm hQ=>by
  refine X3a hm λT x y AU hx hy hT hz U R Y Z hTz=>?_
  clear hm
  subst AU
  refine wpAny_letOwnedTupleGo_zip hz λh' hz' P=>hQ h' (gB T x y N hx hy (P.extBut _ _ hTz hT)) (C2 hz' (P.extBut _ _ D.H' U) ?_ (kT D1 Y P.extBut D.z1) (kT D2 Z P.extBut D.z2)) λc o S e=>P.extBut _ _ (λq=>S (by simp [q])) e
  exact fP R λa b R=>(dC a b (P.extBut _ _ D.vm R))
 done:=λs Q E f hQ=>acD hh D D1 D2 f hQ
end
noncomputable def oX(h:li)(l:be)(c:IN)(A:W bm):Prop:=(c="list_iterator" ∧h.IsList l A.toArray)∨(c="tuple_iterator" ∧h.IsTuple l A.toArray)
@[reducible]noncomputable def vn(c:IN)(l:be):Db:={cls:=.type c,data:=.fields #[.ref l,.int 0 0]}
theorem fk{A:Type}{p:A->Prop}{a:A}{l:W A}(h:p a)(k:∀b∈l,p b):∀b∈a::l,p b:=List.forall_mem_cons.mpr ⟨h,k⟩
theorem qs{A:Type}{p:A->Prop}:∀b∈([]:W A),p b:=λY h=>nomatch h
theorem Q1{A:Type}{p:A->Prop}{l m:W A}(h:∀b∈l,p b)(k:∀b∈m,p b):∀b∈l++m,p b:=List.forall_mem_append.mpr ⟨h,k⟩
theorem oX.ct(x:oX h l c A)(k:∀o,h.get? l=O o->B.get? l=O o):oX B l c A:=
 x.imp (λx=>⟨x.1,x.2.elim λo z=>(ay o (k o z.1) z.2)⟩) λx=>⟨x.1,x.2.elim λo z=>(ay o (k o z.1) z.2)⟩
theorem oX.lt(x:oX h l c A):l<h.objs.size:=x.elim (λx=>x.2.elim λY z=>FM z.1) λx=>x.2.elim λY z=>FM z.1
theorem F8(x:oX s.heap l c D)(B:Q (.ref s.heap.objs.size) {s with heap:=s.heap.push (vn c l)}):ca (cr C w) A (lK (.ref l)) Q E s:=by
 rcases x with⟨rfl,x⟩|⟨rfl,x⟩
 ·exact MK x B
 ·exact wpAny_pyIter_tuple x B
noncomputable def tj(I l:be)(c:IN)(A:W bm)(i:X)(h:li):Prop:=(c="list_iterator" ∧h.IsListIter I l i∧h.IsList l A.toArray)∨(c="tuple_iterator" ∧h.IsTupleIter I l i∧h.IsTuple l A.toArray)
theorem KV:tj I l "list_iterator" A=λi h=>h.IsListIter I l i∧h.IsList l A.toArray:=by
 funext i h
 exact BA ⟨λx=>x.elim (λx=>x.2) λx=>nw x.1 (by decide),λx=>.inl ⟨N,x⟩⟩
theorem Lx:tj I l "tuple_iterator" A=λi h=>h.IsTupleIter I l i∧h.IsTuple l A.toArray:=by
 funext i h
 exact BA ⟨λx=>x.elim (λx=>nw x.1 (by decide)) λx=>x.2,λx=>.inr ⟨N,x⟩⟩
theorem Ly(F:A.handled=am)(B l:be)(C:l≠B)(c:IN)(H:c="list_iterator" ∨c="tuple_iterator")(E:W bm):sL pw w A B [B,l] E.length (λi v=>E[i]? =O v) (tj B l c E):=by
 rcases H with rfl|rfl
 ·have D:=Draws.list (prog:=pw) (w:=w) F B l C E.toArray
  simp only [yu,wP]at D
  rw [KV];exact D
 ·have D:=U8 (w:=w) F B l C E.toArray
  simp only [yu,wP]at D
  rw [Lx];exact D
theorem W7(I:A.handled=am)(F:kt)(B l:be)(H:l≠B)(c:IN)(J:c="list_iterator" ∨c="tuple_iterator")(C:W bm):
  sM pw w A F B [B,l] [B] C.length (λi v Y=>C[i]? =O v) (λi v h=>C[i]? =O v∧tj B l c C (i+1) h) (tj B l c C):=by
 have a:Walks pw w A B [B,l] [B] C.length (λi v=>C[i]? =O v) (tj B l c C):=by
  rcases J with rfl|rfl
  ·have D:=Walks.list (prog:=pw) (w:=w) I B l H C.toArray
   simp only [yu,wP]at D
   rw [KV];exact D
  ·have D:=Walks.tuple (prog:=pw) (w:=w) I B l H C.toArray
   simp only [yu,wP]at D
   rw [Lx];exact D
 refine KTurns.ofWalks a λi v s Q E L q=>?_
 rcases L with⟨_,x,_⟩|⟨_,x,_⟩
 ·exact letGo_listiter x q
 ·exact letGo_tupleiter x q
theorem F9{c:IN}{A:W bm}:∀i h,tj B l c A i h->∀b∈[B,l],h.get? b≠am:=λi h C=>
 C.elim (λx=>fk (x.2.1.elim λo z q=>aH (q.symm.trans z.1)) (fk (x.2.2.elim λo z q=>aH (q.symm.trans z.1)) qs)) λx=>fk (x.2.1.elim λo z q=>aH (q.symm.trans z.1)) (fk (x.2.2.elim λo z q=>aH (q.symm.trans z.1)) qs)
theorem EA(x:oX h l c B)(k:∀b o,h.get? b=O o->A.get? b=O o)(g:A.get? C=O (vn c l)):tj C l c B 0 A:=
 (x.ct (B:=A) λo=>k l o).imp (λx=>(bt x.1 (cq _ g (by rw [x.1]) N) x.2)) λx=>(bt x.1 (cq _ g (by rw [x.1]) N) x.2)
theorem GS(I:P.ag h)(r:ar w B P v p)(e:gm p=O l):∃a c H,v=.ref a∧(c="list_iterator" ∨c="tuple_iterator")∧(∀D,P.ag D->oX D a c H)∧bH w B P H l∧(∃o,P a=O o)∧l.length≤4096:=by
 revert r
 refine gm.E (G:=λp=>ar w B P v p->_) e (λr=>?_) λr=>?_
 ·exact cw r.I λa Y Y q C E F=>⟨a,_,_,q,.inr N,λD A=>.inr (ff N (cq _ (A _ _ C) N ⟨_,N⟩)),E,⟨_,C⟩,F⟩
 ·exact cw r.I λa Y Y q C E F=>⟨a,_,_,q,.inl N,λD A=>.inl (ff N (cq _ (A _ _ C) N ⟨_,N⟩)),E,⟨_,C⟩,F⟩
noncomputable def rM(w:lw)(A:W (be×be))(P:PM)(t:eK)(p:PV)(v:bm)(h:li):Prop:=P.ag h->∀C B,eS t p C=O B->rL w A P t p v h
noncomputable def Itr(w:lw)(E:W (be×be))(A:pc)(C:kt)(t:eK)(P:PM)(B:W PV)(I:be)(H h:li):Prop:=
 ∃(F J:W be) (L:X->bm->li->Prop) (D:X->li->Prop),sM pw w A C I F J B.length (λi v h=>∃p,aY B i=O p∧rM w E P t p v h) L D∧(∀b∈F,H.get? b=am∨∃o,P b=O o)∧(∀b∈J,H.get? b=am)∧(∀i h,D i h->∀b∈F,h.get? b≠am)∧D 0 h∧B.length≤4096∧∀(s:ce) (Q:bm->ce->Prop),D 0 s.heap->Q (.ref I) s->ca (cr pw w) A (lK (.ref I)) Q (λY Y=>wn) s
theorem zi.iC{w:lw}{B:kt}{L R:W be}{n:X}{P S U:X->bm->li->Prop}{Y:X->li->Prop}(K:sM pw w A B I L R n P U Y)(h:∀i v h,i<n->P i v h->S i v h):
  sM pw w A B I L R n S (λi v h=>i<n∧U i v h) Y where
 sub:=K.sub
 frame:=K.frame
 item:=λi s Q E Z F H=>K.item i s Q E Z F λv C a D J=>H v C a ⟨Z,D⟩ J
 go:=λi v s Q E D H=>K.go i v s Q E D.2 λC b F J=>H C (h i v C D.1 b) F J
 done:=K.done
theorem B6:∀{l:W PV} {A:W bm},bH w B P A l->∀{i:X} {v:bm},A[i]? =O v->∃p,aY l i=O p∧ar w B P v p:=λ{l}=>no_implicit_lambda% (cB l (@λA r i v e=>by rw [show A=[] from r.I]at e;exact aH e) λp l C {A} r i v e=>bX r.I λu F q D E=>by
  rw [q]at e
  cases i with
  |zero=>exact (ay p N (ii e▸D))
  |succ i=>exact C E e)
theorem Lz:∀{l m:W PV} {i:X} {p q:PV},aY l i=O p->aY m i=O q->aY (zH l m) i=O (.af [p,q])
 |_::_,_::_,0,_,_,h,k=>by rw [←ii h,←ii k];rfl
 |_::l,_::m,i+1,p,q,h,k=>Lz (l:=l) (m:=m) (i:=i) h k
 |[],_,_,_,_,h,_=>aH h
 |_::_,[],_,_,_,_,k=>aH k
theorem D7:∀(l m:W PV),(zH l m).length=Fa l.length m.length
 |[],_=>(Nat.zero_min _).symm
 |_::_,[]=>(Nat.min_zero _).symm
 |_::l,_::m=>(lc (· +1) (D7 l m)).trans (Nat.succ_min_succ ..).symm
theorem KW:∀{l:W PV} {i:X} {k:al} {p:PV},aY l i=O p->aY (u0 k l) i=O (.af [.ab (k+i),p])
 |_::_,0,k,_,h=>eL (ii h) (lc (λi=>O (PV.af [.ab i,_])) (Zs k).symm)
 |_::l,i+1,k,p,h=>(KW (l:=l) (i:=i) (k:=k+1) h).trans (lc (λi=>O (PV.af [.ab i,p])) (by exact QO))
theorem Ki:∀(l:W PV) (k:al),(u0 k l).length=l.length:=λl=>cB l (λY=>N) λY l A k=>lc (· +1) (A (k+1))
theorem Km:∀{n i:X} {k:al},i<n->aY (wM n k) i=O (.ab (k+i))
 |n+1,0,k,_=>lc (λi=>O (PV.ab i)) (Zs k).symm
 |n+1,i+1,k,h=>(Km (n:=n) (k:=k+1) (vY h)).trans (lc (λi=>O (PV.ab i)) (by exact QO))
theorem J_:∀(n:X) (k:al),(wM n k).length=n:=λn=>w9 n (λY=>N) λn A k=>lc (· +1) (A (k+1))
theorem aaL{w:lw}{A:W (be×be)}{P:PM}{p q:PV}(a:ar w A P x p)(b:ar w A P y q):bH w A P [x,y] [p,q]:=.bg a (.bg b .aU)
theorem NL{w:lw}{P:PM}{h:li}{t:eK}{T:be}{x y:bm}{p q:PV}(C:∃B,t=.bS B)(D:h.IsTuple T #[x,y])(a:ar w A P x p)(b:ar w A P y q):rM w A P t (.af [p,q]) (.ref T) h:=by
 obtain ⟨B,rfl⟩:=C
 exact λY Y Y Y=>(d_ [x,y] [p,q] (ay T N (.inl D)) N (aaL a b))
section
variable{w:lw}{f:W (be×be)}{A:pc}{P:PM}{s:ce}{E:bm->ce->Prop}{j:kt}{t:eK}
noncomputable def w4(w:lw)(f:W (be×be))(A:pc)(j:kt)(t:eK)(P:PM)(B:W PV)(s:ce)(D:bm)(F:ce):Prop:=
 ∃C H I,F={s with heap:=C,toks:=H}∧D=.ref I∧(∀b o,s.heap.get? b=O o->C.get? b=O o)∧Itr w f A j t P B I s.heap C
theorem aaM(F:A.handled=am)(C:P.ag s.heap){p:PV}{l:W PV}(r:ar w f P v p)(e:gm p=O l):ca (cr pw w) A (lK v) (w4 w f A j t P l s) E s:=by
 refine HX (GS C r e) λa c H q I J D L R=>?_
 have x:=J _ C
 refine eR q ?_
 have K:=W7 (w:=w) F j s.heap.objs.size a (PP x.lt) c I H
 rw [D.bO]at K
 exact F8 x (gB _ s.toks _ N N (kK _) ⟨_,_,_,_,(zi.iC (S:=λi v h=>∃p,aY l i=O p∧rM w f P t p v h) K λi v h b S=>aQ (B6 D S) λp U Z=>(ay p U (λC Y Y e=>rL.of C Z e))),fk (.inl (kJ _)) (fk (.inr L) qs),fk (kJ _) qs,F9,EA x (kK _) (Ix _ N),R,λs Q B q=>B.elim (λB=>wpAny_pyIter_listiter B.2.1 q) λB=>wpAny_pyIter_tupleiter B.2.1 q⟩)
theorem acE(c D F:X)(B:D<c)(C:F<c):Cj (c+4) (c+2) (c+3) c (c+1) [c,D] [c+1,F]:=by
 have k:∀{a b:X},a≠b->c+a≠c+b:=λh q=>h (Zt q)
 have l:∀{a b:X},b<c->c+a≠b:=λh=>pC (qJ h (GM ..))
 have n:∀{x a b:X},x≠a->x≠b->x∉[a,b]:=λB C m=>(wl.mp m).elim B λm=>C (IR.mp m)
 exact ⟨k (by decide),k (by decide),(k (a:=0) (by decide)),k (by decide),k (by decide),k (b:=0) (by decide),k (by decide),k (b:=0) (by decide),k (by decide),k (a:=0) (by decide),n (k (b:=0) (by decide)) (l B),n (k (by decide)) (l C),n (k (b:=0) (by decide)) (l B),n (k (by decide)) (l C),n (k (b:=0) (by decide)) (l B),n (k (a:=0) (by decide)) (l (a:=0) C)⟩
@[reducible]noncomputable def Dh(h:li)(B:IN)(C:be):li:=h.push (vn B C)
@[reducible]noncomputable def Di(h:li)(B:IN)(C:be)(D:IN)(F:be):li:=(Dh h B C).push (vn D F)
@[reducible]noncomputable def Dj(h:li)(B:IN)(C:be)(D:IN)(F:be):li:=(Di h B C D F).push {cls:=.type "tuple",data:=.seq #[.ref h.objs.size,.ref (Dh h B C).objs.size]}
@[reducible]noncomputable def Dk(h:li)(B:IN)(C:be)(D:IN)(F:be):li:=(Dj h B C D F).push {cls:=.type "tuple",data:=.seq #[.none,.none]}
@[reducible]noncomputable def tH(h:li)(B:IN)(C:be)(D:IN)(F:be):li:=(Dk h B C D F).push {cls:=.type "zip",data:=.fields #[.none,.bool bn,.bool bn,.ref (Di h B C D F).objs.size,.ref (Dj h B C D F).objs.size]}
theorem acF(B C:be)(D F:IN)(Z L:W bm):Meets (Builtin.«zip.__new__» ⟨[.type "zip",.ref B,.ref C],[]⟩) (λY R s=>oX s.heap B D Z∧oX s.heap C F L∧
   R (.ok (.ret (.ref (Dk s.heap D B F C).objs.size))) {s with heap:=tH s.heap D B F C}):=by
 refine .of_wp λS w A R s h=>?_
 obtain ⟨a,g,d,b,c⟩:=s
 obtain ⟨H,I,h⟩:=h
 have U:=sub_zip
 have J:oX (Shared.heap ⟨a.push (vn D B),g,d,b,c⟩) C F L:=I.ct λo e=>tz _ e
 wp_walk using F8 H,F8 J
 exact (ay _ N h)
theorem adS(hh:A.handled=am)(Z:P.ag s.heap){pos:KF}{v1 v2:bm}{p1 p2:PV}(r1:ar w f P v1 p1)(r2:ar w f P v2 p2)(e1:gm p1=O m1)(e2:gm p2=O m2):
  ca (cr pw w) A (po (.type "zip") [v1,v2]) (λxv s1=>ca (cr pw w) A (lK xv) (w4 w f A (.Tuple L k pos) (.bS DS) P (zH m1 m2) s) E s1) E s:=by
 refine HX (GS Z r1 e1) λB C xs q Ag my R ha1 xU=>HX (GS Z r2 e2) λD F ys q' jB fq S ha2 hJ=>?_
 have a:=my _ Z
 have d:=fq _ Z
 refine eR q (eR q' (callType_new PySem.F.called_zip (by decide) (PySem.F.typeCall_zip_2 _ _) (PySem.F.newCall_zip_2 _ _) (λobj=>PySem.F.args_object_init_3 obj _ _) PySem.F.entry_zip_new (acF B D C F xs ys) (bt a d ?_)))
 have e:(Dh s.heap C B).objs.size=s.heap.objs.size+1:=ux ..
 have l:(Di s.heap C B F D).objs.size=s.heap.objs.size+2:=eR (ux ..) (eR (e ..) N)
 have m:(Dj s.heap C B F D).objs.size=s.heap.objs.size+3:=eR (ux ..) (eR (l ..) N)
 have z4:(Dk s.heap C B F D).objs.size=s.heap.objs.size+4:=eR (ux ..) (eR (m ..) N)
 have J:(tH s.heap C B F D).get? (Dk s.heap C B F D).objs.size=O _:=Ix _ N
 have n:(tH s.heap C B F D).get? (Dj s.heap C B F D).objs.size=O _:=tz _ (Ix _ N)
 have r:(tH s.heap C B F D).get? (Di s.heap C B F D).objs.size=O _:=tz _ (tz _ (Ix _ N))
 have g2:(tH s.heap C B F D).get? (Dh s.heap C B).objs.size=O (vn F D):=tz _ (tz _ (tz _ (Ix _ N)))
 have g1:(tH s.heap C B F D).get? s.heap.objs.size=O (vn C B):=tz _ (tz _ (tz _ (tz _ (Ix _ N))))
 have U:∀b o,s.heap.get? b=O o->(tH s.heap C B F D).get? b=O o:=λc o x=>tz _ (tz _ (tz _ (tz _ (tz _ x))))
 rw [l,m,z4]at J
 rw [e,l]at r
 rw [m]at n
 rw [e]at g2
 refine eR z4 ?_
 clear e l m z4
 have t1:=EA a U g1
 have t2:=EA d U g2
 clear g1 g2
 revert t1 t2 U r n J
 generalize tH s.heap C B F D=h5
 refine λJ n r U t1 t2=>⟨(ay _ J N),wpAny_pyIter_zip J ?_⟩
 have H:∀k,s.heap.get? (s.heap.objs.size+k)=am:=λk=>MU (GM _ _)
 have K:=W6 (w:=w) (A:=A) hh (elts:=L) (k:=k) (pos:=pos) (acE s.heap.objs.size B D a.lt d.lt) (Ly (w:=w) (A:=A.in1) hh s.heap.objs.size B (PP a.lt) C Ag xs) (Ly (w:=w) (A:=A.in1) hh (s.heap.objs.size+1) D (PP (sO d.lt)) F jB ys) (by simp) (by simp)
 rw [R.bO,S.bO,←D7]at K
 refine (gB _ s.toks _ N N U ⟨_,_,_,_,(zi.iC (S:=λi v h=>∃p,aY (zH m1 m2) i=O p∧rM w f P (.bS DS) p v h) K λi v h hi hx=>cw hx λT x y q yc hy1 hT=>aQ (B6 R yc) λp h1 h2=>aQ (B6 S hy1) λp' h3 h4=>(ay _ (Lz h1 h3) (q▸NL ⟨_,N⟩ (cq _ hT N ⟨_,N⟩) h2 h4))),fk (.inl (H 4)) (fk (.inl (H 2)) (fk (.inl (H 3)) (Q1 (fk (.inl (H 0)) (fk (.inr ha1) qs)) (fk (.inl (H 1)) (fk (.inr ha2) qs))))),fk (H 4) (fk (H 3) (fk (H 0) (fk (H 1) qs))),λi h I=>?_,C2 J r (dC _ _ n) t1 t2,eR (D7 ..) (io (ym _ _) xU),λs Q I q=>wpAny_pyIter_zip I.1 q⟩)
 exact fk (λq=>aH (q.symm.trans I.1)) (fk (λq=>aH (q.symm.trans I.2.1)) (fk (λq=>fP I.2.2.1 λY Y h=>aH (q.symm.trans h)) (Q1 (F9 _ _ I.2.2.2.1) (F9 _ _ I.2.2.2.2))))
theorem acG(d:A.handled=am)(L:P.ag s.heap){B:W kt}{k:X}{D:W X}{m:W PV}(r:ar w f P v (.aj m)):
  ca (cr pw w) A (po (.type "enumerate") [v]) (λxv s1=>ca (cr pw w) A (lK xv) (w4 w f A (.Tuple B k pos) (.bS D) P (u0 0 m) s) E s1) E s:=by
 refine cw r.I λl H n q I R hn=>eR q ?_
 have x:s.heap.IsList l H.toArray:=(cq _ (L _ _ I) N ⟨_,N⟩)
 have S:l<s.heap.objs.size:=FM (L _ _ I)
 refine call_enumerate_list x λh' U hI dg Z=>Zu U ?_
 have K:=KTurns.ofWalksU (elts:=B) (k:=k) (pos:=pos) (WalksT.enumerate (prog:=pw) (w:=w) (A:=A) d (s.heap.objs.size+1) s.heap.objs.size l (Zv _) (PP (sO S)) (PP S) H.toArray).toU
 rw [show H.toArray.size=(u0 0 m).length by rw [Ki,wP,R.bO]]at K
 have K':=zi.iC (S:=λi v h=>∃p,aY (u0 0 m) i=O p∧rM w f P (.bS D) p v h) K λi v h hi hx=>bX hx λT a e y b=>eD y λt x J ev=>aQ (B6 (i:=i) R (by simpa using J)) λp h1 h2=>by
  have c:=KW (k:=0) h1
  rw [E_]at c
  refine eR e ?_
  rw [ev]at b
  exact (ay _ c (NL ⟨_,N⟩ b (.ab _ _) h2))
 have F:∀k,s.heap.get? (s.heap.objs.size+k)=am:=λk=>MU (GM _ _)
 exact (gB h' s.toks _ N N Z ⟨_,_,_,_,K',fk (.inl (F 1)) (fk (.inl (F 0)) (fk (.inr ⟨_,I⟩) qs)),fk (F 1) (fk (F 0) qs),λi h C=>fk (C.1.elim λY z q=>aH (q.symm.trans z)) (fk (C.2.1.elim λY z q=>aH (q.symm.trans z.1)) (fk (C.2.2.elim λY z q=>aH (q.symm.trans z.1)) qs)),bt ⟨_,U⟩ hI (x.at λo e=>Z _ o e),eR (Ki ..) hn,λs Q C q=>C.1.elim λY C=>Zu C q⟩)
theorem aaN(R:A.handled=am){i:al}{H:X}(I:0≤i)(J:i≤1000):
  ca (cr pw w) A (po (.type "range") [.int i F]) (λS U=>ca (cr pw w) A (lK S) (w4 w f A (.Name y p) (.ak H) P (wM i.toNat 0) s) E U) E s:=by
 obtain ⟨n,rfl⟩:=Int.eq_ofNat_of_zero_le I
 refine call_range_1 ?_
 have Z:IsRange (s.heap.push {cls:=.type "range",data:=.fields #[.int 0 s.toks,.int n F,.int 1 (s.toks+1)]}) s.heap.objs.size 0 n 1 s.toks F (s.toks+1):=Ix _ N
 refine wpAny_pyIter_range Z (small_one (by decide) (by decide) (qK (by decide) I) (EU J (by decide))) ?_
 have B:(s.heap.push {cls:=.type "range",data:=.fields #[.int 0 s.toks,.int n F,.int 1 (s.toks+1)]}).objs.size=s.heap.objs.size+1:=ux ..
 have K:=KTurns.ofWalks (target:=.Name y p) (Walks.range (prog:=pw) (w:=w) (A:=A) R (s.heap.objs.size+1) 0 1 n) λi v s Q E D q=>lf q
 have a:=zi.iC (S:=λi v h=>∃q,aY (wM n 0) i=O q∧rM w f P (.ak H) q v h) K λi v h c d=>by
  obtain ⟨t,rfl⟩:=d
  have:=Km (k:=0) c
  rw [E_]at this
  exact (ay _ this (λY Y Y Y=>eR (E_ ..) (eR (Y0 ..) (.ab _ _))))
 have L:∀k,s.heap.get? (s.heap.objs.size+k)=am:=λk=>MU (GM _ _)
 have l:(n:al).toNat=n:=N
 refine eR l (gB _ _ (s.heap.objs.size+1) N (by rw [B]) (λb o e=>tz _ (kK _ b o e)) ⟨_,_,_,_,Eq.mpr (lc (λm=>sM pw w A _ _ _ _ m _ _ _) (J_ n 0)) a,λb C=>?_,λb C=>?_,λi h D b C=>?_,?_,(by rw [J_];exact ax6 J),λs Q D q=>wpAny_pyIter_rangeiter D q⟩)
 ·rw [IR.mp C];exact .inl (L 1)
 ·rw [IR.mp C];exact L 1
 ·rw [IR.mp C,D];simp
 ·refine (?_:IsRangeIter _ _ _ _ _)
  have r:Builtin.Range.rangeSize 0 n 1=n:=by rw [rangeSize_nat];exact lc (λz:al=>(z.toNat:al)) (Yy (n:al))
  refine eL B (eR r ?_)
  have e4:(0:al)+((0:X):al)*1=0:=ax7
  have e5:(n:al)-((0:X):al)=n:=ax8
  exact eR e4 (eR e5 (Ix _ N))
end
section
variable{g:Gh}{n:X}{d:na}
noncomputable def IP(g:Gh)(env:ln)(I:be->Prop)(P:PM)(s:ce)(A:pc)(C:kt)(t:eK)(Q:W PV->av->ai->Prop)(J:bm)(L:ce):Prop:=
 ∃B D E F H,Q B D E∧aT g env I F D H∧aS g F E H∧bW g I P s F H∧w4 g.w g.az A C t F B H J L
@[reducible]noncomputable def xA(k:ky)(Q:W PV->av->ai->Prop)(B:W PV)(C:av)(D:ai):Prop:=oS (jT k B) λA=>Q A C D
structure jk(g:Gh)(n:X)(d:na)(iter:kt)(k:ky)(df:W MX):Prop where
 go:∀{A:pc} {env:ln} {hb:be->Prop} {P:PM} {vs:av} {ob:ai} {s:ce} {Q:W PV->av->ai->Prop} {a_:na} {target:kt} {t:eK},dh env d->eW A n->aT g env hb P vs s->aS g P ob s->iB t a_ target=M->lj t k=M->
  dP (ba g.Φ n) g.Φ df vs ob (xA k Q)->ca (cr pw g.w) A (Fk iter env) (λxv s1=>ca (cr pw g.w) A (lK xv) (IP g env hb P s A target t Q) a9 s1) a9 s
theorem bH.un{w:lw}{A:W (be×be)}{P:PM}{C:W bm}{r:PV}{G:W bm->Prop}(x:bH w A P C [r])(f:∀v,ar w A P v r->G [v]):G C:=
 bX x.I λv B q D E=>eR q (eR (show B=[] from E.I) (f v D))
theorem IP.bJ(q:Q B E F)(a:aT g env L H E D)(I:aS g H F D)(G:bW g L P s H D)
  (h:ca (cr pw g.w) A m (λJ R=>ca (cr pw g.w) A (lK J) (w4 g.w g.az A C t H B D) a9 R) a9 D):ca (cr pw g.w) A m (λJ D=>ca (cr pw g.w) A (lK J) (IP g env L P s A C t Q) a9 D) a9 D:=
 ss h (λY Y S=>ss S (λY Y U=>⟨B,E,F,H,D,q,a,I,G,U⟩) λY Y f=>f) λY Y f=>f
theorem jk.bK(h:SE g n d C m):jk g n d C .bK [m]:=by
 refine ⟨?_⟩
 intro A env l P o w s Q S D t F R a I y hk q
 exact EP.bJ (h.go F R a I q) λv U r E H Z J b L c i=>oS.E J λB e J=>ss (aaM R.1 L.ag c e) (λit s2 j=>⟨B,E,H,Z,U,J,b,L,i,j⟩) λY Y f=>f
theorem jk.qq(B:cI g){f:f8}{a b:kt}(U:gU d f=M)(Y:aW f=Cu)(h:dD g n d [a,b] [Z,j]):jk g n d (.Call (.Name f fp) [a,b] [] p) .qq [Z,j]:=by
 refine ⟨?_⟩
 intro A env hb P vs ob s Q o D t F R ac I y hk q
 cases t with
 |ak x=>exact bY hk
 |bS xs=>
  refine cC (yT y) λes k pt et=>?_
  have hv:aG eU (aW f)=O (.type "zip"):=by rw [Y];kernel_rfl
  refine eR et.1 (wK B F R ac I U hv h q λus s1 rs bu ob1 P1 E a1 L S G1=>oS.E E λH e E=>CU.E e λp1 p2 er e=>o2.E e λm1 m2 e1 e2 ei=>?_)
  rw [er]at S
  refine bX S.I λv1 C J r1 x2=>x2.un (G:=λC=>us=v1::C->_) (λv2 r2 J=>?_) J
  exact eR J (IP.bJ E a1 L G1 (ei▸adS R.1 L.ag r1 r2 e1 e2))
theorem jk.p9(B:cI g){f:f8}{a:kt}(Y:gU d f=M)(Z:aW f=D6)(h:dD g n d [a] [j]):jk g n d (.Call (.Name f fp) [a] [] p) .p9 [j]:=by
 refine ⟨?_⟩
 intro A env hb P vs ob s Q o C t F R ac I y hk q
 cases t with
 |ak x=>exact bY hk
 |bS xs=>
  refine cC (yT y) λes k pt et=>?_
  have hv:aG eU (aW f)=O (.type "enumerate"):=by rw [Z];kernel_rfl
  refine eR et.1 (wK B F R ac I Y hv h q λJ s1 rs bu ob1 P1 D a1 L S G1=>oS.E D λE e D=>ve.E e λU er e=>?_)
  rw [er]at S
  refine S.un (G:=λJ=>ca _ _ (po _ J []) _ _ s1) λv H=>?_
  revert H
  exact Cx.E (G:=λU=>ar g.w g.az P1 v U->_) e λl ei H=>IP.bJ D a1 L G1 (ei▸acG R.1 L.ag H)
theorem jk.hY(B:cI g){f:f8}{a:kt}(U:gU d f=M)(Z:aW f=GD)(h:dD g n d [a] [j]):jk g n d (.Call (.Name f fp) [a] [] p) .hY [j]:=by
 refine ⟨?_⟩
 intro A env hb P vs ob s Q o C t F R ac I ht hk q
 cases t with
 |bS x=>exact bY hk
 |ak x=>
  refine bX (y7 ht) λy pt et Y Y=>?_
  have hv:aG eU (aW f)=O (.type "range"):=by rw [Z];kernel_rfl
  refine eR et (wK B F R ac I U hv h q λJ s1 rs bu ob1 P1 D a1 I1 L G1=>oS.E D λE e D=>ve.E e λS er e=>?_)
  rw [er]at L
  refine L.un (G:=λJ=>ca _ _ (po _ J []) _ _ s1) λv H=>?_
  revert H
  exact Cd.E (G:=λS=>ar g.w g.az P1 v S->_) e λi h0 h1 ei H=>je H.I λtk q=>eR q (IP.bJ D a1 I1 G1 (ei▸aaN R.1 h0 h1))
inductive Dl(w:lw)(ids:W (be×be))(P:PM):Fl->Flow->Prop
 |bp:Dl w ids P .bp .next
 |aB {v:bm} {r:PV}:ar w ids P v r->Dl w ids P (.aB r) (.ret v)
noncomputable def SP(g:Gh)(env:ln)(E:be->Prop)(P:PM)(s:ce)(Q:Fl->av->ai->Prop)(f:Flow)(D:ce):Prop:=
 ∃F A B C,Q F A B∧Dl g.w g.az C F f∧aT g env E C A D∧aS g C B D∧eB g E P s C D
structure SS(g:Gh)(n:X)(d:na)(mutd:W X)(st:sB)(m:MS):Prop where
 go:∀{A:pc} {env:ln} {hb:be->Prop} {P:PM} {vs:av} {ob:ai} {s:ce} {Q:Fl->av->ai->Prop},dh env d->i9 env d hb->eW A n->aT g env hb P vs s->aS g P ob s->
  cY (ba g.Φ n) g.Φ mutd m vs ob Q->ca (cr pw g.w) A (pM st env) (SP g env hb P s Q) a9 s
structure lx(g:Gh)(n:X)(d:na)(mutd:W X)(st:W sB)(m:W MS):Prop where
 go:∀{A:pc} {env:ln} {hb:be->Prop} {P:PM} {vs:av} {ob:ai} {s:ce} {Q:Fl->av->ai->Prop},dh env d->i9 env d hb->eW A n->aT g env hb P vs s->aS g P ob s->
  fy (ba g.Φ n) g.Φ mutd m vs ob Q->ca (cr pw g.w) A (uy st env) (SP g env hb P s Q) a9 s
theorem SP.bJ(h:ca (cr pw g.w) A t (SP g env H P s Q) a9 s)
  (k:∀f D F B C E,Q F B C->Dl g.w g.az E F f->aT g env H E B D->aS g E C D->eB g H P s E D->R f D):ca (cr pw g.w) A t R a9 s:=
 ss h (λf D y=>rG y λF B C E q x a I G=>k f D F B C E q x a I G) λY Y f=>f
theorem lx.aU:lx g n d A [] []:=⟨λY Y Y a I q=>lf (d6 .bp _ _ _ q .bp a I (.bQ ..))⟩
theorem lx.bg{B:W X}{Y:sB}{C:W sB}{H:W MS}(h:SS g n d B Y m)(hs:lx g n d B C H):lx g n d B (Y::C) (m::H):=by
 refine ⟨?_⟩
 intro A env hb P D E s Q F Z R a I q
 have q:cY (ba g.Φ n) g.Φ B m D E λf D E=>match f with|.bp=>fy (ba g.Φ n) g.Φ B H D E Q|.aB v=>Q (.aB v) D E:=q
 refine Re (SP.bJ (h.go F Z R a I q) λf s1 j J L P1 o x1 y I1 G1=>?_)
 cases x1 with
 |bp=>exact SP.bJ (hs.go F Z R y I1 o) λf s2 j S U P2 q2 x2 a2 I2 G2=>(d6 j S U P2 q2 x2 a2 I2 (G1.bD G2))
 |aB r=>exact (d6 _ J L P1 o (.aB r) y I1 G1)
theorem SS.eE{A:W X}{B:sB}:SS g n d A B .eE:=⟨λY Y Y Y Y q=>q.elim⟩
theorem SS.aB(h:SE g n d e m):SS g n d D (.Return (O e) p) (.aB m):=by
 refine ⟨?_⟩
 intro A env Y P Z b s Q F c R a I q
 refine eR (arm_exec_Return ..) (gS (?_:ca _ _ (Fk e env>>=λv=>re (Flow.ret v)) _ _ _))
 exact dL (EP.bJ (h.go F R a I q) λv f r B C E H J L S U=>lf (d6 _ B C E H (.aB S) J L U.eP))
theorem SP.aO(G:eB g E P s F B)(h:ca (cr pw g.w) A t (SP g env E F B Q) a9 B):ca (cr pw g.w) A t (SP g env E P s Q) a9 B:=
 SP.bJ h λY Y H C D I J L R S U=>(d6 H C D I J L R S (G.bD U))
theorem SS.aF{B:W X}{a b:W sB}{C:MX}{D E:W MS}(Y:ST g n d t C)(Z:lx g n d B a D)(f:lx g n d B b E):SS g n d B (.If t a b p) (.aF C D E):=by
 refine ⟨?_⟩
 intro A env j P o y s Q F H R ac I q
 refine eR (arm_exec_If ..) (gS (dL (BP.bJ (Y.go F R ac I q λr o y h=>oB.oV h) λc s1 bu ob1 P1 J L S U=>?_)))
 cases c with
 |true=>exact SP.aO U.eP (Z.go F H R L S J)
 |false=>exact SP.aO U.eP (f.go F H R L S J)
end
section
variable{g:Gh}{n:X}{B:na}
theorem aT.HO(a:aT g env R P S s)(E:∀b,A b->C.get? b≠am)(F:∀o,s.heap.get? env.locals=O o->C.get? env.locals=O o)(H:∀y c o,env.cells.lookup y=O c->s.heap.get? c=O o->C.get? c=O o)
  (L:∀b p,¬R b->dr g P s.heap b p->¬A b∧∀o,s.heap.get? b=O o->C.get? b=O o):aT g env A P S {s with heap:=C,toks:=l}:=
 a.gu.elim λU V=>⟨E,a.ns.elim λm x=>⟨m,cC x λo Y Z z=>(nu o Y Z (F _ z.1) z.2)⟩,a.dq,λx c e=>(bt ((a.cj x c e).1) ((a.cj x c e).2.1) ((a.cj x c e).2.2.elim λv z=>⟨v,aQ z λo d f=>(ay o (H x c o e d) f)⟩)),U,λy p e=>aQ (V.ax y p e) λv I D=>(ay v (I.ct F H) D),λy p e=>jd (V.aX y p e) λI D h i j J=>(l9 (I.ct F H) ((L _ _ D J).1) h i j (J.ct (PM.le.bQ P) (L _ _ D J).2)),V.fc⟩
theorem aT.acH(a:aT g env D P E s)(F:be->Prop)(A:∀b,F b->s.heap.get? b=am∧C.get? b≠am)(k:∀b o,s.heap.get? b=O o->C.get? b=O o)(H:P.ag s.heap):
  aT g env (λb=>D b∨F b) P E {s with heap:=C,toks:=I}:=
 a.HO (λb h=>h.elim (λh=>(a.cv (bW.cv (g:=g) (t:=I) H k)).bR b h) λe=>(A b e).2) (λo=>k _ o) (λY c o Y=>k c o) λb p h o=>⟨λq=>q.elim h λe=>o.ix (A _ e).1,λo=>k b o⟩
theorem aT.m_(a:aT g env A P D s)(d:be->Prop)(E:∀b,d b->A b)(F:¬d env.locals)(H:∀x c,env.cells.lookup x=O c->¬d c)(k:∀b o,¬d b->s.heap.get? b=O o->C.get? b=O o)(I:∀b,s.heap.get? b≠am->C.get? b≠am):
  aT g env A P D {s with heap:=C,toks:=J}:=
 a.HO (λb e=>I b (a.bR b e)) (λo e=>k _ _ F e) (λy c o e h=>k _ _ (H y c e) h) λb p h Y=>⟨h,λo e=>k _ o (λq=>h (E _ q)) e⟩
theorem aT.zN{A F:be->Prop}{D:X}(a:aT g env (λb=>A b∨F b) P E s)(d:be->Prop)(C:∀b,d b->F b∧¬A b)(H:¬d env.locals)(I:∀x c,env.cells.lookup x=O c->¬d c)(k:∀b o,¬d b->s.heap.get? b=O o->J.get? b=O o):
  aT g env A P E {s with heap:=J,toks:=D}:=
 a.HO (λb e q=>(lJ.mp (a.bR b (.inl e))).elim λo L=>aH (q.symm.trans (k b o (λq=>(C b q).2 e) L))) (λo e=>k _ _ H e) (λy c o e h=>k _ _ (I y c e) h) λb p h Y=>⟨λq=>h (.inl q),λo e=>k _ o (λq=>h (.inr (C _ q).1)) e⟩
theorem aS.m_(I:aS g P E s)(a:be->Prop)(C:∀b,a b->P b=am∧¬ej g b)(k:∀b o,¬a b->s.heap.get? b=O o->F.get? b=O o):aS g P E {s with heap:=F,toks:=R}:=
 ⟨I.cJ,λb o e=>k b o (λq=>aH ((C b q).1.symm.trans e)) (I.ag b o e),I.i8,I.os,I.ll,λj b d D=>dk (I.ah j b d D) λA H J L=>(cq A H (J.ct (PM.le.bQ P) λo=>k d o λq=>(C d q).2 (dC j b D)) L),I.c_,I.jL,I.fc⟩
theorem ti.Hw(D:P.le E):∀{t:eK},rL w C P t p v h->rL w C E t p v h
 |.ak _,x=>ar.bU D x
 |.bS _,x=>bX x λA l F H I=>(d_ A l F H (I.bU D))
theorem i9.xe{C F:be->Prop}(A:i9 env B C)(E:¬F env.locals)(H:∀x c,env.cells.lookup x=O c->¬F c):i9 env B (λb=>C b∨F b):=
 ⟨λh=>h.elim A.dq E,λx c I J D h=>h.elim (A.cj x c I J D) (H x c D),A.inj⟩
theorem UE:
  sV A (v::r) C D a R=A v C D (λC D=>sV A r C D a R) R:=N
theorem EB:∀{l:W PV} {i:X} {p:PV},aY l i=O p->l.drop i=p::l.drop (i+1)
 |_::_,0,_,h=>by rw [←ii h];rfl
 |_::l,i+1,p,h=>by rw [Zw,Zw];exact EB (l:=l) (i:=i) h
structure aeJ(g:Gh)(env:ln)(hb Fr:be->Prop)(P P1:PM)(s:ce)(Q:W PV->av->ai->Prop)(items:W PV)(St:X->li->Prop)(i:X)(vs:av)(ob:ai)(P':PM)(s':ce):Prop where
 le:i≤items.length
 q:Q (items.drop i) vs ob
 Q4:aT g env (λb=>hb b∨Fr b) P' vs s'
 Q5:aS g P' ob s'
 cv:eB g hb P s P' s'
 up:P1.le P'
 no:∀b,Fr b->P' b=am
 st:St i s'.heap
theorem SS.d9(ht:iB t B target=M)(hi:jk g n B iter k df)(hs:∀env x,sP iter env x=re x)(D:lx g n B mutd body mb):
  SS g n B mutd (.For target iter body [] p) (.d9 t k df mb):=by
 refine ⟨?_⟩
 intro A env S P vs ob s Q F Pv R a I q
 have H:∃H:PV->av->ai->Nx->Rt->Prop,H=λv vs ob d R=>oS (eS t v vs) λvs=>nc (ba g.Φ n) g.Φ mutd mb vs ob d R:=⟨_,N⟩
 refine H.elim λH eT=>?_
 have q:Internal.oT (lj t k) (dP (ba g.Φ n) g.Φ df vs ob (xA k λC vs ob=>sV H C vs ob (Q .bp) λv=>Q (.aB v))):=by refine eT▸?_;exact q
 refine oT.E q λhk q=>wpAny_For (ss (hi.go F R a I ht hk q) (λxv s1 h1=>ss h1 (λit s2 h2=>?_) λY Y f=>f.elim) λY Y f=>f) (hs env)
 refine l_ h2 λC bu ob1 P1 j q1 a1 I1 G1 h2=>cw h2 λh' tk J e1 e2 kp h2=>HY h2 λfp wr Md St K fp1 wr1 live rX Y Y=>?_
 (refine e1▸?_;refine e2▸?_)
 have hX:∃E:be->Prop,E=λb=>b∈fp∧j.heap.get? b=am:=⟨_,N⟩
 refine hX.elim λE eF=>?_
 have AL:∀b,E b->b∈fp∧j.heap.get? b=am:=λb h=>by rw [eF]at h;exact h
 have JH:∀b,b∈fp->j.heap.get? b=am->E b:=λb h h'=>by refine eF▸?_;exact ⟨h,h'⟩
 clear hX eF e1 e2 h2 h1 q I a hi
 have a2:=a1.acH (I:=tk) E (λb h=>(λb D=>⟨D.2,live 0 h' rX b D.1⟩:∀b,(b∈fp∧j.heap.get? b=am)->j.heap.get? b=am∧h'.get? b≠am) b (AL b h)) kp I1.ag
 have I2:aS g P1 ob1 {j with heap:=h',toks:=tk}:=I1.g8 (bq.cv I1.ag kp)
 have nL:¬E env.locals:=λh=>(a1.u_ (AL _ h).2).1 N
 have nC:∀x c,env.cells.lookup x=O c->¬E c:=λx c e h=>(a1.u_ (AL _ h).2).2 x e
 have SN:=Pv.xe (F:=E) nL nC
 have nI:∀b,E b->¬ej g b:=λb D=>(I1.iJ (AL _ D).2).2
 have U:∀b∈wr,E b:=λb D=>JH b (K.sub b D) (wr1 b D)
 have G0:eB g S P s P1 {j with heap:=h',toks:=tk}:=G1.eP.bD ((bW.cv (t:=tk) I1.ag kp).cJ a1.bR).eP
 have nB:∀b∈wr,¬S b:=λb D e=>a1.bR b e (wr1 b D)
 refine codeAny_forLoop_any (R:=λr s'=>match r with|.ok f=>SP g env S P s Q f s'|.error e=>cameBackBy (cr pw g.w) A env a9 e s')
  (λm s'=>∃i vs' aN P',m=C.length+1-i∧aeJ g env S E P P1 s (λl vs ob=>sV H l vs ob (Q .bp) λv=>Q (.aB v)) C St i vs' aN P' s') ?_ (C.length+1)
  (zV 0 bu ob1 P1 N ⟨Gc _,q1,a2,I2,G0,PM.le.bQ P1,λb D=>I1.ag.bG (AL _ D).2,rX⟩)
 refine λm s3 hm=>QQ hm λi mC iI P3 em L=>em▸?_
 have pW:∀b,b∈wr->P3 b=am∧¬ej g b:=λb D=>⟨L.no b (U b D),nI b (U b D)⟩
 by_cases cZ:i<C.length
 ·refine K.item i s3 _ _ cZ L.st λv h4 Z II k4=>K.go i v _ _ _ II λh5 hp Ao k5=>aQ hp λpv IX hw=>?_
  have r6:∀b o,b∉wr->s3.heap.get? b=O o->h5.get? b=O o:=λb o D e=>k5 b o D (k4 b o D e)
  have dm:∀b,s3.heap.get? b≠am->h5.get? b≠am:=λb D=>by
   by_cases hw:b∈wr
   ·exact live _ _ Ao b (K.sub b hw)
   ·exact λq=>(lJ.mp D).elim λo ho=>aH (q.symm.trans (r6 b o hw ho))
  have I5:=L.Q5.m_ (F:=h5) (R:=Z) (λb=>b∈wr) pW r6
  have q3:=L.q
  rw [EB IX,UE,eT]at q3
  refine oS.E (A:=av) q3 λvs4 vK q3=>?_
  rw [←eT]at q3
  have hv:rL g.w g.az P3 t pv v h5:=ti.Hw L.up (hw (λb o e=>I5.ag b o (L.up _ _ e)) _ _ vK)
  refine ss (Ed (R:=λY s'=>aT g env (λb=>S b∨E b) P3 vs4 s'∧aS g P3 iI s'∧eB g (λb=>S b∨E b) P3 {s3 with heap:=h5,toks:=Z} P3 s') R.1 F SN ht hv vK (L.Q4.m_ (C:=h5) (J:=Z) (λb=>b∈wr) (λb D=>.inr (U b D)) (λh=>nL (U _ h)) (λx c e h=>nC x c e (U _ h)) r6 dm) I5 λs' x y z=>(bt x y z)) (λY s6 h6=>?_) λY Y f=>f.elim
  refine ss (D.go (Q:=λf vs ob=>match f with|.bp=>sV H (C.drop (i+1)) vs ob (Q .bp) (λv=>Q (.aB v))|.aB x=>Q (.aB x) vs ob) F SN R h6.1 h6.2.1 q3) (λf s7 hz=>rG hz λfl SJ DO P7 q7 x7 a7 I7 G7=>?_) λY Y f=>Ps f
  have Ak:eB g (λb=>S b∨E b) P3 {s3 with heap:=h5,toks:=Z} P7 s7:=h6.2.2.bD G7
  have SA:eB g S P s P7 s7:=L.cv.bD (eB.bD (D:=P3) (E:={s3 with heap:=h5,toks:=Z}) ⟨PM.le.bQ P3,λb o D e Y=>r6 b o (λq=>nB b q D) e,dm,λY Y e=>.inl e⟩ (Ak.fN λb h=>.inl h))
  cases x7 with
  |aB r=>exact (d6 _ SJ DO P7 q7 (.aB r) (a7.fN λb h=>.inl h) I7 SA)
  |bp=>
   refine (ay (C.length+1-(i+1)) (Mo (sO cZ) (uz i)) (zV (i+1) SJ DO P7 N ⟨cZ,q7,a7,I7,SA,L.up.bD Ak.le,λb D=>?_,K.frame _ _ _ Ao λb D o e=>?_⟩))
   ·cases e:P7 b with
    |none=>rfl
    |some o=>exact (Ak.bN b o e).elim (λh=>aH ((L.no b D).symm.trans h)) λh=>nw (.inr D) h
   ·exact (fp1 b D).elim (λh=>Ak.cH b o (.inr (JH b D h)) e (nI b (JH b D h))) λh=>h.elim λo' h=>(ii (e.symm.trans (I5.ag b o' (L.up _ _ h))))▸(I7.ag b o' (Ak.le _ _ (L.up _ _ h)))
 ·have q3:=L.q
  have vC:i=C.length:=KE L.le (yw.mp cZ)
  have SO:=L.st
  rw [vC]at SO
  rw [vC,Zx (ul _)]at q3
  refine K.done s3 _ _ SO λh4 Z k4=>FF ?_
  have I4:=L.Q5.m_ (F:=h4) (R:=Z) (λb=>b∈wr) pW k4
  refine (d6 .bp mC iI P3 q3 .bp (L.Q4.zN (J:=h4) (D:=Z) (λb=>b∈wr) (λb D=>⟨U b D,nB b D⟩) (λh=>nL (U _ h)) (λx c e h=>nC x c e (U _ h)) k4) I4 ⟨L.cv.le,λb o D e ni=>k4 b o (λq=>nB b q D) (L.cv.cH b o D e ni),λb e q=>(lJ.mp (L.cv.bR b e)).elim λo ho=>aH (q.symm.trans (k4 b o (λq=>G1.bR b e (wr1 b q)) ho)),L.cv.bN⟩)
end
@[reducible]noncomputable def GU(A:W kt)(env:ln):wE an:=wi A M λc r=>if r=M then do let B ←sG c env (Fk c env);re (uA B)else re (uA r)
@[reducible]noncomputable def CC(A:kt)(B:bm)(env:ln):wE UF:=do let _ ←po (.builtin "list.append") [B,←Fk A env]
@[reducible]noncomputable def Hx(e:kt)(A:kt)(B:bm)(env:ln):wE UF:=do
 let x ←Fk A env
 qQ A.pos
 let x ←sP A env x
 let _ ←runOwn (.compStart e 1 (←mI [x] (lK x)) B env) env
@[reducible]noncomputable def Ck(A:kt)(B:bm)(env:ln)(k:wE TD):wE TD:=CC A B env>>=λY=>k
@[reducible]noncomputable def Cm(e:kt)(A:kt)(B:bm)(env:ln)(k:wE TD):wE TD:=do
 let x ←Fk A env
 qQ A.pos
 let x ←sP A env x
 let _ ←runOwn (.compStart e 1 (←mI [x] (lK x)) B env) env
 k
noncomputable def uX(e:kt)(d:X)(p:KF)(A:kt)(E:W kt)(B:wE TD->wE TD)(D C:bm)(env:ln):wE TD:=do
 qQ p
 match←n9 D with
 |none=>re (.done .next)
 |some v=>
  letOwnedTupleGo A D v
  wh A env v
  let F ←GU E env
  if F then B (again (.compLoop e d D C env))else again (.compLoop e d D C env)
theorem aaO(D A B:kt)(E:W kt)(C:na)(pos:KF)(H F:bm)(env:ln):
  wk (.ListComp D [⟨A,B,E,0⟩] C pos) 0 H F env=uX (.ListComp D [⟨A,B,E,0⟩] C pos) 0 B.pos A E (Ck D F env) H F env:=by rfl
theorem W8(I A E B C:kt)(H F:W kt)(D:na)(pos:KF)(L J:bm)(env:ln):
  wk (.ListComp I [⟨A,E,H,0⟩,⟨B,C,F,0⟩] D pos) 0 L J env=uX (.ListComp I [⟨A,E,H,0⟩,⟨B,C,F,0⟩] D pos) 0 E.pos A H (Cm (.ListComp I [⟨A,E,H,0⟩,⟨B,C,F,0⟩] D pos) C J env) L J env:=by rfl
theorem W9(H C F A B:kt)(J D:W kt)(E:na)(pos:KF)(L I:bm)(env:ln):
  wk (.ListComp H [⟨C,F,J,0⟩,⟨A,B,D,0⟩] E pos) 1 L I env=uX (.ListComp H [⟨C,F,J,0⟩,⟨A,B,D,0⟩] E pos) 1 B.pos A D (Ck H I env) L I env:=by rfl
section
variable{w:lw}{A:pc}{R:Result->ce->Prop}{s:ce}
theorem W'(hK:∀{k:wE TD} {Q:TD->ce->Prop} {s:ce},ca (cr pw w) A o (λY s'=>ca (cr pw w) A k Q a9 s') a9 s->ca (cr pw w) A (U k) Q a9 s)
  (hE:wk (.ListComp Z D B pos) d y j env=uX (.ListComp Z D B pos) d p C ifs U y j env) (I:X->ce->Prop)
  (turn:∀n s,I n s->ca (cr pw w) A (n9 y) (λr E=>match r with
   |none=>R (.ok .next) E
   |some v=>ca (cr pw w) A (letOwnedTupleGo C y v) (λY J=>ca (cr pw w) A (wh C env v) (λY L=>ca (cr pw w) A (GU ifs env) (λok F=>
     if ok=M then ca (cr pw w) A o (λY H=>∃m,m<n∧I m H) a9 F else∃m,m<n∧I m F) a9 L) a9 J) a9 E) a9 s)
  (n:X) (h:I n s):mK (cr pw w) A (.compLoop (.ListComp Z D B pos) d y j env) R s:=by
 refine codeAny_loop N I (λn s hI=>?_) n h
 refine (?_:ca _ A ((wk (.ListComp Z D B pos) d y j env).onRaise (λx=>do noteFrame x env;theTreesLotGoes x)) _ _ s)
 refine wpAny_noted (eR hE ?_)
 unfold uX
 refine gS (dL (ss (turn n s hI) (λr E P=>?_) λY Y f=>f.elim))
 cases r with
 |none=>exact lf P
 |some v=>
  refine dL (ss P (λY J aj7=>?_) λY Y f=>f.elim)
  refine dL (ss aj7 (λY L IB=>dL (ss IB (λok F S=>?_) λY Y f=>f.elim)) λY Y f=>f.elim)
  cases ok with
  |false=>exact lf ⟨N,S⟩
  |true=>exact ss (hK (ss S (λx H ai1=>lf (⟨N,ai1⟩:_∧∃m,m<n∧I m H)) λY Y f=>f)) (λY Y h=>h) λY Y f=>f.elim
theorem LA(h:ca (cr pw w) A (CC B C env) (λY D=>ca (cr pw w) A k Q a9 D) a9 s):ca (cr pw w) A (Ck B C env k) Q a9 s:=dL h
theorem W_(h:ca (cr pw w) A (Hx e B C env) (λY D=>ca (cr pw w) A k Q a9 D) a9 s):ca (cr pw w) A (Cm e B C env k) Q a9 s:=by
 have E:Cm e B C env k=(Hx e B C env>>=λY=>k):=by
  simp only [Cm,Hx,bind_assoc,FG]
 exact eR E (dL h)
theorem KY{D:kt}{B:na}{pos:KF}{F E:bm}{env:ln}{H:yp}(P:C[d]? =O H)(S:H.is_async=0)
  (I:mK (cr pw w) A (.compLoop (.ListComp D C B pos) d F E env) R s)
  (h:∀Q:bm->ce->Prop,Q F s->ca (cr pw w) A (lK F) Q a9 s):mK (cr pw w) A (.compStart (.ListComp D C B pos) d F E env) R s:=by
 refine MV ?_
 refine (?_:ca _ A ((compStart (.ListComp D C B pos) d F E env).onRaise (λx=>do noteFrame x env;qQ theWindowsPlace)) _ _ s)
 refine wpAny_notedAt ?_
 unfold compStart
 refine eR P (?_:ca _ _ (if(H.is_async !=0)=M then _ else _) _ _ s)
 refine eR S (eR (f0 (by decide)) (dL (yF (wpAny_ite ?_))))
 split
 ·first
   |exact kS (lf (And.intro N I))
   |exact wpAny_pure (And.intro rfl I)
 ·refine uV (?_:ca _ _ (qQ H.iter.pos>>=_) _ _ s)
  refine gS (dL (ss (h (λv J=>v=F∧J=s) ⟨N,N⟩) (λU J L=>?_) λY Y f=>f.elim))
  exact eR L.1 (eR L.2 (lf (And.intro N I)))
end
@[reducible]noncomputable def mO:eK->W X
 |.ak x=>[x]
 |.bS A=>A
noncomputable def nh(B:W X)(l:av):av:=lr [] (λp _ A=>bif B.any (pi p.1)then A else p::A) l
theorem y8{A:W X}{x:X}:A.any (pi x)=M↔x∈A:=by
 rw [Bv]
 exact ⟨λh=>aQ h λy B e=>AC e▸B,λh=>(ay x h (Bw x))⟩
theorem GV{B:W X}{x:X}(D:x∉B):∀{A:av},aG (nh B A) x=aG A x:=λ{A}=>gV A N λy v r C=>bE (z:=nh B ((y,v)::r)) N (λh=>C.trans (fI.trans (f0 (c:=y=x) λe=>D (e▸y8.mp h))).symm) λY=>fI.trans ((lc (λz=>if y=x then O v else z) C).trans fI.symm)
theorem adT{A:W X}{x:X}(D:x∈A):∀{B:av},aG (nh A B) x=am:=λ{B}=>gV B N λy v r C=>bE (z:=nh A ((y,v)::r)) N (λY=>C) λh=>fI.trans ((f0 (c:=y=x) λe=>jf ((y8.mpr (e▸D)).symm.trans h)).trans C)
theorem wL(e:aG (nh A B) x=O C):x∉A∧aG B x=O C:=
 (Classical.em (x∈A)).elim (λh=>aH ((adT h).symm.trans e)) λh=>⟨h,(GV h).symm.trans e⟩
theorem F'{B:W X}{x:X}{C:cQ}:∀{A:av},aG (om B A) x=O C->x∈B∧aG A x=O C:=λ{A}=>gV A (λe=>aH e) λy v r D e=>by
  refine eR fI ?_
  revert e
  refine bE (z:=om B ((y,v)::r)) N (λh=>?_) λh e=>?_
  ·refine eR fI λe=>?_
   by_cases q:y=x
   ·rw [jp q]at e⊢;exact ⟨q▸y8.mp h,e⟩
   ·rw [f0 q]at e⊢;exact D e
  ·have i:=D e
   exact ⟨i.1,eR (f0 (c:=y=x) λq=>jf ((y8.mpr (q▸i.1)).symm.trans h)) i.2⟩
theorem BS:∀{A:av},aG (dW A) x=O B->∃v,B=.ax v∧(aG A x=O (.ax v)∨aG A x=O (.aX v))
 |[],e=>aH e
 |(y,.aX v)::r,e=>by
  refine eR fI ?_
  rw [show aG (dW ((y,.aX v)::r)) x=_ from fI]at e
  by_cases q:y=x
  ·rw [jp q]at e⊢;exact (ay v ((ii e).symm) (.inr N))
  ·rw [f0 q]at e⊢;exact BS e
 |(y,.ax v)::r,e=>by
  refine eR fI ?_
  rw [show aG (dW ((y,.ax v)::r)) x=_ from fI]at e
  by_cases q:y=x
  ·rw [jp q]at e⊢;exact (ay v ((ii e).symm) (.inl N))
  ·rw [f0 q]at e⊢;exact BS e
structure tm(xs:W X)(vs vs' ws mB:av):Prop where
 eJ:(∀x,x∉xs->aG ws x=aG vs x)->∀x,aG mB x=aG vs' x
 va:∀x,x∉xs->aG vs' x=aG vs x
 PK:(∀x p,aG vs x≠O (.aX p))->∀x p,aG vs' x≠O (.aX p)
theorem tm.aK(b:tm D (Internal.aK E y (.ax v)) B (Internal.aK F y (.ax v)) C):tm (y::D) E B F C:=
 ⟨λk=>b.eJ λx A=>by
   refine eR (gg ..) (eR (gg ..) ?_)
   by_cases q:y=x
   ·rw [jp q,jp q]
   ·rw [f0 q,f0 q];exact k x λm=>(wl.mp m).elim (λe=>q e.symm) A,λx A=>(b.va x λm=>A (wv _ m)).trans (eR (gg ..) (eR (f0 (c:=y=x) λq=>A (q▸wf ..) ..) N)),λk=>b.PK λx p e=>by
   rw [gg]at e
   by_cases q:y=x
   ·rw [jp q]at e;exact cQ.noConfusion (ii e)
   ·rw [f0 q]at e;exact k x p e⟩
theorem tm.aU:tm [] A A B B:=⟨λk x=>k x sI,λY Y=>N,id⟩
theorem J6:∀{C:W X} {l:W PV} {E D:av} (B:av),eS.qZ C l E=O D->∃A,eS.qZ C l B=O A∧tm C E D B A
 |[],[],_,_,B,h=>(ay B N (ii h▸.aU))
 |x::C,v::l,E,_,B,h=>aQ (J6 (C:=C) (l:=l) (E:=aK E x (.ax v)) (aK B x (.ax v)) h) λA h b=>(ay A h b.aK)
 |[],_::_,_,_,_,h=>aH h
 |_::_,[],_,_,_,h=>aH h
theorem KZ(B:av)(h:eS t p D=O C):∃A,eS t p B=O A∧tm (mO t) D C B A:=by
 cases t with
 |ak y=>exact (ay _ N (ii h▸tm.aU.aK))
 |bS E=>exact eS.E h λl e h=>aQ (J6 B h) λA h b=>(ay A (by unfold eS;dsimp only;rw [e];exact h) b)
@[reducible]noncomputable def jt(A:av):Prop:=∀x p,aG A x≠O (.aX p)
section
variable{g:Gh}
theorem aT.ag(a:aT g env B P C s)(h:∀x A,aG D x=O A->aG C x=O A):aT g env B P D s:=
 a.gu.elim λE V=>⟨a.bR,a.ns,a.dq,a.cj,E,λx p e=>V.ax x p (h _ _ e),λx p e=>V.aX x p (h _ _ e),λx y p q F H=>V.fc x y p q (h _ _ F) (h _ _ H)⟩
theorem aT.pV(a:aT g env D P B s)(h:jt B)(A:be->Prop)(d:∀b,A b->s.heap.get? b≠am):aT g env A P B s:=
 a.gu.elim λC V=>⟨d,a.ns,a.dq,a.cj,C,V.ax,λx p e=>nw e (h x p),V.fc⟩
structure CB(g:Gh)(bM:ln)(Pl:PM)(s1:ce)(D:be):Prop where
 fC:s1.heap.get? bM.locals=am
 fD:s1.heap.get? D=am
 ne:D≠bM.locals
 cj:∀x c,bM.cells.lookup x=O c->s1.heap.get? c≠am
 az:∀a,ej g a->s1.heap.get? a≠am
structure aeK(s1:ce)(D C:be)(P:PM)(s:ce)(b:be):Prop where
 no:P b=am
 on:s.heap.get? b≠am
 bN:s1.heap.get? b=am
 nD:b≠D
 nC:b≠C
structure CI(g:Gh)(ow:an)(bM:ln)(Pl:PM)(s1:ce)(D:be)(Z:be->Prop)(P:PM)(ob:ai)(aI:W PV)(s:ce):Prop where
 I:aS g P ob s
 G:bW g (cN s1.heap) Pl s1 P s
 dl:∃bC n,s.heap.get? D=O (fM (mG bC) n)∧bH g.w g.az P bC aI
 ns:∃m,s.heap.Ns bM.locals m
 gr:ow=M->dY aI=M
 nD:P D=am
 nC:P bM.locals=am
 nZ:∀b,Z b->aeK s1 D bM.locals P s b
theorem Ns.ct{h A:li}(x:∃m,h.Ns a m)(k:∀o,h.get? a=O o->A.get? a=O o):∃m,A.Ns a m:=
 x.elim λm B=>cC B λo C D r=>(zV m o C D (k _ r.1) r.2)
theorem Ns.on{h:li}(x:∃m,h.Ns a m):h.get? a≠am:=λq=>x.elim λY A=>cC A λY Y Y r=>aH (q.symm.trans r.1)
theorem bW.nn(G:bW g B P s A C)(h:P b=am)(d:B b):A b=am:=by
 cases q:A b with
 |none=>rfl
 |some o=>exact (G.bN b o q).elim (λe=>aH (h.symm.trans e)) λe=>nw d e
theorem CB.no(B:CB g A E C D)(h:C.heap.get? b=am):¬ej g b:=λi=>B.az _ i h
theorem CI.cv{L:an}{F:PM}{D:be}{Z:be->Prop}{P H:PM}{C:W PV}(B:CB g A F R D)(c:CI g L A F R D Z P i C s)(G:bW g (cN s.heap) P s H S)(Y:aS g H J S):CI g L A F R D Z H J C S:=
 eD c.dl λE n U d=>
 ⟨Y,c.G.bD (G.cJ λa h=>c.G.bR a h),(fV E n (G.cH _ _ U (B.no B.fD)) (d.bU G.le)),Ns.ct c.ns λo e=>G.cH _ _ e (B.no B.fC),c.gr,G.nn c.nD λq=>aH (q.symm.trans U),G.nn c.nC (Ns.on c.ns),λb f=>
  have z:=c.nZ b f
  ⟨G.nn z.no z.on,G.bR b z.on,z.bN,z.nD,z.nC⟩⟩
theorem CI.m_{L:an}{Z:be->Prop}{C:W PV}{U:X}(B:CB g A R S D)(c:CI g L A R S D Z P Y C s)(a:be->Prop)(d:∀b,a b->Z b)(k:∀b o,¬a b->s.heap.get? b=O o->H.get? b=O o)(J:be->Prop)(f:∀b,J b->Z b)(i:∀b,J b->H.get? b≠am):
  CI g L A R S D J P Y C {s with heap:=H,toks:=U}:=
 have z:=λ{b} h=>c.nZ b (d b h)
 eD c.dl λE n j l=>
 ⟨c.I.m_ a (λb F=>⟨(z F).no,B.no (z F).bN⟩) k,⟨c.G.le,λb o e m=>k b o (λh=>aH ((z h).bN.symm.trans e)) (c.G.cH b o e m),λb e=>(λb r h q=>(lJ.mp h).elim λo t=>aH (q.symm.trans (k b o r t)):∀b,¬a b->s.heap.get? b≠am->H.get? b≠am) b (λh=>e (z h).bN) (c.G.bR b e),c.G.bN⟩,(fV E n (k _ _ (λh=>(z h).nD N) j) l),Ns.ct c.ns λo e=>k _ _ (λh=>(z h).nC N) e,c.gr,c.nD,c.nC,λb F=>
  have z:=c.nZ b (f b F)
  ⟨z.no,i b F,z.bN,z.nD,z.nC⟩⟩
end
section
variable{g:Gh}{n:X}{j:na}
theorem U9:∀{B:W kt} {s:ce},Q bn s->ca (cr pw w) A (wi B bn λc r=>if r=M then do let C ←sG c env (Fk c env);re (uA C)else re (uA r)) Q a9 s:=λ{B}=>no_implicit_lambda% (cB B (@λY h=>lf h) λe r D {s} h=>eR (MW ..) (eR (f0 (by decide) ..) (kS (D h))))
noncomputable def TOk(g:Gh)(env:ln)(D:av)(P:PM)(s:ce)(Q:an->ai->Prop)(E:an)(B:ce):Prop:=
 ∃A C,Q E A∧aT g env (cN B.heap) C D B∧aS g C A B∧bW g (cN s.heap) P s C B
theorem aaP{B:W kt}{H:W MX}(h:dD g n j B H){A:pc}{env:ln}{C:av}{Q:an->ai->Prop}(F:dh env j)(R:eW A n)(o:jt C):∀{P:PM} {D:ai} {s:ce},aT g env (cN s.heap) P C s->aS g P D s->wX (ba g.Φ n) g.Φ H C D Q->
  ca (cr pw g.w) A (GU B env) (TOk g env C P s Q) a9 s:=by
 induction h with
 |aU=>exact λa I q=>lf (zU _ _ q a I (.bQ ..))
 |@bg e m y H jE hv he ht hr ih=>
  intro P D s a I q
  refine (?_:ca _ _ (wi (e::y) M _) _ _ _)
  refine eR (MW ..) (eR (jp N ..) (dL (dL (BP.bJ (ht.go F R a I q λr C D h=>oB.oV h) λb s1 bu J P1 S a1 U E=>?_))))
  have Z:=(a.cv E).pV o (cN s1.heap) λY h=>h
  refine lf ?_
  cases b with
  |true=>exact ss (ih Z U S) (λok s2 h=>qm h λL P2 q2 a3 I2 G2=>(zU L P2 q2 a3 I2 (E.bD (G2.cJ λb h=>E.bR b h)))) λY Y f=>f
  |false=>exact U9 (zU J P1 S Z U E)
theorem CI.aeL{S:an}{A:ln}{J:PM}{L:ce}{D:be}{Z:be->Prop}{P:PM}{R:ai}{C:W PV}{s E:ce}(B:CB g A J L D)(c:CI g S A J L D Z P R C s)(Y:aS g P R E)(G:eB g (λb=>cN s.heap b∧b≠A.locals) P s P E)(a:∃m,E.heap.Ns A.locals m):CI g S A J L D Z P R C E:=
 eD c.dl λF n d f=>
 have U:∀b o,b≠A.locals->s.heap.get? b=O o->¬ej g b->E.heap.get? b=O o:=λb o h e H=>G.cH b o ⟨λq=>aH (q.symm.trans e),h⟩ e H
 ⟨Y,⟨c.G.le,λb o e H=>U b o (λq=>aH (B.fC.symm.trans (q▸e))) (c.G.cH b o e H) H,λb e=>G.bR b (c.G.bR b e),c.G.bN⟩,(fV F n (U _ _ B.ne d (B.no B.fD)) f),a,c.gr,c.nD,c.nC,λb i=>
  have z:=c.nZ b i
  ⟨z.no,G.bR b z.on,z.bN,z.nD,z.nC⟩⟩
theorem Uh{A:PV->W PV->ai->(W PV->ai->Prop)->Prop}{v:PV}{r B:W PV}{C:ai}{Q:W PV->ai->Prop}:iq A (v::r) B C Q=A v B C λB C=>iq A r B C Q:=N
@[reducible]noncomputable def w5(C:iK)(H:bA)(t:eK)(I:W MX)(F:av)(E:av->W PV->ai->(W PV->ai->Prop)->Prop)(v:PV)(A:W PV)(D:ai)(R:W PV->ai->Prop):Prop:=oS (eS t v F) λB=>wX C H I B D λJ D=>bif J then E B A D R else R A D
structure Q6(g:Gh)(ow:an)(bM:ln)(Pl:PM)(s1:ce)(D:be)(Z Zk:be->Prop)(JM:av)(Q:W PV->ai->Prop)(P0:PM)(s0:ce)(d:X)(P:PM)(ob:ai)(aI:W PV)(s:ce):Prop where
 c:CI g ow bM Pl s1 D Z P ob aI s
 up:P0.le P
 a:aT g bM (cN s.heap) P JM s
 q:Q aI ob
 c_:aI.length≤d
 kp:∀b o,Zk b->s0.heap.get? b=O o->s.heap.get? b=O o
@[reducible]noncomputable def Q7(g:Gh)(E:an)(A:ln)(F:PM)(H:ce)(D:be)(Z:be->Prop)(B:av)(Q:W PV->ai->Prop)(I:PM)(J:ce)(a:X)(s:ce):Prop:=∃P L C,Q6 g E A F H D Z Z B Q I J a P L C s
noncomputable def Hi(g:Gh)(A:pc)(J:an)(B:ln)(L:PM)(R:ce)(D:be)(Z:be->Prop)(t:eK)(H:av)(a:X)(E:av->W PV->ai->(W PV->ai->Prop)->Prop)(I:wE UF):Prop:=
 ∀{P:PM} {C:av} {S:ai} {F:W PV} {s:ce} {U:W PV->ai->Prop},CI g J B L R D Z P S F s->aT g B (cN s.heap) P C s->jt C->(∃b,eS t b H=O C)->F.length+a≤16777216->E C F S U->
   ca (cr pw g.w) A I (λY=>Q7 g J B L R D Z (nh (mO t) H) U P s (F.length+a)) a9 s
theorem F_{t:eK}{p:PV}{B A:av}(h:eS t p B=O A){x:X}{C:cQ}(e:aG (nh (mO t) B) x=O C):aG A x=O C:=
 (KZ B h).elim λY b=>(b.2.va x (wL e).1).trans (wL e).2
theorem K1{A:pc}{ow:an}{C:ln}{Pl:PM}{s1:ce}{D:be}{bL:kt}{gens:W yp}{scope:na}{pos:KF}{d:X}{p:KF}{U:kt}{ifs:W kt}{emit:wE UF}{emitK:wE TD->wE TD}{t:eK}{ms:W MX}
  (hK:∀{k:wE TD} {Q:TD->ce->Prop} {s:ce},ca (cr pw g.w) A emit (λY s'=>ca (cr pw g.w) A k Q a9 s') a9 s->ca (cr pw g.w) A (emitK k) Q a9 s)
  {I:be} (hE:wk (.ListComp bL gens scope pos) d (.ref I) (.ref D) C=uX (.ListComp bL gens scope pos) d p U ifs emitK (.ref I) (.ref D) C)
  (F:dh C j) (R:eW A n) (B:CB g C Pl s1 D) (ht:iB t j U=M) (vz:dD g n j ifs ms) (aks:∀x,e9 j x=M->C.kindOf x=O .local)
  {H:W PV} {Pk:PM} {fp wr:W be} {Md:X->bm->li->Prop} {St:X->li->Prop} (K:sM pw g.w A U I fp wr H.length (λi v h=>∃p,aY H i=O p∧rM g.w g.az Pk t p v h) Md St)
  {Zo Fz:be->Prop} (fp1:∀b∈fp,Fz b∨∃o,Pk b=O o) (wr1:∀b∈wr,Fz b) (live:∀i h,St i h->∀b∈fp,h.get? b≠am) (hzf:∀b,Zo b->¬Fz b)
  {Z:av} (no:jt Z) {a:X} {E:av->W PV->ai->(W PV->ai->Prop)->Prop}
  (IQ:Hi g A ow C Pl s1 D (λb=>Zo b∨Fz b) t Z a E emit)
  {P0:PM} {ob0:ai} {S:W PV} {s0:ce} {Qf:W PV->ai->Prop} (c0:CI g ow C Pl s1 D (λb=>Zo b∨Fz b) P0 ob0 S s0) (DL:Pk.le P0) (rX:St 0 s0.heap) (a0:aT g C (cN s0.heap) P0 (nh (mO t) Z) s0)
  (bnd:S.length+H.length*a≤16777216) (q:iq (w5 (ba g.Φ n) g.Φ t ms Z E) H S ob0 Qf):
  mK (cr pw g.w) A (.compLoop (.ListComp bL gens scope pos) d (.ref I) (.ref D) C) (λr s'=>r=.ok .next∧Q7 g ow C Pl s1 D Zo (nh (mO t) Z) Qf P0 s0 (S.length+H.length*a) s') s0:=by
 have Jp:jt (nh (mO t) Z):=λx p e=>no x p (wL e).2
 refine W' hK hE (λm s=>∃i P ob aI,m=H.length+1-i∧i≤H.length∧St i s.heap∧Q6 g ow C Pl s1 D (λb=>Zo b∨Fz b) Zo (nh (mO t) Z) (λaI ob=>iq (w5 (ba g.Φ n) g.Φ t ms Z E) (H.drop i) aI ob Qf) P0 s0 (S.length+i*a) P ob aI s) ?_ (H.length+1) (xj 0 P0 ob0 S N (Gc _) rX ⟨c0,PM.le.bQ _,a0,q,eR (Bh ..) (ul _),λY Y Y e=>e⟩)
 refine λm s hm=>rF hm λi P ob aI em hi st L=>eR em ?_
 have zW:=λ{b} (h:b∈wr)=>L.c.nZ b (.inr (wr1 b h))
 have le:=L.up
 have JQ:∀{h':li},(∀b o,b∉wr->s.heap.get? b=O o->h'.get? b=O o)->∀b o,Zo b->s.heap.get? b=O o->h'.get? b=O o:=λk b o J e=>k b o (λhw=>hzf b J (wr1 b hw)) e
 by_cases cZ:i<H.length
 ·refine K.item i s _ _ cZ st λv h4 kD II k4=>K.go i v _ _ _ II λh5 hp Ao k5=>aQ hp λpv IX hw=>?_
  have r6:∀b o,b∉wr->s.heap.get? b=O o->h5.get? b=O o:=λb o J e=>k5 b o J (k4 b o J e)
  have dm:∀b,s.heap.get? b≠am->h5.get? b≠am:=λb J=>by
   by_cases hw:b∈wr
   ·exact live _ _ Ao b (K.sub b hw)
   ·exact λq=>(lJ.mp J).elim λo ho=>aH (q.symm.trans (r6 b o hw ho))
  have c5:=L.c.m_ B (H:=h5) (U:=kD) (λb=>b∈wr) (λb J=>.inr (wr1 b J)) r6 (λb=>Zo b∨Fz b) (λY h=>h) λb J=>dm b (L.c.nZ b J).on
  have a5:=L.a.m_ (C:=h5) (J:=kD) (λb=>b∈wr) (λb J=>(zW J).on) (λh=>(zW h).nC N) (λx cc e h=>B.cj x cc e (zW h).bN) r6 dm
  have q:=L.q
  rw [EB IX,Uh]at q
  refine oS.E (A:=av) q λvs' vK q=>aQ (KZ (nh (mO t) Z) vK) λai6 IV bd=>?_
  have a5':=a5.pV Jp (λb=>cN h5 b∧b≠C.locals) λb h=>h.1
  have nk:∀{x},e9 j x=M->C.kindOf x=O .cell->wn:=λhx h=>qW (ii ((aks _ hx).symm.trans h))
  have Pv:i9 C j (λb=>cN h5 b∧b≠C.locals):=⟨λh=>h.2 N,λx c hx h=>(nk hx h).elim,λx y c hx h=>(nk hx h).elim⟩
  refine ss (Ed (R:=λY s'=>aT g C (λb=>cN h5 b∧b≠C.locals) P ai6 s'∧aS g P ob s'∧eB g (λb=>cN h5 b∧b≠C.locals) P {s with heap:=h5,toks:=kD} P s') R.1 F Pv ht (ti.Hw (DL.bD le) (hw (λb o e=>c5.I.ag b o (le _ _ (DL _ _ e))) _ _ vK)) IV a5' c5.I λs' x y z=>(bt x y z)) (λY s6 h6=>oK h6 λa6 I6 G6=>?_) λY Y f=>f
  have vH:=bd.PK no
  refine ss (aaP vz F R vH ((a6.ag (D:=vs') λx sl e=>(bd.eJ (λx hx=>GV hx) x).trans e).pV vH _ λY h=>h) I6 q) (λok s7 h7=>qm h7 λDO P7 q7 a7 I7 G7=>?_) λY Y f=>f
  have c7:=(c5.aeL B I6 G6 a6.ns).cv B G7 I7
  have Jn:∀b o,Zo b∨Fz b->h5.get? b=O o->s7.heap.get? b=O o:=λb o J e=>
   have z:=c5.nZ b J
   G7.cH b o (G6.cH b o ⟨λq=>aH (q.symm.trans e),z.nC⟩ e (B.no z.bN)) (B.no z.bN)
  have SI:∀{s':ce} {P':PM},P'.ag s'.heap->P.le P'->(∀b o,Zo b∨Fz b->h5.get? b=O o->s'.heap.get? b=O o)->St (i+1) s'.heap:=λhs Ac hk=>K.frame _ _ _ Ao λb J o e=>(fp1 b J).elim (λh=>hk b o (.inr h) e) λh=>h.elim λo' h=>eR (ii (e.symm.trans (c5.I.ag b o' (le _ _ (DL _ _ h))))) (hs b o' (Ac _ _ (le _ _ (DL _ _ h))))
  have hm:S.length+i*a+a=S.length+(i+1)*a:=eR (yG ..) (eR (Ms ..) N)
  have hl:=L.c_
  have k7:∀b o,Zo b->s0.heap.get? b=O o->s7.heap.get? b=O o:=λb o J e=>Jn b o (.inl J) (JQ r6 b o J (L.kp b o J e))
  have cx:H.length+1-(i+1)<H.length+1-i:=Mo (sO cZ) (uz i)
  cases ok with
  |true=>
   exact eR (jp N) (ss (IQ c7 a7 vH ⟨pv,vK⟩ (io (io (Sc hl a) (hm▸qI (Bi a cZ) _)) bnd) q7) (λY s8 h8=>cC h8 λP8 ob8 aiX L8=>(ay _ cx (xj (i+1) P8 ob8 aiX N cZ (SI L8.c.I.ag (G7.le.bD L8.up) λb o J e=>L8.kp b o J (Jn b o J e)) ⟨L8.c,le.bD (G7.le.bD L8.up),L8.a,L8.q,io L8.c_ (hm▸Sc hl a),λb o J e=>L8.kp b o (.inl J) (k7 b o J e)⟩))) λY Y f=>f)
  |false=>
   exact eR (f0 (by decide)) (ay _ cx (xj (i+1) P7 DO aI N cZ (SI c7.I.ag G7.le Jn) ⟨c7,le.bD G7.le,a7.ag λx sl e=>F_ vK e,q7,io hl (hm▸GM _ _),k7⟩))
 ·have vC:i=H.length:=KE hi (yw.mp cZ)
  have q:=L.q
  rw [Zx (yw.mp cZ)]at q
  rw [vC]at st
  refine K.done s _ _ st λh4 kD k4=>(ff N (ql P ob aI ⟨?_,le,?_,q,vC▸L.c_,λb o J e=>JQ k4 b o J (L.kp b o J e)⟩))
  ·exact L.c.m_ B (H:=h4) (U:=kD) (λb=>b∈wr) (λb J=>.inr (wr1 b J)) k4 Zo (λb h=>.inl h) λb J q=>(lJ.mp (L.c.nZ b (.inl J)).on).elim λo ho=>aH (q.symm.trans (JQ k4 b o J ho))
  ·have a':=L.a.pV Jp (λb=>b≠b∨b∈wr) λb h=>h.elim (λh=>nw N h) λh=>(zW h).on
   exact (a'.zN (A:=λb=>b≠b) (F:=λb=>b∈wr) (J:=h4) (D:=kD) (λb=>b∈wr) (λb J=>⟨J,λh=>h N⟩) (λh=>(zW h).nC N) (λx cc e h=>B.cj x cc e (zW h).bN) k4).pV Jp _ λY h=>h
end
theorem UG:∀{l:W PV} {u:PV},dY l=M->u.dS=M->dY (l++[u])=M:=λ{l}=>no_implicit_lambda% (cB l (@λu Y h=>by refine (?_:dY [u]=M);unfold dY;rw [h];rfl) λv l A {u} h k=>by
  refine (?_:dY (v::(l++[u]))=M)
  unfold dY
  exact eR ((kH h).1) (A (kH h).2 k))
section
variable{g:Gh}{n:X}{d:na}
theorem NM(F:dh E d)(R:eW A n)(B:CB g E Pl s1 D)(he:SE g n d r me):
  Hi g A ow E Pl s1 D Z t vs0 1 (λJ L j Rk=>bB (ba g.Φ n) g.Φ me J j λu Y j=>(ow=M->u.dS=M)∧Rk (L++[u]) j) (CC r (.ref D) E):=by
 intro P J j L s Rk c a w C hl q
 refine dL (EP.bJ (he.go F R a c.I q) λv S u cO y P2 q2 a2 I2 x2 m=>?_)
 have I:=c.cv B m I2
 refine eD I.dl λH k hD hr=>dL (MY (l:=D) (items:=H.toArray) ⟨k,hD⟩ (λU hp hs=>hp.elim λk' f=>lf ?_) (eR wP (eR pG (eR hr.bO (L1 0x20e8378e03a8ea3a8e8fc10741bc701d4751d474785f8 N hl)))))
 have i:∀b o,b≠D->S.heap.get? b=O o->U.get? b=O o:=λb o C e=>(hs.2 b C).trans e
 have dm:∀b,S.heap.get? b≠am->U.get? b≠am:=λb C=>by
  by_cases e:b=D
  ·rw [e,f];exact λq=>aH q.symm
  ·rw [hs.2 b e];exact C
 have a3:aT g E (cN U) P2 J {S with heap:=U}:=by
  have a':=((a.cv m).pV w (cN S.heap) λY h=>h).pV w (λb=>b≠b∨b=D) λb h=>h.elim (λh=>nw N h) λh q=>aH (q.symm.trans (h▸hD))
  exact (a'.zN (A:=λb=>b≠b) (F:=λb=>b=D) (J:=U) (D:=S.toks) (λb=>b=D) (λb C=>⟨C,λh=>h N⟩) (λh=>B.ne h.symm) (λx cc e h=>B.cj x cc e (h▸B.fD)) (λb o C e=>i b o C e)).pV w _ λY h=>h
 exact (ql P2 y (L++[u]) ⟨⟨I.I.z6 (t:=S.toks) I.nD (B.no B.fD) i,⟨I.G.le,λb o e ni=>i b o (λq=>aH (B.fD.symm.trans (q▸e))) (I.G.cH b o e ni),λb e=>dm b (I.G.bR b e),I.G.bN⟩,(fV (H++[v]) k' (eR (show(H++[v]).toArray=H.toArray.push v from(MZ ..).symm) f) (hr.og (.bg x2 .aU))),Ns.ct I.ns λo e=>i _ _ (SB B.ne) e,λh=>UG (I.gr h) (q2.1 h),I.nD,I.nC,λb C=>
    have z:=I.nZ b C
    ⟨z.no,dm b z.on,z.bN,z.nD,z.nC⟩⟩,m.le,a3.ag λx sl e=>C.elim λpv C=>F_ C e,q2.2,eR xz (ul _),λb o C e=>
     have z:=c.nZ b C
     i b o z.nD (m.cH b o e (B.no z.bN))⟩)
noncomputable def l6(l:W (f8×SL))(env:ln):W (f8×be)->W (f8×be):=lr (λA=>A) (λp _ B A=>match p.2 with|.free=>B ((p.1,(env.cells.lookup p.1).getD 0)::A)|_=>B A) l
theorem VU:∀{A:W (f8×SL)} {cs:W (f8×be)},(∀x∈A,x.2=.free->∃c,env.cells.lookup x.1=O c)->
  (wi A cs λx r=>match x with|(name,B)=>if(B==pO)=M then do let a ←cellOf env name;re (uA ((name,a)::r))else re (uA r):wE _)=re (l6 A env cs):=λ{A}=>no_implicit_lambda% (gV A (@λcs Y=>N) λx k r C {cs} h=>by
  have D:=λcs=>C (cs:=cs) (λy F=>h y (wv _ F))
  refine eR (MW ..) ?_
  cases k with
  |free=>
   refine (h (x,.free) (wf ..) N).elim λc E=>?_
   have e:cellOf env x=re c:=by unfold cellOf;rw [E]
   refine (?_:((if(pO==pO)=M then(do let a ←cellOf env x;re (uA ((x,a)::cs)))else re (uA cs))>>=_)=re (l6 r env ((x,(env.cells.lookup x).getD 0)::cs)))
   rw [jp (c:=(pO==pO)=M) N,e,FG,FG,E]
   exact D _
  |_=>
   dsimp only
   exact eR (f0 (by decide) ..) (eR (FG ..) (D cs)))
theorem Ui(h:∀x∈A.names,x.2=.free->∃c,env.cells.lookup x.1=O c):closureFor A env=re (l6 A.names env []):=by
 unfold closureFor
 exact eL (VU h) (bind_pure _)
theorem vT{A:Type}{x y:f8}{v:A}{r:W (f8×A)}:((y,v)::r).lookup x=if x=y then O v else r.lookup x:=by
 refine eR List.lookup_cons ?_
 by_cases h:x=y
 ·rw [jp h,v_.mpr h]
 ·exact eR (f0 h) (eR (Za.mpr h) N)
theorem Kn{env:ln}{x:f8}:∀{A:W (f8×SL)} {cs:W (f8×be)},(∀y∈A,y.2=.free->∃c,env.cells.lookup y.1=O c)->(∀c,cs.lookup x=O c->env.cells.lookup x=O c)->
  (∀c,(l6 A env cs).lookup x=O c->env.cells.lookup x=O c)∧(((x,.free)∈A∨∃c,cs.lookup x=O c)->∃c,(l6 A env cs).lookup x=O c):=λ{A}=>no_implicit_lambda% (gV A (@λcs Y k=>⟨k,λh=>h.elim (λh=>nomatch h) id⟩) λy F r C {cs} h k=>by
  have D:∀z∈r,z.2=.free->∃c,env.cells.lookup z.1=O c:=λz H=>h z (wv _ H)
  cases F with
  |free=>
   refine (h (y,.free) (wf ..) N).elim λc E=>?_
   have i:=C (cs:=(y,(env.cells.lookup y).getD 0)::cs) D λI e=>by
    rw [vT,show env.cells.lookup y=O c from E]at e
    by_cases q:x=y
    ·rw [jp q]at e;rw [q,←ii e];exact E
    ·rw [f0 q]at e;exact k I e
   refine ⟨i.1,λB=>i.2 ?_⟩
   by_cases q:x=y
   ·exact .inr ⟨_,eR vT (eR (jp q) N)⟩
   ·exact B.imp (λB=>(wl.mp B).elim (λe=>nw (Op e).1 q) id) λh=>eR vT (eR (f0 q) h)
  |_=>
   have i:=C (cs:=cs) D k
   exact ⟨i.1,λB=>i.2 (B.imp (λB=>(wl.mp B).elim (λe=>qW (Op e).2) id) id)⟩)
end
section
variable{g:Gh}{n:X}{j d:na}
theorem BU{x:f8}{a b:SL}{G:Prop}(h:oa j x [a,b]=M)(f:j.names.lookup x=O a∨j.names.lookup x=O b->G):G:=
 aQ (oa.E h) λk e m=>f ((wl.mp m).imp (λq=>e.trans (lc O q)) λm=>e.trans (lc O (IR.mp m)))
structure Dm(j d:na):Prop where
 km:d.kind=.function
 dq:∀x∈d.names,x.2=.local->d.names.lookup x.1=O .local
 HI:∀x∈d.names,x.2≠.cell
 ok:∀x∈d.names,x.2=.free->fv x.1=M
 zG:∀x∈d.names,x.2=.free->d.names.lookup x.1=O .free
 z7:∀x∈d.names,x.2=.free->j.names.lookup x.1=O .cell∨j.names.lookup x.1=O .free
theorem Kj(h:s_ j d=M):Dm j d:=by
 unfold s_ at h
 refine B2 h λC B=>?_
 have B:=Do.mp B
 have k:∀x∈d.names,x.2=.free->(fv x.1=M∧d.names.lookup x.1=O .free)∧(j.names.lookup x.1=O .cell∨j.names.lookup x.1=O .free):=λx A e=>by
  have q:=B x A
  rw [e]at q
  exact B2 q λq D=>B2 q λE F=>⟨⟨E,ut F⟩,BU D id⟩
 exact ⟨ut C,λx A e=>by have q:=B x A;rw [e]at q;exact ut q,λx A e=>by have q:=B x A;rw [e]at q;exact bY q,λx A e=>(k x A e).1.1,λx A e=>(k x A e).1.2,λx A e=>(k x A e).2⟩
theorem vU{A:Type}{x:f8}{k:A}:∀{l:W (f8×A)},l.lookup x=O k->(x,k)∈l
 |(y,v)::r,h=>by
  rw [vT]at h
  by_cases q:x=y
  ·rw [jp q]at h;rw [q,ii h];exact wf ..
  ·rw [f0 q]at h;exact wv _ (vU h)
noncomputable def p6(env:ln)(x:f8×SL):f8×SL:=if(x.2==pO&&env.scope.kind==.function&&env.kindOf x.1==O .cell)then(x.1,.cell)else(x.1,x.2)
theorem D8{x:f8×SL}{G:f8×SL->Prop}(A:G (x.1,x.2))(B:x.2=.free->G (x.1,.cell)):G (p6 env x):=by
 unfold p6
 by_cases h:(x.2==pO&&env.scope.kind==.function&&env.kindOf x.1==O .cell)=M
 ·exact eR (jp h) (B (B2 h λh Y=>B2 h λh Y=>v_.mp h))
 ·rw [f0 h];exact A
theorem K2{env:ln}{G:im SL->Prop}:∀{A:W (f8×SL)},(A.lookup x=am->G am)->(∀k,A.lookup x=O k->G (O (p6 env (x,k)).2))->G ((A.map (p6 env)).lookup x):=λ{A}=>gV A (λh Y=>h N) λy k r D C B=>by
  have e:p6 env (y,k)=(y,(p6 env (y,k)).2):=D8 (G:=λz=>z=(y,z.2)) N λY=>N
  refine eR UV (eR e (eR vT ?_))
  rw [vT]at C B
  by_cases q:x=y
  ·refine eR (jp q) ?_
   have h:=B k (eR (jp q) N)
   rw [q]at h
   exact h
  ·exact eR (f0 q) (D (λe=>C (by rw [f0 q];exact e)) λk e=>B k (by rw [f0 q];exact e))
theorem J7{env:ln}{x:f8}{k:SL}{A:W (f8×SL)}(h:A.lookup x=O k):(A.map (p6 env)).lookup x=O k∨(k=.free∧(A.map (p6 env)).lookup x=O .cell):=
 K2 (G:=λo=>o=O k∨(k=.free∧o=O .cell)) (λe=>aH (e.symm.trans h)) λB e=>by
  exact eR (ii (e.symm.trans h)) (D8 (G:=λz=>O z.2=O k∨(k=.free∧O z.2=O .cell)) (.inl N) λe=>.inr ⟨e,N⟩)
theorem UH{env:ln}{x:f8}{A:W (f8×SL)}(B:∀y∈A,y.2≠.cell):(A.map (p6 env)).lookup x=O .cell∨(A.map (p6 env)).lookup x=O .free->(x,pO)∈A:=
 K2 (G:=λo=>o=O .cell∨o=O .free->(x,pO)∈A) (λY h=>h.elim (λe=>aH e) λe=>aH e) λk e=>
  D8 (G:=λz=>O z.2=O .cell∨O z.2=O .free->(x,pO)∈A) (λh=>h.elim (λh=>nw (ii h) (B _ (vU e))) λh=>ii h▸vU e) λq Y=>(show k=.free from q)▸vU e
theorem K3{x:X}{G:X->Prop}(h:x∈jr d)(f:∀y,(y,pO)∈d.names->G (aW y)):G x:=by
 unfold jr at h
 refine aQ (Zy.mp h) λy A e=>?_
 rcases y with⟨y,k⟩
 cases k<;>first|exact aH e|exact ii e▸f y A
theorem dh.z7{env:ln}(F:dh env j){x:f8}(h:j.names.lookup x=O .cell∨j.names.lookup x=O .free):env.kindOf x=O .cell∨env.kindOf x=O .free:=
 h.elim (λh=>(F.i4 _ _ h).elim .inl λh=>.inl h.2) λh=>(F.i4 _ _ h).elim .inr λh=>.inl h.2
structure CFr(d:na)(env:ln)(C:be):Prop where
 fr:dh (BE d (l6 d.names env []) C env) d
 dq:∀x,e9 d x=M->(BE d (l6 d.names env []) C env).kindOf x=O .local
 HM:∀x c,(l6 d.names env []).lookup x=O c->env.cells.lookup x=O c
theorem Ee{env:ln}(F:dh env j)(h:Dm j d):∀x∈d.names,x.2=.free->∃c,env.cells.lookup x.1=O c:=λx A e=>F.CA x.1 (F.z7 (h.z7 x A e))
theorem VV{env:ln}(F:dh env j)(h:Dm j d)(C:be):CFr d env C:=by
 have B:=λx=>Kn (env:=env) (x:=x) (A:=d.names) (cs:=[]) (Ee F h) (λc e=>aH e)
 refine ⟨⟨h.km,λx k e=>J7 e,F.Gz,F.Nu,λx A=>(B x).2 (.inl (UH h.HI A))⟩,λx A=>?_,λx=>(B x).1⟩
 unfold e9 at A
 exact B2 A λA Y=>BU A λe=>e.elim (λe=>(J7 (env:=env) e).elim id λh=>qW h.1) λe=>nw N (h.HI _ (vU e))
theorem aT.PL(a:aT g env R P S s)(x:bW g (cN s.heap) P s U A)(F:be->Prop)(H:∀b,F b->s.heap.get? b=am∧A.heap.get? b≠am):aT g env (λb=>R b∨F b) U S A:=
 have B:=a.cv x
 have I:∀o,s.heap.get? env.locals=O o->A.heap.get? env.locals=O o:=λo e=>x.cH _ _ e a.dq.2
 have J:∀y c o,env.cells.lookup y=O c->s.heap.get? c=O o->A.heap.get? c=O o:=λy c o e h=>x.cH _ _ h (a.cj y c e).2.1
 a.gu.elim λY V=>⟨λb h=>h.elim (B.bR b) λh=>(H b h).2,B.ns,B.dq,B.cj,Y,λy p e=>aQ (V.ax y p e) λv C D=>(ay v (C.ct I J) (D.bU x.le)),λy p e=>jd (V.aX y p e) λC D Z f L E=>(l9 (C.ct I J) (λh=>h.elim D λh=>E.ix (H _ h).1) (x.nn Z E.ix) f L (E.ct x.le λo e=>x.cH _ _ e L)),V.fc⟩
theorem LB(k:∀v r,ar w A P v r->(D=M->r.dS=M)->ar w A E v r):∀{l:W PV} {B:W bm},bH w A P B l->(D=M->dY l=M)->bH w A E B l:=λ{l}=>no_implicit_lambda% (cB l (@λB r Y=>eR (show B=[] from r.I) .aU) λp l F {B} r h=>bX r.I λv J q H I=>eR q (.bg (k _ _ H λC=>(kH (h C)).1) (F I λC=>(kH (h C)).2)))
theorem GW{A:av}:jt (dW A):=λx p e=>aQ (BS e) λv q Y=>cQ.noConfusion q
theorem aT.PO{env:ln}{D:be->Prop}{P A:PM}{B:av}{s:ce}(a:aT g env D P B s)(E:P.le A)(C:∀x p,aG B x=O (.aX p)->∃v,fG env s.heap (aZ x) v∧ar g.w g.az A v p){x:X}{p:PV}(e:aG (Internal.dW B) x=O (.ax p)):∃v,fG env s.heap (aZ x) v∧ar g.w g.az A v p:=
 aQ (BS e) λv q h=>by
  exact eR (cQ.ax.inj q) (h.elim (λh=>a.gu.elim λI V=>aQ (V.ax _ _ h) λv F H=>(ay v F (H.bU E))) λh=>C _ _ h)
structure UP(g:Gh)(env:ln)(hb:be->Prop)(P:PM)(s:ce)(v:bm)(s':ce)(C:be)(r:PV)(vs':av)(aN:ai)(P':PM):Prop where
 a:aT g env (λb=>hb b∨b=C) P' vs' s'
 I:aS g P' aN s'
 x:ar g.w g.az P' v r
 G:bW g hb P s P' s'
 nb:¬hb C
 nP:P' C=am
 ne:C≠env.locals
 cj:∀x,env.cells.lookup x≠O C
 ni:¬ej g C
 ns:∃m,s'.heap.Ns C m
 bN:s.heap.get? C=am
 fr:∃D,v=.ref D∧s.heap.get? D=am
noncomputable def PQ(g:Gh)(A:pc)(env:ln)(I:be->Prop)(P:PM)(s:ce)(Q:PV->av->ai->Prop)(use:im (bm->wE UF))(R:bm->ce->Prop):Prop:=match use with
 |none=>∀v E,EP g env I P s Q v E->(∃D,v=.ref D∧s.heap.get? D=am)->R v E
 |some u=>∀v E C r F H L,Q r F H->UP g env I P s v E C r F H L->
   ca (cr pw g.w) A (u v) (λY B=>(∃m,B.heap.Ns C m)∧∀J,ug C B.heap J->R .none {B with heap:=J}) a9 E
structure Dn(g:Gh)(A:pc)(d:na)(target:kt)(t:eK)(bu:av)(items:W PV)(Pl:PM)(ob:ai)(s1 s4:ce)(bM:ln)(D J:be)(fp wr:W be)(Md:X->bm->li->Prop)(St:X->li->Prop)(Fz:be->Prop):Prop where
 B:CB g bM Pl s1 D
 F:dh bM d
 dq:∀x,e9 d x=M->bM.kindOf x=O .local
 K:sM pw g.w A target J fp wr items.length (λi v h=>∃p,aY items i=O p∧rM g.w g.az Pl t p v h) Md St
 fp1:∀b∈fp,Fz b∨∃o,Pl b=O o
 wr1:∀b∈wr,Fz b
 agx:∀i h,St i h->∀b∈fp,h.get? b≠am
 c:CI g (kR bu) bM Pl s1 D Fz Pl ob [] s4
 a:aT g bM (cN s4.heap) Pl (om (jr d) (dW bu)) s4
 no:jt (om (jr d) (dW bu))
 st:St 0 s4.heap
 c_:items.length≤4096
theorem aaQ{A:pc}{env:ln}{E:be->Prop}{P1 S:PM}{U:av}{ob:ai}{H:ce}{I:kt}{t:eK}{B:W PV}{J C D:be}{Z f:li}{tk:X}{fp wr:W be}{Md:X->bm->li->Prop}{St:X->li->Prop}
  (F:dh env j) (R:Dm j d) (a1:aT g env E P1 U H) (I1:aS g P1 ob H) (le:P1.le S) (L:aS g S ob H) (own:∀x p,aG U x=O (.aX p)->∃v,fG env H.heap (aZ x) v∧ar g.w g.az S v p) (pk:∀x c,env.cells.lookup x=O c->S c=am)
  (kp:∀b o,H.heap.get? b=O o->Z.get? b=O o) (k4:∀b o,Z.get? b=O o->f.get? b=O o) (hC:Z.get? C=am) (hD:Z.get? D=am) (DD:D≠C) (jE:∃m,f.Ns C m) (hD4:f.get? D=O (fM (mG []) 0))
  (K:sM pw g.w A I J fp wr B.length (λi v h=>∃p,aY B i=O p∧rM g.w g.az P1 t p v h) Md St) (fp1:∀b∈fp,H.heap.get? b=am∨∃o,P1 b=O o) (wr1:∀b∈wr,H.heap.get? b=am) (r:∀i h,St i h->∀b∈fp,h.get? b≠am) (rX:St 0 Z) (cx:B.length≤4096):
  Dn g A d I t U B S ob H {H with heap:=f,toks:=tk} (BE d (l6 d.names env []) C env) D J fp wr (λi v h=>i<B.length∧Md i v h) St (λb=>b∈fp∧H.heap.get? b=am):=by
 have w:∀{b},Z.get? b=am->H.heap.get? b=am:=λe=>nV kp e
 have kA:∀b o,H.heap.get? b=O o->f.get? b=O o:=λb o e=>k4 b o (kp b o e)
 have fr:=VV F R C
 have a:=bq.cv (P:=S) (s:=H) (t:=tk) L.ag kA
 have no:jt (om (jr d) (dW U)):=λx p e=>GW x p (F' e).2
 have cel:∀x c,(l6 d.names env []).lookup x=O c->S c=am∧¬ej g c∧∃v,f.IsCell c v:=λx c e=>
  have z:=a1.cj x c (fr.HM x c e)
  (bt (pk x c (fr.HM x c e)) z.2.1 (z.2.2.elim λv y=>⟨v,aQ y λo ho hd=>(ay o (kA _ _ ho) hd)⟩))
 refine ⟨⟨w hC,w hD,DD,λx c e q=>?_,λb E=>(I1.ix E).1⟩,fr.fr,fr.dq,zi.iC K λi v h Y z=>aQ z λp e1 e2=>(ay p e1 (λhPl vs vs' E=>ti.Hw le (e2 (λb o e=>hPl b o (le _ _ e)) vs vs' E))),λb E=>(fp1 b E).imp (λh=>⟨E,h⟩) λh=>h.elim λo h=>⟨o,le _ _ h⟩,λb E=>⟨K.sub b E,wr1 b E⟩,r,⟨L.g8 a,a.ew,(fV [] 0 hD4 .aU),jE,λY=>N,L.ag.bG (w hD),L.ag.bG (w hC),λb E=>?_⟩,⟨λY h=>h,jE,⟨L.ag.bG (w hC),λq=>(I1.ix q).1 (w hC)⟩,cel,λY=>0,λx p e=>?_,λx p e=>nw e (no x p),λx y p q e=>nw e (no x p)⟩,no,K.frame 0 Z f rX λb Y o e=>k4 b o e,cx⟩
 ·exact (a1.cj x c (fr.HM x c e)).2.2.elim λv y=>aQ y λo ho Y=>aH (q.symm.trans ho)
 ·have hl:=r 0 Z rX b E.1
  exact ⟨L.ag.bG E.2,λq=>hl (nV k4 q),E.2,λq=>hl (q▸hD),λq=>hl (q▸hC)⟩
 ·have e:=F' e
  have lv:=a1.PO le own e.2
  refine K3 (G:=λx=>(∃v,fG env H.heap (aZ x) v∧ar g.w g.az S v p)->∃v,fG (BE d (l6 d.names env []) C env) f (aZ x) v∧ar g.w g.az S v p) e.1 (λy hy lv=>aQ lv λv l1 l2=>(ay v ?_ l2)) lv
  rw [(f7 (R.ok _ hy N)).1]at l1⊢
  refine .inr ⟨(fr.fr.i4 _ _ (R.zG _ hy N)).elim .inr λh=>.inl h.2,l1.elim (λl=>(F.z7 (R.z7 _ hy N)).elim (λq=>qW (ii (l.1.symm.trans q))) λq=>qW (ii (l.1.symm.trans q))) λl=>aQ l.2 λc l4 z=>?_⟩
  have qx:=Kn (env:=env) (x:=y) (A:=d.names) (cs:=[]) (Ee F R) (λc e=>aH e)
  exact (qx.2 (.inl hy)).elim λc' jA=>(ay c (jA.trans ((qx.1 c' jA).symm.trans l4)) (aQ z λo ho hd=>(ay o (kA _ _ ho) hd)))
theorem aaR(eC:A.locals=C)(J:aT g env R i E L)(l:bW g R P s i L)(B:CB g A Pl L D)(c:CI g (kR E) A Pl L D (λY=>wn) m S U f)(hl:U.length≤sW)
  (Z:∃F,aS g F S f∧bW g (cN L.heap) i L F f∧(∀b,m b=am->F b=am)∧∀v r,ar g.w g.az m v r->(kR E=M->r.dS=M)->ar g.w g.az F v r):∃F,UP g env R P s (.ref D) f C (.aj U) E S F:=by
 refine eL eC (dn Z λF I G o kk=>eD c.dl λa kd t hr=>?_)
 have H:=o _ c.nD
 have w:=J.u_ B.fD
 have y:=J.u_ B.fC
 have i0:∀{b},L.heap.get? b=am->s.heap.get? b=am:=λh=>BF λq=>l.bR _ q h
 have a6:aT g env (λb=>(R b∨b=A.locals)∨b=D) F E f:=(J.PL G (λb=>b=A.locals∨b=D) λb R=>R.elim (λe=>e▸⟨B.fC,Ns.on c.ns⟩) λe=>e▸⟨B.fD,λq=>aH (q.symm.trans t)⟩).fN λb h=>h.elim (λh=>h.imp id .inl) λh=>.inr (.inr h)
 exact (zT (F.cS D (fM (mG a) kd)) ⟨a6.cS H w.1 w.2,I.cS H (B.no B.fD) t,.aj (PM.ir ..) ((LB kk hr c.gr).bU (PM.pU H)) hl,(l.bD (G.cJ J.bR)).cS H λh=>J.bR _ h B.fD,λh=>J.bR _ h B.fC,(PM.lP (SB B.ne)).trans (o _ c.nC),y.1,y.2,B.no B.fC,c.ns,i0 B.fC,D,N,i0 B.fD⟩)
theorem UP.CQ(U:UP g env A P s v E C r B D J)(q:Q r B D)(F:∀b o,¬b=C->E.heap.get? b=O o->H.get? b=O o):EP g env A P s Q v {E with heap:=H}:=
 (d6 _ B D J q (U.a.zN (J:=H) (D:=E.toks) (λb=>b=C) (λb A=>⟨A,λh=>U.nb (A▸h)⟩) (λh=>U.ne h.symm) (λx c e h=>U.cj x (h▸e)) F) (U.I.m_ (F:=H) (R:=E.toks) (λb=>b=C) (λb A=>A▸⟨U.nP,U.ni⟩) F) U.x ⟨U.G.le,λb o e L=>F b o (λq=>aH (U.bN.symm.trans (q▸e))) (U.G.cH b o e L),λb e q=>(lJ.mp (U.G.bR b e)).elim λo R=>aH (q.symm.trans (F b o (λS=>e (S▸U.bN)) R)),U.G.bN⟩)
theorem LC{A:pc}{env:ln}{P:PM}{vs:av}{ob:ai}{s:ce}{bL B E:kt}{pos p:KF}{t:eK}{k:ky}
  (F:dh env j) (R:eW A n) (a:aT g env hb P vs s) (I:aS g P ob s) (cG:s_ j d=M) (hi:jk g n j E k df) (ht:iB t d B=M) (hk:lj t k=M) (hs:∀env x,sP E env x=re x) (q:dP (ba g.Φ n) g.Φ df vs ob (xA k Qi))
  (loop:∀{H:W PV} {S:av} {ob1:ai} {Pl:PM} {s1 s4:ce} {Z:ln} {D I:be} {fp wr:W be} {Md:X->bm->li->Prop} {St:X->li->Prop} {Fz:be->Prop},Qi H S ob1->Dn g A d B t S H Pl ob1 s1 s4 Z D I fp wr Md St Fz->
   mK (cr pw g.w) A (.compLoop (.ListComp bL (⟨B,E,ifs,0⟩::dX) d pos) 0 (.ref I) (.ref D) Z) (λr s'=>r=.ok .next∧∃P' aN L,CI g (kR S) Z Pl s1 D (λY=>wn) P' aN L s'∧L.length≤sW∧Q (.aj L) S aN) s4)
  (hu:PQ g A env hb P s Q use Rr):ca (cr pw g.w) A (M0 (.ListComp bL (⟨B,E,ifs,0⟩::dX) d pos) d env p (Bo []) bn (Fk E env) use) Rr a9 s:=by
 have hc:=Kj cG
 refine wpAny_comprehension_free (cl:=l6 d.names env []) N (hs env) (Ui (Ee F hc)) hc.km hc.dq (ss (hi.go F R a I ht hk q) (λxv s1 hx=>ss hx (λit s2 h2=>?_) λY Y f=>f) λY Y f=>f)
 refine l_ h2 λH S ob1 P1 r8 q1 a1 I1 G1 h2=>cw h2 λh' tk J e1 e2 kp h2=>HY h2 λfp wr Md St K fp1 wr1 live rX cx self=>xk (a1.dW I1) λPl le jl own Y pk back=>eR e1 (eR e2 (uh (wpAny_newFunctionEnv hc.HI (λy hy=>nomatch hy) (λlF jE tQ=>?_) hc.km)))
 dsimp only at jE tQ⊢
 have hH:∃H2,H2=h'.push {cls:=.type "list",dict:=am,data:=.seq ([]:W bm).toArray}:=⟨_,N⟩
 refine hH.elim λH2 DE=>?_
 rw [←DE]at jE tQ⊢
 have k2:∀b o,h'.get? b=O o->H2.get? b=O o:=λb o e=>DE▸kK _ b o e
 have R_:h'.get? H2.objs.size=am:=nV k2 (kJ _)
 have DD:h'.objs.size≠H2.objs.size:=eR (DE ..) (eR (ux ..) (PP (uz _)))
 have k4:∀b o,h'.get? b=O o->lF.get? b=O o:=λb o e=>tQ.extBut b o (λq=>aH (R_.symm.trans (q▸e))) (tz _ (k2 b o e))
 have c:=aaQ (tk:=tk+0) F hc a1 I1 le jl own pk kp k4 R_ (kJ _) DD ⟨_,jE⟩ (tQ.extBut _ _ DD (tz _ (DE▸Ix _ N))) K fp1 wr1 live rX cx
 refine (?_:mK _ A (.compStart (.ListComp bL (⟨B,E,ifs,0⟩::dX) d pos) 0 (.ref J) (.ref h'.objs.size) (BE d (l6 d.names env []) H2.objs.size env)) (compPost (cr pw g.w) A a9 use Rr (.ref h'.objs.size) H2.objs.size) {r8 with heap:=lF,toks:=tk+0})
 refine BG (KY N N (loop q1 c) λQ hQ=>self _ Q c.st hQ) λr s5 h=>h.elim λe h=>xl h λP' aN L c5 hl5 q5=>?_
 refine eR e ((aaR (C:=H2.objs.size) N a1 G1 c.B c5 hl5 (back P' s5 aN c5.I c5.G)).elim λP3 U=>?_)
 cases use with
 |none=>exact (ay _ c5.ns.choose_spec (λh6 hs6=>hu _ _ (U.CQ q5 λb o hb e=>hs6.extBut b o hb e) U.fr))
 |some u=>exact ss (hu _ _ _ _ _ _ _ q5 U) (λY kE h=>h.1.elim λm h1=>(ay m h1 h.2)) λY Y f=>f
end
section
variable{g:Gh}{n:X}{j i:na}
theorem CI.agC(c:CI g C A E F D Z P H B s)(h:∀b,J b->Z b):CI g C A E F D J P H B s:=
 ⟨c.I,c.G,c.dl,c.ns,c.gr,c.nD,c.nC,λb L=>c.nZ b (h b L)⟩
structure SU(g:Gh)(n:X)(j:na)(bL:kt)(gens:W yp)(i:na)(pos:KF)(m:MX):Prop where
 go:∀{A:pc} {env:ln} {hb:be->Prop} {P:PM} {vs:av} {ob:ai} {s:ce} {Q:PV->av->ai->Prop} {use:im (bm->wE UF)} {Rr:bm->ce->Prop},dh env j->eW A n->aT g env hb P vs s->aS g P ob s->bB (ba g.Φ n) g.Φ m vs ob Q->PQ g A env hb P s Q use Rr->
  ca (cr pw g.w) A (M0 (.ListComp bL gens i pos) i env (firstIterPos gens pos) (Bo []) (firstAsync gens) (firstIter gens env) use) Rr a9 s
theorem SU.se(h:SU g n j C B i pos m):SE g n j (.ListComp C B i pos) m:=by
 refine ⟨?_⟩
 intro A env D P E H s Q F R a I q
 exact eR (arm_eval_ListComp ..) (h.go (use:=am) F R a I q λY Y h Y=>h)
@[reducible]noncomputable def E1(C:iK)(E:bA)(F:MX)(H:an)(A:av)(B:W PV)(D:ai)(I:W PV->ai->Prop):Prop:=bB C E F A D λu Y D=>(H=M->u.dS=M)∧I (B++[u]) D
theorem Dn.aR{C:kt}{P:av}{S:W PV}{Pl:PM}{s1 s4:ce}{D J:be}{fp wr:W be}{Md:X->bm->li->Prop}{St:X->li->Prop}{o:be->Prop}(d:Dn g A i C t P S Pl ob s1 s4 H D J fp wr Md St o)
 {U:W yp} {w:W kt} {Z:wE TD->wE TD} {ms:W MX} {f:X} {E:av->W PV->ai->(W PV->ai->Prop)->Prop} {Q:PV->av->ai->Prop}
    (hK:∀{k:wE TD} {Q:TD->ce->Prop} {s:ce},ca (cr pw g.w) A y (λY s'=>ca (cr pw g.w) A k Q a9 s') a9 s->ca (cr pw g.w) A (Z k) Q a9 s)
    (hE:wk (.ListComp bL U i pos) 0 (.ref J) (.ref D) H=uX (.ListComp bL U i pos) 0 p C w Z (.ref J) (.ref D) H) (R:eW A n) (ht:iB t i C=M) (vz:dD g n i w ms)
    (l:Hi g A (kR P) H Pl s1 D o t (om (jr i) (dW P)) f E y) (hM:f≤4096)
    (q:iq (w5 (ba g.Φ n) g.Φ t ms (om (jr i) (dW P)) E) S [] ob λrs ob=>rs.length≤sW∧Q (.aj rs) P ob):
    mK (cr pw g.w) A (.compLoop (.ListComp bL U i pos) 0 (.ref J) (.ref D) H) (λr s'=>r=.ok .next∧∃P' m I,CI g (kR P) H Pl s1 D (λY=>wn) P' m I s'∧I.length≤sW∧Q (.aj I) P m) s4:=by
  have e:(λb=>wn∨o b)=o:=T0 λb=>BA ⟨λh=>h.elim Ps id,.inr⟩
  exact BG (K1 (Zo:=λY=>wn) (Fz:=o) hK hE d.F R d.B ht vz d.dq d.K d.fp1 d.wr1 d.agx (λY h=>h.elim) d.no (e▸l) (d.c.agC λb h=>h.elim Ps id) (PM.le.bQ Pl) d.st (d.a.ag λx sl e=>(wL e).2) (io (by rw [Bx,sq];exact M3 d.c_ hM) (by decide)) q)
    λr s' h=>h.elim λe h=>cC h λP' m I L=>(ff e (nu P' m I L.c L.q))
theorem SU.dM(Z:s_ j i=M)(c:iB t i B=M)(f:jk g n j C k H)(h:∀env x,sP C env x=re x)(J:dD g n i L D)(l:SE g n i S d):
  SU g n j S [⟨B,C,L,0⟩] i pos (.dM (jr i) d t k H D):=by
 refine ⟨?_⟩
 intro A env w P U Y s Q use y F R a I q m
 have q:Internal.oT (lj t k) (dP (ba g.Φ n) g.Φ H U Y (xA k λE U Y=>iq (w5 (ba g.Φ n) g.Φ t D (om (jr i) (dW U)) (E1 (ba g.Φ n) g.Φ d (kR U))) E [] Y λe Y=>e.length≤sW∧Q (.aj e) U Y)):=q
 exact oT.E q λo q=>LC (Q:=Q) F R a I Z f c o h q (λr b=>b.aR LA (aaO S B C L i pos _ _ _) R c J (NM b.F R b.B l) (by decide) r) m
theorem CI.xe(B:CB g A L R D)(c:CI g e A L R D Z P f J s)(h:∀b o,s.heap.get? b=O o->S.get? b=O o)(F:be->Prop)(U:∀b,F b->s.heap.get? b=am∧S.get? b≠am):
  CI g e A L R D (λb=>Z b∨F b) P f J {s with heap:=S,toks:=l}:=
 have a:=bq.cv (t:=l) c.I.ag h
 have C:=c.cv B a.ew (c.I.g8 a)
 ⟨C.I,C.G,C.dl,C.ns,C.gr,C.nD,C.nC,λb E=>E.elim (C.nZ b) λE=>
  have H:=(U b E).1
  ⟨c.I.ag.bG H,(U b E).2,BF λq=>c.G.bR b q H,λq=>eD c.dl λd n m Y=>aH (H.symm.trans (q▸m)),λq=>Ns.on c.ns (q▸H)⟩⟩
theorem SU.kX(cG:s_ j i=M)(ht:iB t i E=M)(xT:iB t2 i B=M)(hi:jk g n j Z k df)(Ai:jk g n i C k2 nO)
  (hs:∀env x,sP Z env x=re x) (fq:∀env x,sP C env x=re x) (vz:dD g n i ifs Ah) (aiQ:dD g n i w U) (he:SE g n i bL me) (akK:∀x,x∈jr i->x∉mO t2):
  SU g n j bL [⟨E,Z,ifs,0⟩,⟨B,C,w,0⟩] i pos (.kX (jr i) me t k df Ah t2 k2 nO U):=by
 refine ⟨?_⟩
 intro A env S P vs ob s Q use Rr F R a I q hu
 have q:Internal.oT (lj t k&&lj t2 k2) (dP (ba g.Φ n) g.Φ df vs ob (xA k λitems vs ob=>iq (w5 (ba g.Φ n) g.Φ t Ah (om (jr i) (dW vs)) (λvs' aI ob Rk=>dP (ba g.Φ n) g.Φ nO vs' ob (xA k2 λy Y ob=>iq (w5 (ba g.Φ n) g.Φ t2 U vs' (E1 (ba g.Φ n) g.Φ me (kR vs))) y aI ob Rk))) items [] ob λrs ob=>rs.length≤sW∧Q (.aj rs) vs ob)):=q
 refine oT.E q λhkk q=>B2 hkk λhk qz=>LC (Q:=Q) F R a I cG hi ht hk hs q (λ{items bu ob1 Pl s1 s4 H D J fp wr Md St Fz} q1 l=>l.aR W_ (W8 bL E Z B C ifs w i pos _ _ _) R ht vz (λ{P vs' ob aI s Rk} c a vH S hl q=>?_) (ul _) q1) hu
 refine dL (ss (Ai.go l.F R a c.I xT qz q) (λxv s2 hx=>gS (dL (sH (fq H xv) (gy (ss hx (λit s3 h3=>?_) λY Y f=>f))))) λY Y f=>f)
 refine l_ h3 λy cO cf P2 DY q2 a2 I2 G2 h3=>cw h3 λh' tk J2 e1 e2 kp h3=>HY h3 λfpb wrb Mdb Stb Kb aiI aj9 RQ Iv RE aiR=>eR e1 (eR e2 ?_)
 have c2:=c.cv l.B G2 I2
 have m:=bq.cv (t:=tk) I2.ag kp
 have a3:aT g H (cN h') P2 vs' {DY with heap:=h',toks:=tk}:=((((a.cv G2).pV vH (cN DY.heap) λY h=>h).cv m.ew).pV vH _ λY h=>h)
 have L2:=K1 (g:=g) (n:=n) (A:=A) (d:=1) (emit:=CC bL (.ref D) H) (emitK:=Ck bL (.ref D) H) (ms:=U) (a:=1) (Zo:=Fz) (Fz:=λb=>b∈fpb∧DY.heap.get? b=am) (Z:=vs') (P0:=P2) (ob0:=cf) (S:=aI) (s0:={DY with heap:=h',toks:=tk}) (Qf:=Rk)
  LA (W9 bL E Z B C ifs w i pos (.ref J2) (.ref D) H) l.F R l.B xT aiQ l.dq Kb (λb S=>(aiI b S).imp (λh=>⟨S,h⟩) id) (λb S=>⟨Kb.sub b S,aj9 b S⟩) RQ (λb h1 h2=>(c2.nZ b h1).on h2.2) vH
  (NM l.F R l.B he) (c2.xe (l:=tk) l.B kp _ λb S=>⟨S.2,RQ 0 h' Iv b S.1⟩) (PM.le.bQ P2) Iv (a3.ag λx sl e=>(wL e).2) (ax9 hl RE) q2
 refine dL (wpAny_runOwn (BG (KY (H:=⟨B,C,w,0⟩) N N L2 λQ hQ=>aiR _ Q Iv hQ) λr s5 h=>h.elim λe h=>cC h λP5 ob5 ajk L=>?_))
 exact eR e (lf (ql P5 ob5 ajk ⟨L.c,G2.le.bD L.up,L.a.ag λx sl e=>S.elim λpv S=>(GV (akK x (F' (wL e).2).1)).trans (F_ S e),L.q,io L.c_ (by rw [Mj];exact qI RE _),λb o S e=>L.kp b o S (kp b o (G2.cH b o e (l.B.no (c.nZ b S).bN)))⟩))
theorem aT.rr(a:aT g env H P E s)(F:P.le C)(D:∀x p,aG E x=O (.aX p)->∃v,fG env s.heap (aZ x) v∧ar g.w g.az C v p)(A:C env.locals=am)(B:∀x c,env.cells.lookup x=O c->C c=am):aT g env (cN s.heap) C (Internal.dW E) s:=
 ⟨λY h=>h,a.ns,⟨A,a.dq.2⟩,λx c e=>⟨B x c e,(a.cj x c e).2⟩,λY=>0,λx p e=>a.PO F D e,λx p e=>nw e (GW x p),λx y p q e=>nw e (GW x p)⟩
theorem aaS(B:Cc r=M)(x:ar w A C v r)(k:∀v r,ar w A C v r->r.dS=M->ar w A E v r)(F:∀D,v=.ref D->E D=C D):ar w A E v r:=by
 cases r with
 |aj l=>exact cw x.I λa L n q H I J=>eR q (.aj ((F a q).trans H) (LB (D:=M) (λv r h g=>k v r h (g N)) I λY=>B) J)
 |a8=>exact bY B
 |ah=>exact bY B
 |_=>exact k _ _ x B
theorem SU.dW(h:SU g n j bL S i pos m):SU g n j bL S i pos (.dW m):=by
 refine ⟨?_⟩
 intro A env hb P vs ob s Q use Rr F R a I q hu
 have q:bB (ba g.Φ n) g.Φ m (Internal.dW vs) ob λv Y ob=>Cc v=M∧Q v vs ob:=q
 refine xk (a.PC I) λPl le jl own Z f o=>h.go F R (a.rr le own Z f) jl q ?_
 have y:∀{v:bm} {H:ce} {r:PV} {B:ai} {L:PM},Cc r=M->aS g L B H->ar g.w g.az L v r->bW g (cN s.heap) Pl s L H->(∃D,v=.ref D∧s.heap.get? D=am)->
   ∃E,aS g E B H∧bW g (cN s.heap) P s E H∧ar g.w g.az E v r∧∀b,L b=am->E b=am:=λh1 I2 x2 G2 fr=>
  rD (o _ _ _ I2 G2) λE I' J nn kk same=>aQ fr λD q hD=>(dG E I' J (aaS h1 x2 (λv r hr hg=>kk v r hr λY=>hg) (λD' e=>Os (q.symm.trans e)▸same D hD)) nn)
 cases use with
 |none=>exact λv H z fr=>rG z λr vs' B L q Y I2 x2 G2=>dn (y q.1 I2 x2 G2 fr) λE I' J x' Y=>hu v H (d6 r vs B E q.2 (a.cv J) I' x' (J.cJ a.bR)) fr
 |some u=>exact λv H C r vs' B L q U=>dn (y q.1 U.I U.x U.G U.fr) λE I' J x' nn=>hu v H C r vs B E q.2 ⟨a.PL J (λb=>b=C) λb hb=>hb▸⟨U.bN,Ns.on U.ns⟩,I',x',J.cJ a.bR,λh=>a.bR C h U.bN,nn C U.nP,U.ne,U.cj,U.ni,U.ns,U.bN,U.fr⟩
end
section
variable{g:Gh}{n:X}{i j:na}
noncomputable def OY(g:Gh)(env:ln)(A:be->Prop)(P:PM)(B:av)(s:ce)(v:bm):cQ->Prop
 |.ax r=>aT g env A P B s∧ar g.w g.az P v r
 |.aX p=>∃D,v=.ref D∧aT g env (λb=>A b∨b=D) P B s∧vg g env A P s.heap D p
noncomputable def VP(g:Gh)(env:ln)(E:be->Prop)(P:PM)(s:ce)(Q:cQ->av->ai->Prop)(v:bm)(C:ce):Prop:=
 ∃F A B D,Q F A B∧OY g env E D A C v F∧aS g D B C∧bW g E P s D C
structure SV(g:Gh)(n:X)(i:na)(mu:an)(e:kt)(m:MX):Prop where
 go:∀{A:pc} {env:ln} {hb:be->Prop} {P:PM} {vs:av} {ob:ai} {s:ce} {Q:cQ->av->ai->Prop},dh env i->eW A n->aT g env hb P vs s->aS g P ob s->
  oR (ba g.Φ n) g.Φ mu m vs ob Q->ca (cr pw g.w) A (Fk e env) (VP g env hb P s Q) a9 s
theorem SV.ax(h:SE g n i e m)(E:∀A B Q,oR (ba g.Φ n) g.Φ H m A B Q->bB (ba g.Φ n) g.Φ m A B λv A B=>Q (.ax v) A B):SV g n i H e m:=
 ⟨λF R a I q=>EP.bJ (h.go F R a I (E _ _ _ q)) λv Z r C D J L P S U Y=>(xj (.ax r) C D J L ⟨P,U⟩ S Y)⟩
theorem SV.no(h:SE g n i e m):SV g n i bn e m:=SV.ax (H:=bn) h λY Y Y q=>q
theorem y9(a:aT g env B P C s)(I:aS g P D s)(G:bW g B F H P s)(q:Q (.aX p) C D)(J:∀b o,s.heap.get? b=O o->E.get? b=O o)(o:dr g P E s.heap.objs.size p):
  VP g env B F H Q (.ref s.heap.objs.size) {s with heap:=E,toks:=L}:=
 have c:=bq.cv (t:=L) I.ag J
 have A:=kJ s.heap
 have f:=I.iJ A
 (xj (.aX p) C D P q (cq _ N (a.xe c.ew A o.ix) ⟨λh=>a.bR _ h A,f.1,(a.u_ A).1,f.2,o⟩) (I.g8 c) (G.bD (c.ew.cJ a.bR)))
theorem SV.cK(h:dD g n i S C):SV g n i M (.List S p) (.cK C):=by
 refine ⟨?_⟩
 intro A env y P D E s Q F R a I q
 have q:dP (ba g.Φ n) g.Φ C D E λB D E=>Internal.oT (u8 B.length 4096) (Q (.aX (.aj B)) D E):=by
  cases C<;>exact q
 exact eR (arm_eval_List ..) (gS (dL (lq.bJ (h.mT F R a I q) λB s1 rs U Y P1 H Z f J o=>oT.E H λL H=>Bp (y9 Z f o H (kK _) (d_ B 0 (Ix _ N) J (ww L))) (by rw [J.bO];exact io (ww L) f6))))
theorem SV.agD(B:cI g):SV g n i M (.Dict [] [] p) (.cD []):=
 ⟨λ{A env C P D E s Q} F R a I q=>wpAny_Dict_empty (y9 (F:=P) (H:=s) (p:=.a8 []) (L:=s.toks) (Q:=Q) a I (.bQ ..) q (kK {cls:=.type "dict",data:=.dict #[]}) (ff (tX (I.rJ B)) (cq [] (Fd s.heap) .aU (Gc _))))⟩
theorem aaT(B:cI g)(c:A.handled=am)(a:aT g env S P U s)(I:aS g P Y s)(G:bW g S f t P s)(q:Q (.aX u) U Y)(r:ar g.w g.az P v p)(e:th p=O u):
  ca (cr pw g.w) A (po (.type "dict") [v]) (VP g env S f t Q) a9 s:=by
 revert r q
 refine th.E (G:=λp u=>Q (.aX u) U Y->ar g.w g.az P v p->_) e (λl q r=>rE r.I λb o w H J D E F=>?_) λl d D q r=>cw r.I λb us m H J E F=>dk (Ew (h:=s.heap) I.ag E D (.aU:dx g.w g.az P [] []) sy) λy Z h2 h3=>?_
 ·exact eR H (kt_call_dict D.1 (D.2.2 _ (I.ag _ _ J)) (by rw [E.bO];exact io F f6) λh' L R=>y9 (L:=s.toks) a I G q (λb o e=>R.extBut b o (λq=>mF _ (q▸FM e)) (tz _ e)) (ff (tX (I.rJ B)) (cq _ L E F)))
 ·refine eR H ?_
  have C:=D0 D
  rw [Bx,sq]at C
  exact JZ c (I.ag _ _ J) Z (eR Z.bO (eR E.bO (io F (by decide)))) λh' tk L R=>y9 a I G q R (ff (tX (I.rJ B)) (cq _ L h2 (io C F)))
theorem aaU(a:aT g env B P E s)(I:aS g P F s)(G:bW g B H J P s)(q:Q (.aX (.aj l)) E F)(r:ar g.w g.az P v p)(e:gm p=O l):
  ca (cr pw g.w) A (po (.type "list") [v]) (VP g env B H J Q) a9 s:=by
 revert r
 refine gm.E (G:=λp=>ar g.w g.az P v p->_) e (λr=>?_) λr=>?_
 all_goals
  refine cw r.I λb Y m L R C D=>?_
  refine eR L (MI _ (by first|exact .inl N|exact .inr N) (I.ag _ _ R) N N (λZ c S U=>y9 (L:=s.toks) a I G q S (d_ _ _ U C D)) (by rw [wP,C.bO];exact io D f6))
theorem adU{D:bA}{A:av}{K:PV->av->ai->Prop}(q:bB C D m A B K):dP C D [m] A B λE A B=>∃v,E=[v]∧K v A B:=by
 refine (?_:bB C D m A B (λv A B=>∃w,[v]=[w]∧K w A B))
 rw [(T0 λv=>T0 λA=>T0 λB=>BA ⟨λh=>aQ h λw e h=>(Fv e).1▸h,λh=>(ay v N h)⟩:(λv A B=>∃w,[v]=[w]∧K w A B)=K)];exact q
theorem SV.bi(B:cI g)(So:iY g.w g.az)(hx:gU i f=M)(h:dD g n i es H):SV g n i mu (.Call (.Name f fp) es [] p) (.bi (aW f) H):=by
 have C:(∀D E Q,oR (ba g.Φ n) g.Φ mu (.bi (aW f) H) D E Q->bB (ba g.Φ n) g.Φ (.bi (aW f) H) D E λv D E=>Q (.ax v) D E)->SV g n i mu (.Call (.Name f fp) es [] p) (.bi (aW f) H):=SV.ax (Hv B So hx h)
 cases mu with
 |false=>exact C λY Y Y q=>q
 |true=>
  cases H with
  |nil=>exact C λY Y Y q=>q
  |cons Z H=>
   cases H with
   |cons=>exact C λY Y Y q=>q
   |nil=>
    refine ⟨?_⟩
    intro A env o P D E s Q F R a I q
    have q:(match(generalizing:=false) pi (aW f) q8 with|true=>bB (ba g.Φ n) g.Φ Z D E (λv D E=>Internal.oS (th v) λu=>Q (.aX u) D E)|false=>(match(generalizing:=false) pi (aW f) q9 with|true=>bB (ba g.Φ n) g.Φ Z D E (λv D E=>Internal.oS (gm v) λl=>Q (.aX (.aj l)) D E)|false=>bB (ba g.Φ n) g.Φ (.bi (aW f) [Z]) D E λv D E=>Q (.ax v) D E)):=q
    have L:∀{nm:IN} {K:PV->av->ai->Prop},aG eU (aW f)=O (.type nm)->bB (ba g.Φ n) g.Φ Z D E K->(∀{v:bm} {y:ce} {r:PV} {S:av} {U:ai} {P1:PM},K r S U->aT g env o P1 S y->aS g P1 U y->ar g.w g.az P1 v r->bW g o P s P1 y->ca (cr pw g.w) A (po (.type nm) [v]) (VP g env o P s Q) a9 y)->
      ca (cr pw g.w) A (Fk (.Call (.Name f fp) es [] p) env) (VP g env o P s Q) a9 s:=λ{nm K} hv q k=>wK B F R a I hx hv h (adU q) λus s' rs vs' aN P' q' a' I' x' G'=>aQ q' λr er q'=>by
        rw [er]at x'
        exact x'.un (G:=λus=>ca _ _ (po _ us []) _ _ _) λv x=>k q' a' I' x G'
    cases J:pi (aW f) q8 with
    |true=>
     rw [J]at q
     exact L (by rw [AC J];kernel_rfl) q λq a I x G=>oS.E q λu e q=>aaT B R.1 a I G q x e
    |false=>
     rw [J]at q
     cases J:pi (aW f) q9 with
     |true=>
      dsimp only at q
      rw [J]at q
      exact L (by rw [AC J];kernel_rfl) q λq a I x G=>oS.E q λu e q=>aaU a I G q x e
     |false=>
      dsimp only at q
      rw [J]at q
      exact (SV.ax (H:=bn) (Hv B So hx h) λY Y Y q=>q).go F R a I q
theorem VW(F:dh env i)(E:i9 env i C)(H:e9 i x=M)(h:OY g env C P L s v J)(I:aS g P S s)
  (k:∀B,aT g env C P (aK L (aW x) J) B->aS g P S B->eB g C P s P B->R () B):ca (cr pw g.w) A (BC env x v) R a9 s:=by
 cases J with
 |ax r=>exact sj F E H h.1 I h.2 k
 |aX p=>exact dk h λD e a o=>eR e (Lw F E H a I o.nb o.nP o.nL o.nI o.eY k)
theorem SS.acI(J:e9 i y=M)(h:SV g n i (vk B (aW y)) e m)(C:∀env,yH e (O (.Name y L)) pos.line env=re bn):SS g n i B (.Assign [.Name y L] e pos) (.bI (.ak (aW y)) m):=by
 refine ⟨?_⟩
 intro A env hb P D E s Q F S R a I q
 have q:oR (ba g.Φ n) g.Φ (vk B (aW y)) m D E λv D E=>Q .bp (aK D (aW y) v) E:=q
 exact FH (ss (h.go F R a I q) (λv s1 U=>rF U λsl Z H b c d l o=>VW F S J d l λs2 r t w=>(d6 .bp _ H b c .bp r t (o.eP.bD w))) λY Y f=>f) (C env)
theorem SS.Oo(hy:e9 i y=M)(h:SU g n i L B j cp m)(hm:∀E H Q,oR (ba g.Φ n) g.Φ (vk J (aW y)) m E H Q->bB (ba g.Φ n) g.Φ m E H λv E H=>Q (.ax v) E H):
  SS g n i J (.Assign [.Name y py] (.ListComp L B j cp) pos) (.bI (.ak (aW y)) m):=by
 refine ⟨?_⟩
 intro A env D P E H s Q F Pv R a I q
 have q:oR (ba g.Φ n) g.Φ (vk J (aW y)) m E H λv E H=>Q .bp (aK E (aW y) v) H:=q
 have q:=hm _ _ _ q
 refine (show∃b:an,yH (.ListComp L B j cp) (O (.Name y py)) pos.line env=re b from⟨_,N⟩).elim λb Z=>?_
 cases b with
 |false=>exact FH (EP.bJ (h.se.go F R a I q) λv s1 r bu S P1 q1 a1 I1 x1 G1=>sj F Pv hy a1 I1 x1 λs2 a2 I2 G2=>(d6 .bp _ S P1 q1 .bp a2 I2 (G1.eP.bD G2))) Z
 |true=>
  refine eR (exec_Assign_Name_used _ _ _ _ Z) (gS (dL (?_:ca _ A (do let _ ←M0 (.ListComp L B j cp) j env (firstIterPos B cp) (Bo []) (firstAsync B) (firstIter B env) (O (wh (.Name y py) env))) _ _ s)))
  refine dL (ss (h.go (use:=O (wh (.Name y py) env)) (Rr:=λY s'=>SP g env D P s Q .next s') F R a I q λv s1 C r bu S P1 q1 U=>?_) (λY s' hs=>lf (lf hs)) λY Y f=>f)
  refine Fw (sj F (⟨λh=>h.elim Pv.dq λe=>U.ne e.symm,λx c h0 h1 h2 h=>h.elim (Pv.cj x c h0 h1 h2) λe=>U.cj x (e▸h2),Pv.inj⟩) hy U.a U.I U.x λs2 a2 I2 G2=>⟨Ns.ct U.ns λo ho=>G2.cH _ _ (.inr N) ho U.ni,λh' fS=>?_⟩)
  have k6:∀b o,¬b=C->s2.heap.get? b=O o->h'.get? b=O o:=λb o D e=>fS.extBut b o D e
  exact (d6 .bp _ S P1 q1 .bp (a2.zN (J:=h') (D:=s2.toks) (λb=>b=C) (λb D=>⟨D,λh=>U.nb (D▸h)⟩) (λh=>U.ne h.symm) (λx c e h=>U.cj x (h▸e)) k6) (I2.m_ (F:=h') (R:=s2.toks) (λb=>b=C) (λb D=>D▸⟨U.nP,U.ni⟩) k6) ⟨U.G.le,λb o D e ni=>k6 b o (λq=>U.nb (q▸D)) (G2.cH b o (.inl D) (U.G.cH b o e ni) ni),λb e q=>(lJ.mp (G2.bR b (U.G.bR b e))).elim λo ho=>aH (q.symm.trans (k6 b o (λq'=>e (q'▸U.bN)) ho)),U.G.bN⟩)
theorem SS.acJ(Y:iB (.bS Z) i (.Tuple C k D)=M)(h:SE g n i e m)(E:∀env,swapsWithSole [.Tuple C k D] e pos.line env=re bn)(b:∀env,FI [.Tuple C k D] e env=re am):
  SS g n i S (.Assign [.Tuple C k D] e pos) (.bI (.bS Z) m):=by
 refine ⟨?_⟩
 intro A env hb P vs ob s Q F c R a I q
 exact Zz (EP.bJ (h.go F R a I q) λv s1 r d H f J l U o t=>oS.E (A:=av) J λL B J=>Ed R.1 F c Y (rL.of U.ag o B) B l U λs2 w y G2=>(d6 .bp L H f J .bp w y (t.eP.bD G2))) (E env) (b env)
end
section
variable{g:Gh}{n:X}{c i:na}
class inductive rN(g:Gh)(n:X)(c:na)(mutd:W X):W X->W kt->W MX->Prop
 |aU:rN g n c mutd [] [] []
 |bg {x:X} {xs:W X} {e:kt} {m:MX} {es:W kt} {ms:W MX}:wG e=M->SV g n c (vk mutd x) e m->rN g n c mutd xs es ms->rN g n c mutd (x::xs) (e::es) (m::ms)
class inductive g9(g:Gh)(env:ln)(hb:be->Prop)(P:PM)(h:li):W be->W bm->W cQ->Prop
 |aU:g9 g env hb P h [] [] []
 |ax {ds:W be} {us:W bm} {ck:W cQ} {v:bm} {r:PV}:ar g.w g.az P v r->g9 g env hb P h ds us ck->g9 g env hb P h ds (v::us) (.ax r::ck)
 |aX {ds:W be} {us:W bm} {ck:W cQ} {D:be} {p:PV}:vg g env hb P h D p->D∉ds->g9 g env hb P h ds us ck->g9 g env hb P h (D::ds) (.ref D::us) (.aX p::ck)
theorem g9.ee(x:g9 g env C P h D F E):∀d∈D,∃p,vg g env C P h d p:=by
 induction x with
 |aU=>exact λd A=>nomatch A
 |ax _ _ B=>exact B
 |aX o _ _ B=>exact λd A=>(wl.mp A).elim (λq=>⟨_,q▸o⟩) (B d)
theorem g9.bO(x:g9 g env D P h E C A):C.length=A.length:=by
 induction x with
 |aU=>rfl
 |ax _ _ B=>exact lc (· +1) B
 |aX _ _ _ B=>exact lc (· +1) B
theorem g9.ct(x:g9 g env I P h E J A)(F:P.le H)(L:∀b,B b->I b):(∀d∈E,H d=am∧∀o,h.get? d=O o->R.get? d=O o)->g9 g env B H R E J A:=by
 induction x with
 |aU=>exact λY=>.aU
 |ax r _ C=>exact λk=>.ax (r.bU F) (C k)
 |aX o D _ C=>exact λk=>.aX ⟨λh=>o.nb (L _ h),(k _ (wf ..)).1,o.nL,o.nI,o.eY.ct F (k _ (wf ..)).2⟩ D (C λd D=>k d (wv _ D))
structure vo(g:Gh)(env:ln)(hb:be->Prop)(P:PM)(s:ce)(ds:W be)(us:W bm)(ck:W cQ)(vs':av)(aN:ai)(P':PM)(s':ce):Prop where
 a:aT g env (λb=>hb b∨b∈ds) P' vs' s'
 I:aS g P' aN s'
 G:bW g hb P s P' s'
 L:g9 g env hb P' s'.heap ds us ck
theorem vo.g8(V:vo g env A P s J R B C D F E)(H:∀b o,E.heap.get? b=O o->S.get? b=O o):vo g env A P s J R B C D F {E with heap:=S}:=
 have f:=bq.cv (t:=E.toks) V.I.ag H
 ⟨V.a.cv f.ew,V.I.g8 f,V.G.bD (f.ew.cJ λb A=>V.a.bR b (.inl A)),V.L.ct (PM.le.bQ F) (λY h=>h) λd U=>(V.L.ee d U).elim λp o=>⟨o.nP,λo e=>H d o e⟩⟩
theorem rN.mT(h:rN g n c L xs es ms)(F:dh env c)(R:eW A n):∀{hb:be->Prop} {P:PM} {S:av} {U:ai} {s:ce} {Q:W cQ->av->ai->Prop},aT g env hb P S s->aS g P U s->
  CW (ba g.Φ n) g.Φ L xs ms S U Q->ca (cr pw g.w) A (uq (yz pos (uo es env))) (λus s'=>us.length=es.length∧∃B Z j P' y,Q B Z j∧vo g env hb P s y us B Z j P' s') a9 s:=by
 induction h with
 |aU=>exact λ{hb P S U s Q} a I q=>lf (ff N ⟨[],S,U,P,[],q,⟨a.fN λb h=>h.elim id λh=>(nomatch h),I,.bQ ..,.aU⟩⟩)
 |@bg x xs e m es ms jE hv hr ih=>
  intro hb P S U s Q a I q
  refine eR (vR jE) (yA (ss (hv.go F R a I q) (λv s1 h1=>rF h1 λsl bu ob1 P1 q1 o1 I1 G1=>?_) λY Y f=>f))
  cases sl with
  |ax r=>exact ss (ih o1.1 I1 q1) (λus s2 C=>C.elim λl2 C=>HZ C λB E H P2 y q2 V=>(ff (lc (· +1) l2) ⟨_,E,H,P2,y,q2,⟨V.a,V.I,G1.bD V.G,.ax (o1.2.bU V.G.le) V.L⟩⟩)) λY Y f=>f
  |aX p=>
   exact dk o1 λD e aD J=>eR e (ss (ih aD I1 q1) (λus s2 C=>C.elim λl2 C=>HZ C λB E H P2 y q2 V=>(ff (lc (· +1) l2) ⟨_,E,H,P2,(D::y),q2,⟨V.a.fN λb h=>h.elim (λh=>.inl (.inl h)) λh=>(wl.mp h).elim (λh=>.inl (.inr h)) .inr,V.I,G1.bD (V.G.cJ λb h=>.inl h),.aX ⟨J.nb,V.G.nn J.nP (.inr N),J.nL,J.nI,J.eY.ct V.G.le λo e=>V.G.cH _ _ e J.nI⟩ (λh=>(V.L.ee D h).elim λp o=>o.nb (.inr N)) (V.L.ct (PM.le.bQ _) (λb h=>.inl h) λd hd=>(V.L.ee d hd).elim λp o=>⟨o.nP,λo e=>e⟩)⟩⟩)) λY Y f=>f)
end
class inductive oY:W X->W cQ->Prop
 |aU:oY [] []
 |bg {x:X} {v:cQ} {xs:W X} {ck:W cQ}:x∉xs->oY xs ck->oY (x::xs) (v::ck)
theorem oY.of:∀{B:W X} {A:W cQ},Ca B=M->B.length=A.length->oY B A
 |[],[],_,_=>.aU
 |x::B,v::A,h,C=>
  B2 (a:=!B.any (pi x)) (b:=Ca B) h λD E=>.bg (λm=>jf ((y8.mpr m).symm.trans (Fi _▸D))) (oY.of E (n0 C))
 |[],_::_,_,h=>nomatch h
 |_::_,[],_,h=>nomatch h
theorem U'(p:oY H D):∀{A:av},iX (H.reverse++[x]) (D.reverse++[E]) A=aK (iX H.reverse D.reverse A) x E:=by
 have k:∀{C:W X} {B:W cQ} {A:av},C.length=B.length->iX (C++[x]) (B++[E]) A=aK (iX C B A) x E:=λ{C}=>by
  induction C with
  |nil=>intro B A h;rw [show B=[] from List.eq_nil_of_length_eq_zero h.symm];rfl
  |cons y C F=>
   intro B A h
   cases B with
   |nil=>exact nomatch h
   |cons w B=>exact F (n0 h)
 refine λ{A}=>k (eR FJ (eR FJ ?_))
 induction p with
 |aU=>rfl
 |bg _ _ F=>exact lc (· +1) F
theorem U_(p:oY B A):∀{vs ws:av},(∀y,y∉B->aG vs y=aG ws y)->∀y,aG (iX B A vs) y=aG (iX B A ws) y:=by
 induction p with
 |aU=>exact λh y=>h y sI
 |@bg x v B A E p C=>
  intro vs ws h y
  refine C (vs:=aK vs x v) (ws:=aK ws x v) (λz D=>?_) y
  refine eR (gg ..) (eR (gg ..) ?_)
  by_cases q:x=z
  ·rw [jp q,jp q]
  ·exact eR (f0 q ..) (eR (f0 q ..) (h z λm=>(wl.mp m).elim (λe=>q e.symm) D))
theorem VX(p:oY B A):∀{vs:av} {x:X} {C:cQ},x∉B->∀y,aG (iX B A (aK vs x C)) y=aG (aK (iX B A vs) x C) y:=by
 induction p with
 |aU=>exact λY Y=>N
 |@bg z v B A F p E=>
  intro vs x C h y
  refine (?_:aG (iX B A (aK (aK vs x C) z v)) y=aG (aK (iX B A (aK vs z v)) x C) y)
  refine eL (E (vs:=aK vs z v) (λm=>h (wv _ m)) y) (U_ p (λu Y=>?_) y)
  refine eR (gg ..) (eR (gg ..) (eR (gg ..) (eR (gg ..) ?_)))
  by_cases D:z=u
  ·rw [jp D,f0 (c:=x=u) λq=>h (wl.mpr (.inl (q.trans D.symm))),jp D]
  ·exact eR (f0 D ..) (eR (f0 D ..) N)
theorem VY(p:oY B A):∀{C:av} (y:X),aG (iX B.reverse A.reverse C) y=aG (iX B A C) y:=by
 induction p with
 |aU=>exact λY=>N
 |@bg x v B A D p E=>
  intro C y
  refine eR wm (eR wm (eR (U' p) (?_:_=aG (iX B A (aK C x v)) y)))
  refine eR (VX p D y ..) (eR (gg ..) (eR (gg ..) ?_))
  by_cases q:x=y
  ·rw [jp q,jp q]
  ·exact eR (f0 q ..) (eR (f0 q ..) (eR (E ..) N))
section
variable{g:Gh}{n:X}{f i:na}
theorem aT.congr(a:aT g env A P B s)(h:∀x,aG C x=aG B x):aT g env A P C s:=a.ag λx D e=>(h x).symm.trans e
class inductive xB(g:Gh)(env:ln)(A:pc):W f8->W (bm->wE UF)->Prop
 |aU:xB g env A [] []
 |bg {x:f8} {t:bm->wE UF} {xs:W f8} {ts:W (bm->wE UF)}:(∀{v:bm} {Q:UF->ce->Prop} {s:ce},ca (cr pw g.w) A (BC env x v) Q a9 s->ca (cr pw g.w) A (t v) Q a9 s)->xB g env A xs ts->xB g env A (x::xs) (t::ts)
theorem Ko(F:dh env f)(Pv:i9 env f D)(st:xB g env A U ts):∀{C:W be} {E:W bm} {B:W cQ} {Z:av} {s:ce} {R:UF->ce->Prop},(∀x∈U,e9 f x=M)->U.length=E.length->
  g9 g env D P s.heap C E B->aT g env (λb=>D b∨b∈C) P Z s->aS g P ob s->(∀H,aT g env D P (iX (U.map aW) B Z) H->aS g P ob H->eB g D P s P H->R () H)->ca (cr pw g.w) A (wg ts E) R a9 s:=by
 induction st with
 |aU=>
  intro C E B Z s R _ hl L a I k
  cases L with
  |aU=>exact lf (k s (a.fN λb h=>.inl h) I (.bQ ..))
  |_=>exact nomatch hl
 |@bg x t U ts ht hts ih=>
  intro C E B Z s R hx hl L a I k
  have yc:=hx x (wf ..)
  have J:∀{C:W be},(∀d∈C,∃p,vg g env D P s.heap d p)->i9 env f (λb=>D b∨b∈C):=λ{C} hd=>
   ⟨λh=>h.elim Pv.dq λh=>(hd _ h).elim λp o=>o.nL N,λx c h0 h1 h2 h=>h.elim (Pv.cj x c h0 h1 h2) λh=>(hd _ h).elim λp o=>(a.cj _ _ h2).2.2.elim λu hu=>o.eY.tb hu,Pv.inj⟩
  have S:∀{C:W be} {E:W bm} {B:W cQ} {sl:cQ} {j:ce},g9 g env D P s.heap C E B->U.length=E.length->aT g env (λb=>D b∨b∈C) P (aK Z (aW x) sl) j->aS g P ob j->eB g (λb=>D b∨b∈C) P s P j->(∀H,aT g env D P (iX (U.map aW) B (aK Z (aW x) sl)) H->aS g P ob H->eB g D P s P H->R () H)->ca (cr pw g.w) A (wg ts E) R a9 j:=λL hJ a1 I1 G1 k=>
   ih (λy hy=>hx y (wv _ hy)) hJ (L.ct (PM.le.bQ P) (λY h=>h) λd hd=>(L.ee d hd).elim λp o=>⟨o.nP,λo' e=>G1.cH d o' (.inr hd) e o.nI⟩) a1 I1 λs2 a2 I2 G2=>k s2 a2 I2 ((G1.fN λb h=>.inl h).bD G2)
  cases L with
  |aU=>exact nomatch hl
  |ax r L=>exact gy (ht (sj F (J L.ee) yc a I r λj a1 I1 G1=>S L (n0 hl) a1 I1 G1 k))
  |aX oD hDd L=>exact gy (ht (Lw F (J L.ee) yc (a.fN λb h=>h.elim (λh=>h.imp id (wv _)) λh=>.inr (h▸wf ..)) I (λh=>h.elim oD.nb hDd) oD.nP oD.nL oD.nI oD.eY λj a1 I1 G1=>S L (n0 hl) a1 I1 G1 k))
theorem g9.og(x:g9 g env C P h H I D)(y:g9 g env C P h A E B):(∀b∈H,b∉A)->g9 g env C P h (H++A) (I++E) (D++B):=by
 induction x with
 |aU=>exact λY=>y
 |ax r _ F=>exact λd=>.ax r (F d)
 |aX o J _ F=>exact λd=>.aX o (λL=>(pI.mp L).elim J (d _ (wf ..))) (F λb C=>d b (wv _ C))
theorem g9.acK(x:g9 g env C P h B E A):g9 g env C P h B.reverse E.reverse A.reverse:=by
 induction x with
 |aU=>exact .aU
 |@ax B E A v r H _ F=>
  exact eR wm (eR wm (eL (SZ B.reverse) (F.og (.ax H .aU) λY Y h=>nomatch h)))
 |@aX B E A D p o I _ F=>
  exact eR wm (eR wm (eR wm (F.og (.aX o (λh=>nomatch h) .aU) λb C h=>I (IR.mp h▸M4.mp C))))
theorem adV{E:Type}{F H B C D:an}{n u y:E}{G:E->Prop}(h:D=M->C=M)(A:G n)(I:B=bn->G y):G (if F=M then n else if H=M then n else if B=M then n else if C=M then n else if D=M then u else y):=by
 cases F with
 |true=>exact A
 |false=>
  cases H with
  |true=>exact A
  |false=>
   cases B with
   |true=>exact A
   |false=>
    cases C with
    |true=>exact A
    |false=>
     cases D with
     |true=>exact bY (h N)
     |false=>exact I N
theorem Uj{E F:KF}{env:ln}(H:(!D.all (Mu 8)||D.all (Mv 8))=M):
  FI [.Tuple B k E] (.Tuple D I F) env=re am∨∃A,FI [.Tuple B k E] (.Tuple D I F) env=re (O A)∧A.length=B.length∧A=B.filterMap λ
   |.Name C pos=>if env.kindOf C==O .local&&pos.line==(B.head?.map (·.pos.line)).getD 0 then O C else am
   |_=>am:=by
 unfold FI
 refine adV (G:=λz:wE (im (W f8))=>z=re am∨∃A,z=re (O A)∧A.length=B.length∧A=B.filterMap λ
   |.Name C pos=>if env.kindOf C==O .local&&pos.line==(B.head?.map (·.pos.line)).getD 0 then O C else am
   |_=>am) (λh=>?_) ?_ λJ=>?_
 ·exact (uB.mp H).elim (λq=>by rw [h]at q;exact bY q) id
 ·exact .inl N
 ·exact .inr ⟨_,N,Decidable.byContradiction λq=>jf ((bne_iff_ne.mpr q).symm.trans (YY.mp J).1),N⟩
end
section
variable{g:Gh}{n:X}{d i:na}
structure QE(g:Gh)(d:na)(env:ln)(A:pc)(ts:W kt)(xs:W X)(ys:W f8):Prop where
 eq:xs=ys.map aW
 aX:∀y∈ys,e9 d y=M
 c_:ys.length=ts.length
 Q3:xB g env A ys ((sJ ts env).map (·.2))
 fm:∀(f:kt->im f8),(∀y p u,f (.Name y p)=O u->u=y)->(ts.filterMap f).length=ts.length->ts.filterMap f=ys
theorem aaV:∀{C:W X} {B:W kt},iz C d B=M->∃D,QE g d env A B C D:=λ{C}=>no_implicit_lambda% (cB C (@λB h=>eR (iz.aU h) (zT [] ⟨N,(λY h=>nomatch h),N,.aU,λY Y Y=>N⟩)) λx C H {B} h=>iz.E (G:=λB=>∃D,QE g d env A B (x::C) D) h λy p B I J h=>(H h).elim λD a=>by
  refine (zT (y::D) ⟨by rw [J,a.eq];rfl,λz L=>(wl.mp L).elim (λq=>q▸I) (a.aX z),lc (· +1) a.c_,.bg (λh=>Fw h) a.Q3,λf F E=>?_⟩)
  rw [BH]at E⊢
  cases e:f (.Name y p)with
  |none=>rw [e]at E;exact nw (E▸ZC f B) (YC _)
  |some u=>rw [e]at E;rw [F y p u e];exact lc (y::·) (a.fm f F (n0 E)))
theorem aaW:∀(B:W f8),xB g env A B (B.map λx=>bindName env x):=λB=>cB B .aU λz B C=>.bg (λh=>wpAny_bindName h) (C)
theorem rN.bO(h:rN g n d A B C E):B.length=C.length:=by
 induction h with
 |aU=>rfl
 |bg _ _ _ D=>exact lc (· +1) D
theorem SS.gh(hc:(!m.all (Mu 8)||m.all (Mv 8))=M)(r:m.length≤100)(ht:iz xs d ts=M)(vI:Ca xs=M)(h:rN g n d S xs m ms):
  SS g n d S (.Assign [.Tuple ts k pt] (.Tuple m k2 pe) pos) (.gh xs ms):=by
 refine ⟨?_⟩
 intro A env hb P vs ob s Q F Pv R a I q
 have q:CW (ba g.Φ n) g.Φ S xs ms vs ob λE vs ob=>Q .bp (iX xs E vs) ob:=q
 refine (aaV (g:=g) (env:=env) (A:=A) ht).elim λys j=>?_
 have t:ys.length=m.length:=eL (h.bO ..) (eR (j.eq ..) (eR (sw ..) N))
 have ev:ca (cr pw g.w) A (Fk (.Tuple m k2 pe) env) (λv s2=>∃T E B vs' aN P' U,v=.ref T∧s2.heap.IsTuple T E.toArray∧E.length=m.length∧Q .bp (iX xs B vs') aN∧vo g env hb P s U E B vs' aN P' s2) a9 s:=by
  refine eR (arm_eval_Tuple ..) (gS (dL (ss (h.mT F R a I q) (λE Z D=>D.elim λJ D=>HZ D λB H C l U q1 V=>?_) λY Y f=>f)))
  exact E3 ⟨Z.heap.objs.size,E,B,H,C,l,U,N,cq _ (Ix _ N) N ⟨_,N⟩,J,q1,V.g8 (kK _)⟩ (eR (J ..) (io r (io (by decide) f6)))
 have fin:∀{E:W bm} {B:W cQ} {H:av} {C:ai} {l:PM} {U:W be} {Z:ce} {h':li},vo g env hb P s U E B H C l Z->BD Z.heap.objs.size Z.heap h'->vo g env hb P s U E B H C l {Z with heap:=h'}:=
  λV hE=>V.g8 λb o e=>hE b o (λq=>mF _ (q▸FM e)) e
 refine (Uj (B:=ts) (k:=k) (I:=k2) (E:=pt) (F:=pe) (env:=env) hc).elim (λhw=>?_) λhw=>dk hw λw hw hnl ef=>?_
 ·refine Zz (ss ev (λv Z D=>D.elim λT D=>D.elim λE D=>l_ D λB H C l U ev hT J q1 V=>?_) λY Y f=>f) N hw
  refine eR (ev ..) (eR (arm_assign_Tuple ..) ?_)
  have nm:=KS (env:=env) ht
  refine gS (Kh R.1 (ay T N (.inl hT)) (eR (nm.1 ..) (eR (h.bO ..) (eR (J ..) N))) nm.2 λh' hE=>?_)
  have L:=fin V hE
  exact Ko F Pv j.Q3 j.aX (t.trans J.symm) L.L L.a L.I λs3 a3 I3 G3=>(d6 .bp _ C l q1 .bp (j.eq▸a3) I3 (L.G.eP.bD G3))
 ·have hny:w=ys:=ef.trans (j.fm _ (λy p u e=>by
   dsimp only at e
   by_cases c:(env.kindOf y==O .local&&p.line==(ts.head?.map (·.pos.line)).getD 0)=M
   ·rw [jp c]at e;exact (ii e).symm
   ·rw [f0 c]at e;exact aH e) (ef▸hnl))
  rw [hny]at hw
  refine PyProof.Rows.Assign_Tuple_swapped (names:=ys) (ss ev (λv Z D=>D.elim λT D=>D.elim λE D=>l_ D λB H C l U ev hT J q1 V=>?_) λY Y f=>f) N hw
  refine eR ev (eR (show ys.length=E.toArray.size by rw [wP,t,J]) (wpAny_unpackItems_tuple R.1 hT λh' hE=>?_))
  have L:=fin V hE
  refine (?_:ca _ _ (wg (ys.reverse.map λn=>bindName env n) E.reverse) _ _ _)
  refine Ko F Pv (aaW ys.reverse) (λy hy=>j.aX y (M4.mp hy)) (eR FJ (eR FJ (eR t (eR J N)))) L.L.acK (L.a.fN λb h=>h.imp id λh=>M4.mp h) L.I λs3 a3 I3 G3=>(d6 .bp _ C l q1 .bp (a3.congr λx=>?_) I3 (L.G.eP.bD G3))
  exact eR List.map_reverse (eL j.eq ((VY (oY.of vI (h.bO.trans (J.symm.trans V.L.bO))) x).symm))
end
theorem Kp(h:B≠k):∀{A:W (f8×bm)},Rs (A.map λC=>if C.1=k then(C.1,v)else C) B=Rs A B:=λ{A}=>gV A N λz u r D=>by
  rw [UV,qD]
  by_cases q:z=k
  ·rw [jp (c:=(z,u).1=k) q,qD,f0 (c:=z=B) λe=>h (e.symm.trans q),f0 (c:=z=B) λe=>h (e.symm.trans q)]
   exact D
  ·rw [f0 (c:=(z,u).1=k) q,qD,D]
theorem UI:∀{A:W (f8×bm)},A.any (λB=>B.1=k)=M->Rs (A.map λB=>if B.1=k then(B.1,v)else B) k=O v:=λ{A}=>gV A (λh=>bY h) λz u r C h=>by
  refine eR UV ?_
  by_cases q:z=k
  ·rw [jp (c:=(z,u).1=k) q,qD,jp q]
  ·refine eR (f0 (c:=(z,u).1=k) q) (eR qD (eR (f0 q) ?_))
   rw [ue]at h
   exact C ((uB.mp h).elim (λe=>nw (ut e) q) id)
theorem Kq:∀{A:W (f8×bm)} {u:bm},Rs A k=O u->A.any (λB=>B.1=k)=M:=λ{A}=>no_implicit_lambda% (gV A (@λY h=>aH h) λz u r C {Y} h=>by
  rw [qD]at h
  refine eR ue ?_
  by_cases q:z=k
  ·rw [FB q];rfl
  ·rw [f0 q]at h;rw [C h,ZD])
theorem Va{A:W (f8×bm)}(h:Rs A k=O u):pL A k v=A.map λB=>if B.1=k then(B.1,v)else B:=jp (Kq h)
theorem Bb{A:Type}{x:A}:∀{l:W A} {k:X} {y:A},aY l k=O y->aY (kn l k x) k=O x
 |_::_,0,_,_=>N
 |_::l,k+1,_,h=>Bb (l:=l) (k:=k) h
theorem A8{A:Type}{x:A}:∀{l:W A} {k j:X},j≠k->aY (kn l k x) j=aY l j
 |[],_,_,_=>N
 |_::_,0,0,h=>nw N h
 |_::_,0,_+1,_=>N
 |_::_,_+1,0,_=>N
 |_::l,k+1,j+1,h=>A8 (l:=l) λq=>h (lc (· +1) q)
section
variable{g:Gh}{n:X}{B C:na}
theorem fG.fn(a:fG env h x v)(b:fG env h x u):v=u:=by
 have I:env.kindOf x=O .local->(env.kindOf x=O .cell∨env.kindOf x=O .free)->v=u:=λe h=>by rw [e]at h;exact h.elim (λh=>qW (ii h)) λh=>qW (ii h)
 exact a.elim (λa=>b.elim (λb=>aQ a.2 λm L P=>aQ b.2 λY D E=>ii (P.symm.trans ((congrFun (Ey L D) x).trans E))) λb=>I a.1 b.1) λa=>b.elim (λb=>I b.1 a.1) λb=>aQ a.2 λc R z=>aQ b.2 λZ F J=>by
  rw [←ii (R.symm.trans F)]at J
  exact aQ z λo S U=>aQ J λd H A=>by
   rw [←ii (S.symm.trans H),U]at A
   exact ii (Data.cell.inj A)
structure QF(g:Gh)(env:ln)(hb:be->Prop)(P:PM)(vs:av)(ob:ai)(s s':ce):Prop where
 a:aT g env hb P vs s'
 I:aS g P ob s'
 G:eB g hb P s P s'
theorem aT.Oq{env:ln}{hb:be->Prop}{P:PM}{H E:av}{ob:ai}{s:ce}{x:X}{p:PV}{D:be}{F:li}{tk:X}(a:aT g env hb P H s)(I:aS g P ob s)(e:aG H x=O (.aX p))(l:fG env s.heap (aZ x) (.ref D))(k:∀b o,b≠D->s.heap.get? b=O o->F.get? b=O o)(hO:F.get? D≠am)
  (hv:∀y q,aG E y=O (.ax q)->aG H y=O (.ax q)) (L:∀y q,aG E y=O (.aX q)->(x=y∧dr g P F D q)∨(x≠y∧aG H y=O (.aX q))):QF g env hb P E ob s {s with heap:=F,toks:=tk}:=by
 refine a.gu.elim λad V=>jd (V.aX x p e) λh1 U Z f i h6=>?_
 have j:ad x=D:=Os (h1.fn l)
 rw [j]at U Z f i h6
 have R:∀o,s.heap.get? env.locals=O o->F.get? env.locals=O o:=λo e=>k _ _ (λq=>f q.symm) e
 have S:∀y c o,env.cells.lookup y=O c->s.heap.get? c=O o->F.get? c=O o:=λy c o e h=>k _ _ ((λy c e q=>(a.cj y c e).2.2.elim λu hu=>h6.tb (q▸hu):∀y c,env.cells.lookup y=O c->c≠D) y c e) h
 have d:∀b,s.heap.get? b≠am->F.get? b≠am:=λb A=>by
  by_cases q:b=D
  ·rw [q];exact hO
  ·exact λz=>(lJ.mp A).elim λo w=>aH (z.symm.trans (k b o q w))
 have J:∀y q,aG E y=O (.aX q)->∃m,aG H y=O (.aX m):=λy q h=>(L y q h).elim (λh=>⟨p,h.1▸e⟩) λh=>⟨q,h.2⟩
 refine ⟨⟨λb A=>d b (a.bR b A),Ns.ct a.ns R,a.dq,λy c e=>(bt ((a.cj y c e).1) ((a.cj y c e).2.1) ((a.cj y c e).2.2.elim λu z=>⟨u,aQ z λo L r=>(ay o (S y c _ e L) r)⟩)),ad,λy q e=>aQ (V.ax y q (hv y q e)) λv t j2=>(ay v (t.ct R S) j2),λy q ey=>?_,λy z q r ey ez hyz=>(J y q ey).elim λq1 e1=>(J z r ez).elim λq2 e2=>V.fc y z q1 q2 e1 e2 hyz⟩,I.m_ (· =D) (λb A=>A▸⟨Z,i⟩) (λb o A=>k b o A),⟨PM.le.bQ P,λb o A e Y=>k b o (λq=>U (q▸A)) e,d,λY Y e=>.inl e⟩⟩
 refine (L y q ey).elim (λz=>?_) λz=>jd (V.aX y q z.2) λt j2 j3 j4 j5 j6=>(l9 (t.ct R S) j2 j3 j4 j5 (j6.ct (PM.le.bQ P) λo=>k _ o λm=>z.1 (V.fc x y p q e z.2 (j.trans m.symm))))
 exact eL z.1 (eR j (l9 (l.ct R S) U Z f i z.2))
theorem aT.OZ{env:ln}{F:be->Prop}{P:PM}{A:av}{H:ai}{s:ce}{x:X}{p J:PV}{D:be}{E:li}{R:X}(a:aT g env F P A s)(I:aS g P H s)(e:aG A x=O (.aX p))(l:fG env s.heap (aZ x) (.ref D))(k:∀b o,b≠D->s.heap.get? b=O o->E.get? b=O o)(L:dr g P E D J):
  QF g env F P (aK A x (.aX J)) H s {s with heap:=E,toks:=R}:=
 a.Oq I e l k L.ix (λy q h=>by
  rw [gg]at h
  by_cases z:x=y
  ·rw [jp z]at h;exact cQ.noConfusion (ii h)
  ·rw [f0 z]at h;exact h) λy q h=>by
  rw [gg]at h
  by_cases z:x=y
  ·rw [jp z]at h;exact .inl ⟨z,cQ.aX.inj (ii h)▸L⟩
  ·rw [f0 z]at h;exact .inr ⟨z,h⟩
theorem NN{x y:X}{A:cQ}:∀{l:av},aG (zw l x) y=O A->x≠y∧aG l y=O A:=λ{l}=>gV l (λh=>aH h) λk u r D=>by
  refine eR (i:=λz=>_->_∧z=_) fI ?_
  refine bE (z:=zw ((k,u)::r) x) N (λq h=>?_) λq=>eR fI λh=>?_
  ·have i:=D h
   exact eR (f0 (c:=k=y) λe=>i.1 ((AC q).symm.trans e)) i
  ·by_cases z:k=y
   ·rw [jp z]at h⊢
    exact ⟨λe=>jf (((lc (pi · x) (z.trans e.symm)).trans (Bw x)).symm.trans q),h⟩
   ·rw [f0 z]at h⊢
    exact D h
theorem aS.zj{P:PM}{L:ai}{s:ce}{k:X}{a d:be}{c E:W (X×al)}{F:li}{R:X}(I:aS g P L s)(A:aY g.az k=O (a,d))(f:aY L k=O c)(H:∀b o,b≠d->s.heap.get? b=O o->F.get? b=O o)
  (S:fK g P k a d E F) (h:∀x p,dF g.Φ k x=O p->aG E x=am):aS g P (kn L k E) {s with heap:=F,toks:=R}∧∀U,bW g U P s P {s with heap:=F,toks:=R}:=by
 refine ⟨⟨I.cJ,λb o e=>H b o (λq=>aH ((I.jL _ _ _ A).symm.trans (q▸e))) (I.ag b o e),I.i8,I.os,I.ll,λj b Z J=>?_,λj D e=>?_,I.jL,I.fc⟩,λU=>⟨PM.le.bQ P,λb o e i=>H b o (λq=>i (q▸(dC k a A))) e,λb e=>?_,λY Y e=>.inl e⟩⟩
 ·by_cases q:j=k
  ·rw [q]at J⊢
   have z:=ii (A.symm.trans J)
   exact eL ((Op z).1) (eL ((Op z).2) (cq E (Bb f) S h))
  ·exact eR (A8 q) (dk (I.ah j b Z J) λD l m r=>(cq D l (m.ct (PM.le.bQ P) λo=>H Z o λt=>q (I.fc _ _ _ _ _ _ J A t)) r))
 ·by_cases q:j=k
  ·rw [q];exact (dC _ _ A)
  ·rw [A8 q]at e;exact I.c_ j D e
 ·by_cases q:b=d
  ·rw [q];exact S.ix
  ·exact λz=>(lJ.mp e).elim λo w=>aH (z.symm.trans (H b o q w))
theorem rj.E{F D:ai}{k x:X}{i:al}{G:ai->Prop}(h:rj F k x i=O D)(f:∀A H,aY F k=O A->aG A x=O H->G (kn F k (aK A x i))):G D:=by
 unfold rj at h
 cases e:aY F k with
 |none=>rw [e]at h;exact aH h
 |some A=>
  rw [e]at h
  dsimp only at h
  cases I:aG A x with
  |none=>rw [I]at h;exact aH h
  |some H=>rw [I]at h;exact ii h▸f A H e I
theorem u9.E{D:bA}{F A:ai}{k x:X}{i:al}{G:Prop}(h:u9 D F k x i=O A)(f:dv D k=bn->rj F k x i=O A->G):G:=by
 unfold u9 at h
 cases e:dv D k with
 |true=>rw [e]at h;exact aH h
 |false=>rw [e]at h;exact f e h
theorem NO{E D:ai}{k:X}{A:W (X×al)}{i:al}(F:aY E k=O A)(H:aG A 0=O i)(h:wW E k=O D):D=kn E k (aK A 0 (i+1)):=by
 unfold wW at h
 rw [F,wo,H,wo]at h
 exact rj.E (G:=λD=>D=kn E k (aK A 0 (i+1))) h λJ L I Y=>eR (ii (I.symm.trans F)) N
theorem LD{H:bA}{I:ai}{k:X}{A:W (X×al)}{i:al}{c:PV}(J:aY I k=O A)(h:gW H (kn I k (aK A 0 (i+1))) k=O c):((aY H k).bind λL=>aG L ((i+1).toNat+2))=O c:=
 gW.E h λY E P F D q=>by
  rw [←ii ((Bb J).symm.trans F),gg,jp N]at D
  rw [ii D];exact q
theorem EC{env:ln}{I F:be->Prop}{P H:PM}{L A:av}{s E:ce}{x:X}{D:be}{q:PV}(a:aT g env I P L s)(l:fG env s.heap (aZ x) (.ref D))(G:bW g F P s H E)(R:aT g env I H A E)(e:aG A x=O (.aX q)):fG env E.heap (aZ x) (.ref D)∧dr g H E.heap D q:=
 have J:fG env E.heap (aZ x) (.ref D):=l.ct (λo e=>G.cH _ _ e a.dq.2) λz c o e h=>G.cH _ _ h (a.cj z c e).2.1
 ⟨J,R.gu.elim λU V=>jd (V.aX x q e) λS Y Y Y Y o=>Os (S.fn J)▸o⟩
theorem fK.aK{P:PM}{j:X}{b:be}{E:W (X×al)}{c:X}{i S:al}{U:li}{t:X}{A:W (f8×bm)}(Z:dv g.Φ j=bn)(a:oj j=am)(F:(b==ub)=bn)(d:A.length≤100)(f:∀x p,dF g.Φ j x=O p->∃v,g.F j x=O v∧Rs A (aZ x)=O v)
  (Y:∀x i,aG E x=O i->∃t,Rs A (aZ x)=O (.int i t)) (h:∀x p,dF g.Φ j x=O p->aG E x=am) (H:aG E c=O S) (I:U.DictOf (AT pw g.w) b (pL A (aZ c) (.int i t))):fK g P j b b (Internal.aK E c i) U:=
 (Y c S H).elim λr J=>by
  rw [Va J]at I
  refine .cD _ Z a N F I (eR (sw ..) d) (λx p D=>aQ (f x p D) λv l L=>(ay v l ((Kp λq=>?_).trans L))) λx m D=>?_
  ·exact aH ((h _ _ D).symm.trans ((lc (aG E) (kM q)).trans H))
  ·rw [gg]at D
   by_cases q:c=x
   ·rw [jp q]at D
    exact eL q (eL (ii D) ⟨t,UI (Kq J)⟩)
   ·rw [f0 q]at D
    exact (Y x m D).elim λo R=>⟨o,(Kp λe=>q (kM e).symm).trans R⟩
theorem He.mX{w:lw}{h:li}{a:be}{A:W (f8×bm)}(x:h.DictOf (AT pw w) a A):(A.map (·.1)).Nodup:=cC x λY Y Y z=>z.2.2.2.2.2
theorem SS.mP{mutd:W X}{o kx e:kt}{f pos:KF}{mo mk m:MX}(ho:∀x,mo=.aa x->∃y p,o=.Name y p∧x=aW y∧fv y=M)(Al:SE g n B o mo)(hk:SE g n B kx mk)(he:SE g n B e m):SS g n B mutd (.Assign [.Subscript o kx f] e pos) (.mP mo mk m):=by
 refine ⟨?_⟩
 intro A env hb P vs ob s Q F Pv R a I q
 have hs:yH e (O (.Subscript o kx f)) pos.line env=re bn:=by cases e<;>rfl
 have plain:bB (ba g.Φ n) g.Φ m vs ob (λv vs ob=>bB (ba g.Φ n) g.Φ mo vs ob λo vs ob=>bB (ba g.Φ n) g.Φ mk vs ob λk vs ob=>oO o λj=>oP k λp=>oS (gW g.Φ ob j) λc=>oD c λd=>
   ∃aN,wW ob j=O aN∧gW g.Φ aN j=O (.a8 (fE d p v))∧d.length≤100∧Q .bp vs aN)->ca (cr pw g.w) A (pM (.Assign [.Subscript o kx f] e pos) env) (SP g env hb P s Q) a9 s:=λq=>by
  refine ZE (EP.bJ (he.go F R a I q) λv s1 r bu ob1 P1 q1 a1 I1 x1 G1=>EP.bJ (Al.go F R a1 I1 q1) λov s2 r2 cO cf P2 E a2 I2 x2 G2=>EP.bJ (hk.go F R a2 I2 E) λkv s3 r3 mC iI P3 q3 a3 I3 x3 G3=>x2.oO q3 λj b d0 ev H q3=>x3.oP q3 λp t ek ok q3=>oS.E q3 λc hc q3=>?_) hs
  refine eR ev (eR ek ?_)
  cases c with
  |a8 d=>
   refine dn q3 λaN tM ya D q3=>zY (Cg I3 H hc) λnums i hn hi ht ea hg hO=>dk hO.2 λkvs hD hl J=>?_
   rw [NO hn hi tM]at ya q3
   rw [ea]at H⊢
   refine M5 qF hD (λh' L S=>?_) (eR hl.bO (io J f6))
   have I4:=I3.zj (R:=s3.toks+1) (E:=aK nums 0 (i+1)) H hn (λb o U e=>S.extBut b o U e) (.gD (i+1) (.a8 (fE d p r)) ht N (eR (gg ..) (eR (jp N ..) N)) (LD hn ya) hg (ff hO.1 (cq _ L (hl.Cf (He.mX hD) ok (x1.bU (G2.le.bD G3.le))) (io (A4 d p r) (io (v7 D) (by decide)))))) λx p hx=>by
    unfold dF at hx;rw [ht]at hx;exact aH hx
   exact (d6 .bp _ _ P3 q3 .bp (a3.cv (I4.2 _)) I4.1 ((G1.bD (G2.bD (G3.bD (I4.2 _)))).eP))
  |_=>exact Ps q3
 cases mo with
 |aa x=>
  refine eD (ho x N) λy py eo rY=>?_
  have ny:=f7 rY.2
  have ex:=rY.1
  subst ex
  refine eR eo (ZE (EP.bJ (he.go F R a I q) λv s1 r bu ob1 P1 q1 a1 I1 x1 G1=>Df.E q1 (λd0 Ar q1=>a1.gu.elim λad V=>?_) λj Ar q1=>oN.E q1 λhc q1=>a1.gu.elim λad V=>aQ (V.ax _ _ Ar) λov l1 x0=>?_) (eo▸hs))
  ·have l1:=(V.aX _ _ Ar).1
   have Su:=l1
   rw [ny.1]at Su
   refine um (wI F ny.2.2 Su (EP.bJ (hk.go F R a1 I1 q1) λkv s2 kr cO cf P2 E a2 I2 x2 G2=>?_)) ny.2.1
   revert x2
   refine zL.E (G:=λkr=>ar g.w g.az P2 kv kr->_) E (λd p J hz E x2=>aQ x2.I λt z zo=>?_) λtl J hz E x2=>?_
   ·have o:=EC a1 l1 G2 a2 J
    refine eR z (dk o.2.2 λkvs hD Z D=>M5 qF hD (λh' L S=>?_) (by rw [Z.bO];exact io D f6))
    have T:=a2.OZ (R:=s2.toks+1) (J:=.a8 (fE d p r)) I2 J o.1 (λb o U e=>S.extBut b o U e) (ff o.2.1 (cq _ L (Z.Cf (He.mX hD) zo (x1.bU G2.le)) (io (A4 d p r) (io (v7 hz) (by decide)))))
    exact (d6 .bp _ cf P2 E .bp T.a T.I ((G1.bD G2).eP.bD T.G))
   ·have o:=EC a1 l1 G2 a2 J
    refine dk o.2.2 λkvs hD Z D=>eD (Oc I2.ag x2 hz) λka ks ek ajJ=>?_
    rw [show kvs=[] from Z.I]at hD
    refine eR ek (wpAny_setItem_heap (knd:=E8 (AT pw g.w)) (k:=ks) (YZ (by have:=R.2.2;exact L3 0x2e82fc17411c1e116638 N this)) ajJ (KL hD) (λh' L S=>?_) (Gc _))
    have T:=a2.Oq (E:=zw cO (aW y)) (F:=h') (tk:=s2.toks+(E8 (AT pw g.w)).draws ks) I2 J o.1 (λb o U e=>S.extBut b o U e) (cC L λY Y Y z q=>aH (q.symm.trans z.1)) (λy q h=>(NN h).2) λy q h=>.inr (NN h)
    exact (d6 .bp _ cf P2 E .bp T.a T.I ((G1.bD G2).eP.bD T.G))
  ·rw [ny.1]at l1
   refine um (wI F ny.2.2 l1 (EP.bJ (hk.go F R a1 I1 q1) λkv s2 kr cO cf P2 E a2 I2 x2 G2=>x2.oP E λp t ek ok E=>oL.E E λc ep E=>x1.oI E λi tk ev E=>oS.E E λiI cG E=>u9.E cG λtR cG=>?_)) ny.2.1
   have qx:oj j=am:=by unfold iO at hc;rw [tR]at hc;exact hc
   revert E
   refine rj.E (G:=λiI=>Q .bp cO iI->_) cG λcs i0 hn nK E=>eD x0.I λb d eb H=>dk (I2.ah j b d H) λnums jn hU hf=>?_
   rw [←ii (hn.symm.trans jn)]at hU hf
   refine eR (eb ..) (eR (ek ..) (eR (ep ..) (eR (ev ..) ?_)))
   cases hU with
   |gD _ _ ht=>exact jf (ht.symm.trans tR)
   |ie tab _ _ _ jA=>exact aH (qx.symm.trans jA)
   |cD kvs ht _ ebd DH hD D h1 h2=>
    rw [ebd]at H⊢
    refine M5 qF hD (λh' L S=>?_) (io D (io (by decide) f6))
    have I3:=I2.zj (R:=s2.toks+1) H hn (λb o U e=>S.extBut b o U e) (fK.aK ht qx DH D h1 h2 hf nK L) λx p hx=>eR (gg ..) (eR (f0 (c:=c=x) λe=>aH ((hf _ _ hx).symm.trans (e▸nK)) ..) (hf x p hx))
    exact (d6 .bp _ _ P2 E .bp (a2.cv (I3.2 _)) I3.1 ((G1.bD (G2.bD (I3.2 _))).eP))
 |_=>exact plain q
end
section
open PySem.Builtin PySem.Builtin.ObjectAttr
section
variable{g:Gh}{n:X}{l w:na}
theorem adW{A:pc}{R:Result->ce->Prop}{K:TT}{x C d:be}{m:f8->im bm}{S:W f8}{name:f8}{v:bm}(c:K.In s.heap)(I:InstAt s.heap x U C (O od))(Y:U.dict=O d)(e:s.heap.Ns1 d m)(f:yy m S)(i:S.length≤100)
  (j:Fn K C=M) (o:(clsIn K C).any (·.hasDict)=M) (r:takerIn K C name=O am)
  (h:∀B Z,B.Ns1 d (λy=>if y=name then O v else m y)->ug d s.heap B->R (.ok (.ret .none)) {s with heap:=B,toks:=Z}):mK (cr pw g.w) A (.call (.builtin "object.__setattr__") ⟨[.ref x,.str name Z,v],[]⟩) R s:=by
 refine osa_open c I j r λb=>aQ (any_some o) λcd t F=>?_
 obtain ⟨hx,D,hn, -⟩:=I
 obtain ⟨oc,odi,oda,osl⟩:=U
 dsimp only at D Y
 subst D Y
 refine kS (dL (dL (wpAny_loadPart hx (dL ((looks_clsIn c t).here (eR F (lf (a:=O d) (kS (dL (wpAny_nsSet1 e λB E H=>?_))))))))))
 obtain ⟨oD,esD,epD,J,L,P⟩:=E.count (Within.cons name v f)
 refine dL (wpAny_lookBehind J (by rw [L];exact pastItsLine_dict (io P (eR Da (eR pG (L1 0x205e3a0de380ea3a8ea3a3c2fc11b8 N i))))) ?_)
 exact lf (h B _ E H)
theorem Ef{A:pc}{E:bm->ce->Prop}{K:TT}{x C d:be}{m:f8->im bm}{F:W f8}{name:f8}{Q:UF->ce->Prop}(a:K.In s.heap)(I:InstAt s.heap x H C (O e))(J:H.dict=O d)(L:s.heap.Ns1 d m)(P:yy m F)(R:F.length≤100)
  (S:Wp K (.ref C) "__setattr__" =O (O (.builtin "object.__setattr__"))) (U:Fn K C=M) (Y:hasDictIn K C=M) (Z:Wp K (.ref C) name=O am)
  (h:∀B D,B.Ns1 d (λy=>if y=name then O v else m y)->ug d s.heap B->Q () {s with heap:=B,toks:=D}):ca (cr pw g.w) A (setAttr (.ref x) name v) Q E s:=
 set_plain a I S (adW (s:={s with toks:=s.toks+1}) a I J L P R U Y (by unfold takerIn;rw [Z];rfl) λB D b c=>h B D b c)
theorem VZ(h:yy m B)(e:m name=O u):yy (λy=>if y=name then O v else m y) B:=λy A=>by
 by_cases q:y=name
 ·rw [q];exact h name λz=>aH (z.symm.trans e)
 ·dsimp only at A;rw [f0 q]at A;exact h y A
theorem fK.Dg{P:PM}{j c:X}{b d:be}{D:W (X×al)}{i J:al}{t:X}{o:Db}{m:f8->im bm}{B:W (X×X)}(F:aZ c=x)(S:dv g.Φ j=bn)(U:oj j=O B)(Y:P b=O o)(Z:o.cls=.ref (gT j))(a:notCls o=M)(h:o.dict=O d)
  (r:∀x p,dF g.Φ j x=O p->∃v,g.F j x=O v∧m (aZ x)=O v) (L:∀x i,aG D x=O i->∃t,m (aZ x)=O (.int i t)) (R:∀x f,aG B x=O f->m (aZ x)=am) (s:yy m ((si j).map aZ)) (hf:∀x p,dF g.Φ j x=O p->aG D x=am) (E:aG D c=O J)
  (hn:h'.Ns1 d (λy=>if y=x then O (.int i t)else m y)):fK g P j b d (Internal.aK D c i) h':=
 (L c J E).elim λt0 C=>by
  rw [F]at C
  refine .ie B o _ S U Y Z a h hn (λy p A=>aQ (r y p A) λv hv H=>(ay v hv ((f0 λq=>?_).trans H))) (λy i' A=>?_) (λy f A=>(f0 λq=>aH ((R y f A).symm.trans ((lc m q).trans C))).trans (R y f A)) (VZ s C)
  ·exact aH ((hf _ _ A).symm.trans ((lc (aG D) (kM (q.trans F.symm))).trans E))
  ·rw [gg]at A
   by_cases q:c=y
   ·rw [jp q]at A
    exact eL q (eL (ii A) ⟨t,jp F⟩)
   ·rw [f0 q]at A
    exact (L y i' A).elim λt' I=>⟨t',(f0 λe=>q (kM (F.trans e.symm))).trans I⟩
theorem ED:∀k,((si k).map aZ).length≤100
 |0|1|_+2=>ww N
theorem SS.eH(B:cI g){f:W X}(ha:fv a=M)(ho:SE g n l o mo)(he:SE g n l e m):SS g n l f (.Assign [.Attribute o a y] e pos) (.eH mo (aW a) m):=by
 refine ⟨?_⟩
 intro A env hb P vs ob s Q F Pv R ac I q
 have e1:=(f7 ha).1
 have hs:yH e (O (.Attribute o a y)) pos.line env=re bn:=by cases e<;>rfl
 refine FK (EP.bJ (he.go F R ac I q) λv s1 r bu ob1 P1 q1 a1 I1 x1 G1=>EP.bJ (ho.go F R a1 I1 q1) λov s2 r2 cO cf P2 D a2 I2 x2 G2=>x2.oO D λj b d eb L D=>x1.oI D λi t ev D=>oS.E D λtab hc D=>oT.E D λhf D=>oS.E D λiI U D=>u9.E U λH U=>?_) hs
 revert D
 refine rj.E (G:=λiI=>Q .bp cO iI->_) U λcs i0 hn nK D=>rF (y5 I2 hc L) λY ox od Y Y S hP Y=>dk (I2.ah j b d L) λnums jn hU E=>?_
 rw [←ii (hn.symm.trans jn)]at hU E
 have jB:=(t8 hc).2
 have C:=zA jB g.w.params
 have J:=C.jj _ hf
 rw [e1]at J
 refine eR (eb ..) (eR (ev ..) ?_)
 cases hU with
 |gD _ _ ht=>exact jf (ht.symm.trans H)
 |cD _ _ Z=>exact aH (Z.symm.trans jB)
 |ie DT o1 m1 _ Z j1 j2 j3 j4 j5 j6 j7 j8 j9=>
  have eo:=ii (hP.symm.trans j1)
  refine Ef (I2.oU B) S.vf S.cD j5 j9 (ED _) C.sa C.bK C.a8 J λh' tk nR fq=>?_
  have I3:=I2.zj (R:=tk) L hn (λb o hb' e=>fq.extBut b o hb' e) (fK.Dg e1 H Z j1 j2 j3 j4 j6 j7 j8 j9 E nK nR) λx p hx=>eR (gg ..) (eR (f0 (c:=aW a=x) λe=>aH ((E _ _ hx).symm.trans (e▸nK)) ..) (E x p hx))
  exact (d6 .bp _ _ P2 D .bp (a2.cv (I3.2 _)) I3.1 ((G1.bD (G2.bD (I3.2 _))).eP))
end
end
section
variable{g:Gh}{n:X}{i c:na}
noncomputable def sY(g:Gh)(P:PM)(D:be)(s:ce)(C:PV)(Q:bm->ce->Prop):Prop:=
 ∀A E B,dr g P A D C->(∀b o,b≠D->s.heap.get? b=O o->A.get? b=O o)->Q B {s with heap:=A,toks:=E}
theorem K4(A:sK bm)(n:X):∃k,lL f (fM A n)=fM (f A) k:=⟨_,N⟩
theorem xa.E{l:W PV}{G:PV->PV->Prop}(h:xa l u=O v)(f:∀r,l.length+r.length≤4000->G (.aj r) (.aj (l++r))):G u v:=by
 cases u<;>first|exact aH h|exact gd.E h λa b=>ii b▸f _ (ww a)
theorem xc.E{d:W (PS×PV)}{G:PV->PV->Prop}(h:xc d u=O v)(f:∀r A,d.length+r.length≤4000->jG r d=O A->G (.aj r) (.a8 A)):G u v:=by
 cases u<;>first|exact aH h|exact gd.E h λa b=>aQ (On.mp b) λA e q=>q▸f _ A (ww a) e
theorem xb.E{l:W PV}{G:W PV->PV->PV->Prop}(h:xb l u=O v)(f:∀p r,lS r=M->G (.ae p::r) (.ae p) (.aj r)):G l u v:=by
 cases l with
 |nil=>exact aH h
 |cons a r=>cases a<;>first|exact aH h|(cases u<;>first|exact aH h|exact gd.E h λa b=>B2 a λA B=>ii b▸ut A▸f _ _ B)
theorem V0(o:dr g P s.heap D (.aj l))(r:ar g.w g.az P E u)(B:gd (u8 l.length 4000) (O (PV.aj (l++[u])))=O I)(J:sY g P D s I Q):ca (cr pw g.w) A (po (.builtin "list.append") [.ref D,E]) Q a9 s:=
 gd.E B λL B=>bX o λF k R H S=>MY (items:=F.toArray) ⟨k,R⟩ (λU C Y=>C.elim λZ C=>J U s.toks _ (ii B▸(d_ (F++[E]) Z (eR (C ..) (eR (MZ ..) N)) (H.og (.bg r .aU)) (by
  rw [xz];exact io (v7 (ww L)) (by decide)))) λb o a e=>Y.extBut b o a e) (eR wP (eR H.bO (io S f6)))
theorem V1(Z:P.ag s.heap)(o:dr g P s.heap D (.aj l))(r:ar g.w g.az P R u)(a:xa l u=O F)(H:sY g P D s F Q):ca (cr pw g.w) A (po (.builtin "list.extend") [.ref D,R]) Q a9 s:=by
 revert r H
 refine xa.E (G:=λu F=>ar g.w g.az P R u->sY g P D s F Q->_) a λd I r H=>bX o λB k J S h=>cw r.I λb C j m t U hn=>eR m ?_
 have L:B.toArray.size=l.length:=eR wP (eR S.bO N)
 have Y:C.toArray.size=d.length:=eR wP (eR U.bO N)
 refine yJ (M6 M7.plain PySem.F.entry_list_extend (M7.check _ _ _ _ _ _ _ _ (ay _ J N) (PySem.F.args_list_extend_2 _ _) ?_))
 refine AutoSeq1.list_extend_list_list_0 D B.toArray k b C.toArray j ?_ (eR L (io h (by decide))) (eR L (eR Y (io I (by decide)))) pw g.w A (wants Q a9) s (bt J (Z _ _ t) ((K4 (f:=λx=>x++C.toArray) B.toArray k).elim λw E=>?_))
 ·have:Builtin.List.listTooLong (B.toArray.size+C.toArray.size)=bn:=EQ (by rw [L,Y];have:=f6;exact FL (L3 0x1341ce09a5906e1b86e90738 N I this))
  rw [this,Bool.and_false];exact MR
 ·refine H _ _ _ (d_ (B++C) w ?_ (S.og U) (eR xz (io I (by decide)))) λb o y e=>(yL _ _ _ _ y).trans e
  exact eR (yE _ J (by rw [E];rfl) ..) (eR (E ..) (eR (List.append_toArray ..) N))
theorem kN.af(x:kN h A B)(m:Ev D∈A):∃C n,h.get? D=O (f_ C n):=by
 induction x with
 |aU=>exact nomatch m
 |bg e _ E=>exact (wl.mp m).elim (λq=>(dC _ _ (Os q▸e))) E
theorem V3(f:A.handled=am)(S:P.ag s.heap)(h:P D=am)(o:dr g P s.heap D (.a8 d))(r:ar g.w g.az P U u)(j:xc d u=O F)(H:sY g P D s F Q):ca (cr pw g.w) A (po (.builtin "dict.update") [.ref D,U]) Q a9 s:=by
 revert r H
 refine xc.E (G:=λu F=>ar g.w g.az P U u->sY g P D s F Q->_) j λrs d' l Y r H=>dk o.2 λm C B E=>cw r.I λb ws k2 t Z e w=>dk (Ew S e Y B (He.mX C)) λy I p2 p3=>eR t (yJ (M6 M8.plain PySem.F.entry_dict_update (M8.check _ _ _ _ _ _ _ _ C.typeIs (PySem.F.args_dict_update_2 _ _) ?_)))
 unfold Builtin.«dict.update»
 refine dL ?_
 unfold Y9
 refine dL (Y' C.typeIs (?_:ca _ _ (re (D,[Ev b])) _ _ _))
 refine lf (JY (A:=A) (R:=wants Q a9) (L:=.none) f (S _ _ Z) (λq=>aH (h.symm.trans (q▸Z))) C I (λa J q=>fP (I.af (q▸J)) λvs' n' e2=>cC C λo es ep z=>?_) (eR B.bO (eR I.bO (eR e.bO (io (yl E w) (by decide))))) λh' tk L k'=>H h' tk _ (ff o.1 (cq _ L p2 (io (D0 Y) (io l (by decide))))) k')
 exact Fh (z.2.2.1.symm.trans (lc Obj.data (ii (z.1.symm.trans e2))))
noncomputable def O0(x:f8):bm->an
 |.str a _=>a==x
 |_=>bn
theorem lS.E{p:PV}{l:W PV}{G:PV->Prop}(h:lS (p::l)=M)(f:∀q,lS l=M->G (.ae q)):G p:=by
 cases p<;>first|exact bY h|exact f _ h
theorem V4{A:W (be×be)}:∀{l:W PV} {B:W bm},bH w A P B l->lS l=M->∀y∈B,MeetsSeq.EqGives y (.str x t) (O0 x y):=λ{l}=>no_implicit_lambda% (cB l (@λB r Y y C=>by rw [show B=[] from r.I]at C;exact nomatch C) λp l E {B} r h y C=>bX r.I λv J q D F=>by
  rw [q]at C
  revert D
  exact lS.E (G:=λp=>ar w A P v p->_) h λp H D=>aQ D.I λL I Y=>(wl.mp C).elim (λe=>eR e (eR I (eqGives_str _ _ _ _))) (E F H y))
theorem V5(o:dr g P s.heap D (.aj l))(r:ar g.w g.az P S u)(d:xb l u=O H)(I:sY g P D s H Q):ca (cr pw g.w) A (po (.builtin "list.remove") [.ref D,S]) Q a9 s:=by
 revert o r I
 refine xb.E (G:=λl u H=>dr g P s.heap D (.aj l)->ar g.w g.az P S u->sY g P D s H Q->_) d λp j w o r I=>bX o λJ k F U Z=>aQ r.I λt ev Y=>bX U.I λv0 C e0 r1 a=>aQ r1.I λL R Y=>?_
 have B:=V4 (x:=dJ p) (t:=t) (U:bH g.w g.az P J (.ae p::j)) w
 rw [e0,R]at F B
 refine eR ev ((K4 (f:=λx=>x.eraseIdxIfInBounds 0) (By (dJ p) L::C).toArray k).elim λk2 E=>?_)
 refine call_meets ZF (ay _ F N) PySem.F.entry_list_remove (PySem.F.args_list_remove_2 _ _)
  (MeetsSeq.list_remove D (By (dJ p) L::C).toArray k (.str (dJ p) t) (O0 (dJ p)) (λy hy=>B y (by simpa using hy)) 0 (by simp) (ZG (dJ p)) (λm hm h=>nw h (uC _)) (eR wP (eR Da (eR a.bO (io Z f6))))) ⟨F,?_⟩
 refine I _ s.toks _ (d_ C k2 ?_ a (io (Fe _) Z)) λb o hb e=>(yL _ _ _ _ hb).trans e
 exact eR (yE _ F (by rw [E];rfl)) (eR E (eR (show(By (dJ p) L::C).toArray.eraseIdxIfInBounds 0=C.toArray from M9.mp (by simp)) N))
end
@[reducible]noncomputable def o1(A:W PV)(K:PV->Prop):Prop:=match A with
 |[u]=>K u
 |_=>wn
theorem o1.E{A:W PV}{K:PV->Prop}{G:Prop}(h:o1 A K)(f:∀u,A=[u]->K u->G):G:=by
 rcases A with _|⟨u,_|_⟩
 ·exact h.elim
 ·exact f u N h
 ·exact h.elim
theorem bH.aq{G:Prop}(x:bH w B P A [u])(f:∀v,A=[v]->ar w B P v u->G):G:=
 bX x.I λv E q C D=>f v (q.trans (lc (v::·) D.I)) C
theorem tG.E{K:W PV->Prop}{G:PV->Prop}(h:tG v K)(f:∀l,K l->G (.aj l)):G v:=by
 cases v<;>first|exact h.elim|exact f _ h
theorem Xa{v u A:PV}{G:PV->Prop}(h:mQ uI v u=O A)(f:∀l,gd (u8 l.length 4000) (O (PV.aj (l++[u])))=O A->G (.aj l)):G v:=by
 cases v<;>first|exact aH h|exact f _ h
theorem Xb{v u A:PV}{G:PV->Prop}(h:mQ yQ v u=O A)(f:∀l,xa l u=O A->G (.aj l)):G v:=by
 cases v<;>first|exact aH h|exact f _ h
theorem Xc{v u A:PV}{G:PV->Prop}(h:mQ yS v u=O A)(f:∀l,xb l u=O A->G (.aj l)):G v:=by
 cases v<;>first|exact aH h|exact f _ h
theorem Xd{v u A:PV}{G:PV->Prop}(h:mQ yR v u=O A)(f:∀l,xc l u=O A->G (.a8 l)):G v:=by
 cases v<;>first|exact aH h|exact f _ h
theorem zx.E{m:X}{G:X->PV->Prop}(h:zx m v=M)(A:∀l,G uI (.aj l))(B:∀l,G yQ (.aj l))(C:∀l,G yS (.aj l))(D:∀l,G yR (.a8 l)):G m v:=by
 cases v with
 |aj l=>exact (uB.mp h).elim (λh=>(uB.mp h).elim (λh=>AC h▸A l) λh=>AC h▸B l) λh=>AC h▸C l
 |a8 d=>exact AC h▸D d
 |_=>exact bY h
theorem dh.Cz(F:dh env A):interactive env=bn:=by
 unfold interactive
 rw [F.km];rfl
theorem tA.E{G:Prop}(h:tA A x=O v)(f:aG A x=O (.aX v)->G):G:=by
 unfold tA at h
 cases e:aG A x with
 |none=>rw [e]at h;exact aH h
 |some s=>
  rw [e]at h
  cases s with
  |aX p=>exact f (ii h▸e)
  |ax p=>exact aH h
section
variable{g:Gh}{n:X}{w y:na}
theorem aaX.E{G:Prop}(q:cY C D F (.gq x m e) A B Q)
  (I:∀H,aG A x=O (.aX H)->zx m H=M->(bB C D e A B λu A B=>oS (tA A x) λv=>oS (mQ m v u) λJ=>Q .bp (aK A x (.aX J)) B)->G)
  (L:(bB C D (.au (.aa x) m [e]) A B λY A B=>Q .bp A B)->G):G:=by
 conv at q=>whnf
 cases e:aG A x with
 |none=>rw [e]at q;exact q.elim
 |some s=>
  rw [e]at q
  cases s with
  |aX v=>exact oT.E q λa b=>I v e a b
  |ax v=>exact L q
theorem Bc{env:ln}{hb:be->Prop}{P:PM}{E:ai}{Q:Fl->av->ai->Prop}{xp d c pos:KF}{f:MX}{T i:IN}(F:dh env w)(R:eW A n)(a:aT g env hb P B s)(I:aS g P E s)
  (hx:e9 w x=M) (h3:(d.endLine==c.line)=M) (h:dD g n w [e] [f]) (l0:fG env s.heap (aZ (aW x)) (.ref D))
  (q:bB (ba g.Φ n) g.Φ f B E λu B E=>oS (tA B (aW x)) λv=>oS (mQ (aW m) v u) λH=>Q .bp (aK B (aW x) (.aX H)) E)
  (hT:s.TypeIs (.ref D) T) (pa:PlainAttrs T) (sl:Fo T m i) (ty:Bt (.builtin i)=re (.type "method_descriptor")) (hd:∃o,s.heap.get? D=O o∧o.dict=am)
  (J:∀{C:PM} {U:ce} {v u H:PV} {j:bm} {Q2:bm->ce->Prop},C.ag U.heap->C D=am->dr g C U.heap D v->ar g.w g.az C j u->mQ (aW m) v u=O H->sY g C D U H Q2->ca (cr pw g.w) A (po (.builtin i) [.ref D,j]) Q2 a9 U):
  ca (cr pw g.w) A (pM (.Expr (.Call (.Attribute (.Name x xp) m d) [e] [] c) pos) env) (SP g env hb P s Q) a9 s:=by
 have l:=f7 (Ec F hx).2
 have Z:=l0
 rw [l.1]at Z
 refine FN ?_ F.Cz N
 refine eR (Fp ..) (eR (yj (by rfl) ..) (dL (um (wI F l.2.2 Z (gS ?_)) l.2.1)))
 have b:ur M (.Name x xp) env d c=re c:=by unfold ur;simp [h3]
 unfold Fq
 refine eR (Ex h (show 1<20 by decide)) (gy (Fs hT pa sl ty (λa e=>Os e▸hd) (dL (sH b ?_))))
 have q':dP (ba g.Φ n) g.Φ [f] B E λus B E=>o1 us λu=>oS (tA B (aW x)) λv=>oS (mQ (aW m) v u) λH=>Q .bp (aK B (aW x) (.aX H)) E:=q
 refine Ft h.bK (tY h.bK (lq.bJ (h.mT F R a I q') λbC U us cO r C L t I2 x2 G2=>o1.E L λu eu L=>oS.E L λv hv L=>oS.E L λH hc L=>bH.aq (eu▸x2) λj ev r1=>tA.E hv λS=>?_))
 refine eR ev ?_
 have o:=EC a l0 G2 t S
 have nP:C D=am:=t.gu.elim λad V=>jd (V.aX _ v S) λl2 Y nP Y Y Y=>Os (l2.fn o.1)▸nP
 refine J I2.ag nP o.2 r1 hc λh' tk res o3 k3=>?_
 have T:=t.OZ (R:=tk) I2 S o.1 k3 o3
 exact (d6 .bp _ r C L .bp T.a T.I (G2.eP.bD T.G))
theorem LF:aZ uI="append" :=by decide+kernel
theorem Xe:aZ yQ="extend" :=by decide+kernel
theorem Xf:aZ yS="remove" :=by decide+kernel
theorem Xg:aZ yR="update" :=by decide+kernel
theorem SS.gq{J:W X}(f:SE g n w (.Call (.Attribute (.Name x xp) m ap) [e] [] cp) (.au (.aa (aW x)) (aW m) [me]))(S:e9 w x=M)(hm:fv m=M)(U:(ap.endLine==cp.line)=M)(h:dD g n w [e] [me]):
  SS g n w J (.Expr (.Call (.Attribute (.Name x xp) m ap) [e] [] cp) pos) (.gq (aW x) (aW m) me):=by
 refine ⟨?_⟩
 intro A env hb P i ob s Q F Pv R a I q
 have Z:=(f7 hm).1
 refine aaX.E q (λj t hmo q=>?_) λq=>FN (EP.bJ (f.go F R a I q) λv s1 r bu ob1 P1 q1 a1 I1 x1 G1=>(d6 .bp bu ob1 P1 q1 .bp a1 I1 G1.eP)) F.Cz N
 refine a.gu.elim λad V=>jd (V.aX _ j t) λb Y Y Y Y o0=>?_
 refine zx.E (G:=λmc j=>aW m=mc->dr g P s.heap (ad (aW x)) j->_) hmo (λl D o=>bX o λi k E Y Y=>by
  have C:m=("append" :f8):=Z.symm.trans ((lc aZ D).trans LF)
  subst C
  refine Bc F R a I S U h b q (ay _ E N) BB ZH ZJ (ay _ E N) λL c o r B H=>?_
  rw [D]at B
  revert o
  exact Xa (G:=λv=>dr g _ _ _ v->_) B λl B o=>V0 o r B H) (λl D o=>bX o λi k E Y Y=>by
  have C:m=("extend" :f8):=Z.symm.trans ((lc aZ D).trans Xe)
  subst C
  refine Bc F R a I S U h b q (ay _ E N) BB M7 PySem.F.type_list_extend (ay _ E N) λL c o r B H=>?_
  rw [D]at B
  revert o
  exact Xb (G:=λv=>dr g _ _ _ v->_) B λl B o=>V1 L o r B H) (λl D o=>bX o λi k E Y Y=>by
  have C:m=("remove" :f8):=Z.symm.trans ((lc aZ D).trans Xf)
  subst C
  refine Bc F R a I S U h b q (ay _ E N) BB ZF PySem.F.type_list_remove (ay _ E N) λL c o r B H=>?_
  rw [D]at B
  revert o
  exact Xc (G:=λv=>dr g _ _ _ v->_) B λl B o=>V5 o r B H) (λd D o=>o.2.elim λkvs z=>by
  have E:=z.1
  have C:m=("update" :f8):=Z.symm.trans ((lc aZ D).trans Xg)
  subst C
  refine Bc F R a I S U h b q E.typeIs Zh M8 PySem.F.type_dict_update (cC E λo es ep z=>(ay o z.1 z.2.1.2.1)) λL c o r B H=>?_
  rw [D]at B
  revert o
  exact Xd (G:=λv=>dr g _ _ _ v->_) B λl B o=>V3 R.1 L c o r B H) N o0
theorem SS.tf{L:W X}{f m:f8}{e:kt}(hm:fv m=M)(h3:(ap.endLine==cp.line)=M)(ho:SE g n w (.Attribute o f fp) mo)(h:dD g n w [e] [me]):
  SS g n w L (.Expr (.Call (.Attribute (.Attribute o f fp) m ap) [e] [] cp) pos) (.tf mo (aW m) me):=by
 refine ⟨?_⟩
 intro A env hb P S E s Q F Pv R a I q
 have q:oT (pi (aW m) uI) (bB (ba g.Φ n) g.Φ mo S E λo S E=>oO o λj=>oS (gW g.Φ E j) λc=>tG c λY=>dP (ba g.Φ n) g.Φ [me] S E λus S E=>o1 us λu=>oS (gW g.Φ E j) λc=>tG c λl=>
  ∃C,wW E j=O C∧gW g.Φ C j=O (.aj (l++[u]))∧l.length≤100∧Q .bp S C):=q
 refine oT.E q λec q=>?_
 have jo:m=("append" :f8):=(f7 hm).1.symm.trans ((lc aZ (AC ec)).trans LF)
 subst jo
 refine FN ?_ F.Cz N
 refine eR (Fp ..) (eR (yj (by rfl) ..) (dL (EP.bJ (ho.go F R a I q) λov s1 r1 bu ob1 P1 H a1 I1 x1 G1=>gS ?_)))
 have U:ur M (.Attribute o f fp) env ap cp=re cp:=by unfold ur;simp [h3]
 unfold Fq
 refine eR (Ex h (show 1<20 by decide)) (x1.oO H λj b d eb D H=>oS.E H λc0 J H=>eR eb ?_)
 revert J
 refine tG.E (G:=λc0=>gW g.Φ ob1 j=O c0->_) H λl0 H J=>zY (Cg I1 D J) λalm i0 Y Y Y ed Y hO=>bX hO λvs0 k0 hD Y Y=>?_
 rw [ed]at D⊢
 refine gy (Fs (ay _ hD N) BB ZH ZJ (λa e=>Os e▸(ay _ hD N)) (dL (sH U (Ft h.bK (tY h.bK (lq.bJ (h.mT F R a1 I1 H) λbC s2 us cO cf P2 B a2 I2 x2 G2=>o1.E B λu eu B=>oS.E B λc hc B=>bH.aq (eu▸x2) λuv ev r1=>?_))))))
 refine eR ev ?_
 revert hc
 refine tG.E (G:=λc=>gW g.Φ cf j=O c->_) B λl B hc=>dn B λC tM Z r B=>zY (Cg I2 D hc) λt i hn hi ht Y hg hO=>bX hO λws k2 h1 h2 h3=>?_
 rw [NO hn hi tM]at Z B
 refine MY (items:=ws.toArray) ⟨k2,h1⟩ (λh' hp hs=>hp.elim λk' hp=>?_) (eR wP (eR h2.bO (io h3 f6)))
 have I4:=I2.zj (R:=s2.toks) (E:=aK t 0 (i+1)) D hn (λb' o hb' e=>hs.extBut b' o hb' e) (.gD (i+1) (.aj (l++[u])) ht N (eR (gg ..) (eR (jp N ..) N)) (LD hn Z) hg (d_ (ws++[uv]) k' (eR (hp ..) (eR (MZ ..) N)) (h2.og (.bg r1 .aU)) (by
  rw [xz];exact io (v7 r) (by decide)))) λx p hx=>by unfold dF at hx;rw [ht]at hx;exact aH hx
 exact (d6 .bp _ _ P2 B .bp (a2.cv (I4.2 _)) I4.1 ((G1.bD (G2.bD (I4.2 _))).eP))
theorem SS.w'{B:W X}{a b:W sB}{S:MX}{U Z:W MS}(ht:ST g n w t S)(ha:lx g n w B a U)(hb:lx g n w B b Z):SS g n w B (.If t a b p) (.w' S U Z):=by
 refine ⟨?_⟩
 intro A env hb' P J C s Q F Pv R ac I q
 have q:bB (ba g.Φ n) g.Φ S (dW J) C λv Y C=>oB v λc=>bif c then fy (ba g.Φ n) g.Φ B U J C Q else fy (ba g.Φ n) g.Φ B Z J C Q:=q
 refine xk (ac.dW I) λPl le f j D E H=>eR (arm_exec_If ..) (gS (dL (BP.bJ (ht.go F R (ac.rr le j D E) f q λr J C h=>oB.oV h) λc s2 cO o P2 q2 a2 I2 G2=>dn (H P2 s2 o I2 G2) λP' I' L Y Y=>?_)))
 cases c with
 |true=>exact SP.aO (L.cJ ac.bR).eP (ha.go F Pv R (ac.cv L) I' q2)
 |false=>exact SP.aO (L.cJ ac.bR).eP (hb.go F Pv R (ac.cv L) I' q2)
theorem SS.vd{B:W X}{E:W sB}{mt:MX}{mb:W MS}(ht:ST g n w t mt)(hb:lx g n w B E mb):SS g n w B (.While t E [] pos) (.vd mt mb):=by
 refine ⟨?_⟩
 intro A env H P D C s Q F Pv R a I q
 let T:av->ai->(an->ai->Prop)->Prop:=λD C R=>bB (ba g.Φ n) g.Φ mt (dW D) C λv Y C=>oB v λb=>R b C
 let U:av->ai->Nx->Rt->Prop:=λD C c R=>nc (ba g.Φ n) g.Φ B mb D C c R
 refine wpAny_While (codeAny_whileLoop (λk s'=>∃J L S,Pt T U k J L Q∧aT g env H S J s'∧aS g S L s'∧eB g H P s S s') (λk s' z=>cw z λbu ob1 P1 q1 Z I1 G1=>?_) 10 (gB D C P q a I (.bQ ..)))
 cases k with
 |zero=>exact q1.elim
 |succ k=>
  refine xk (Z.dW I1) λPl le jl own j o back=>ss (ht.go F R (Z.rr le own j o) jl q1 λr D C h=>oB.oV h) (λb s2 z=>cw z λcO cf P2 q2 a2 I2 G2=>dn (back P2 s2 cf I2 G2) λS I' G' Y Y=>?_) λY Y f=>f.elim
  have G3:=G1.bD (G'.cJ Z.bR).eP
  cases b with
  |false=>exact FF (d6 .bp bu cf S q2 .bp (Z.cv G') I' G3)
  |true=>
   refine ss (hb.go (Q:=λf D C=>match f with|.bp=>Pt T U k D C Q|.aB x=>Q (.aB x) D C) F Pv R (Z.cv G') I' q2) (λf s3 z=>rG z λfl mC iI P3 q3 fr a4 I4 G4=>?_) λY Y f=>f.elim
   cases fr with
   |bp=>exact (ay k (uz k) (gB mC iI P3 q3 a4 I4 (G3.bD G4)))
   |aB hr=>exact (d6 (.aB _) mC iI P3 q3 (.aB hr) a4 I4 (G3.bD G4))
end
theorem C3{A B C:an}{G:Prop}(h:(A&&(B&&C))=M)(k:A=M->B=M->C=M->G):G:=B2 h λD h=>B2 h λE F=>k D E F
theorem C4{A B C D:an}{G:Prop}(h:(A&&(B&&(C&&D)))=M)(k:A=M->B=M->C=M->D=M->G):G:=B2 h λE h=>B2 h λF h=>B2 h λH I=>k E F H I
theorem C5{A B C D E:an}{G:Prop}(h:(A&&(B&&(C&&(D&&E))))=M)(k:A=M->B=M->C=M->D=M->E=M->G):G:=B2 h λF h=>B2 h λH h=>B2 h λI h=>B2 h λJ L=>k F H I J L
theorem C6{G:Prop}(h:(A&&(B&&(C&&(D&&(E&&F)))))=M)(k:A=M->B=M->C=M->D=M->E=M->F=M->G):G:=B2 h λH h=>B2 h λI h=>B2 h λJ h=>B2 h λL h=>B2 h λP R=>k H I J L P R
theorem C7{G:Prop}(h:(A&&(B&&(C&&(D&&(E&&(F&&H))))))=M)(k:A=M->B=M->C=M->D=M->E=M->F=M->H=M->G):G:=B2 h λI h=>B2 h λJ h=>B2 h λL h=>B2 h λP h=>B2 h λR h=>B2 h λS U=>k I J L P R S U
theorem C8{G:Prop}(h:(A&&(B&&(C&&(D&&(E&&(F&&(H&&I)))))))=M)(k:A=M->B=M->C=M->D=M->E=M->F=M->H=M->I=M->G):G:=B2 h λJ h=>B2 h λL h=>B2 h λP h=>B2 h λR h=>B2 h λS h=>B2 h λU h=>B2 h λY Z=>k J L P R S U Y Z
theorem C9{G:Prop}(h:(A&&(B&&(C&&(D&&(E&&(F&&(H&&(I&&J))))))))=M)(k:A=M->B=M->C=M->D=M->E=M->F=M->H=M->I=M->J=M->G):G:=B2 h λL h=>B2 h λP h=>B2 h λR h=>B2 h λS h=>B2 h λU h=>B2 h λY h=>B2 h λZ h=>B2 h λa b=>k L P R S U Y Z a b
theorem C10{G:Prop}(h:(A&&(B&&(C&&(D&&(E&&(F&&(H&&(I&&(J&&L)))))))))=M)(k:A=M->B=M->C=M->D=M->E=M->F=M->H=M->I=M->J=M->L=M->G):G:=B2 h λP h=>B2 h λR h=>B2 h λS h=>B2 h λU h=>B2 h λY h=>B2 h λZ h=>B2 h λa h=>B2 h λb h=>B2 h λc d=>k P R S U Y Z a b c d
theorem g6.Q{f:X}{C:na}{e:kt}(h:g6 f C e=M):∃x A B p,e=.Call (.Name x A) B [] p∧gU C x=M∧aW x=f:=
 C4 h λD E F H=>cC (dH D) λI B p q=>by
  subst q
  exact fP (dH E) λx A q=>(zV x A B p (lc (λf=>ZK f B [] p) q) (by
   have q:I=.Name x A:=q
   subst q
   exact ⟨F,AC H⟩))
theorem qr.Q{m:X}{e:kt}(h:qr m e=M):∃o x A B p,e=.Call (.Attribute o x A) B [] p∧uN o=M∧fv x=M∧aW x=m∧(A.endLine==p.line)=M:=
 C6 h λC D E F H I=>cC (dH C) λJ B p q=>by
  subst q
  refine cC (dH D) λo x A q=>⟨o,x,A,B,p,lc (λf=>ZK f B [] p) q,?_⟩
  have q:J=.Attribute o x A:=q
  subst q
  exact (HV E F (AC H) I)
theorem vi(h:pi (A.length+1) (n+2)=M):∃y r,A=y::r∧r.length=n:=by
 cases A with
 |nil=>exact bY h
 |cons y r=>exact (fV y r N (n0 (n0 (AC h))))
theorem Xh(h:iB t C e=M):∀x∈mO t,∃z,x=aW z∧e9 C z=M:=by
 have B:∀{A:W X} {D:W kt},iz A C D=M->∀x∈A,∃z,x=aW z∧e9 C z=M:=λ{A}=>by
  induction A with
  |nil=>exact λY Y h=>nomatch h
  |cons x A I=>exact λh=>iz.E (G:=λY=>_) h λy p D E F J z H=>(wl.mp H).elim (λe=>(ay y (e.trans F) E)) (I J z)
 cases t with
 |ak x=>exact λz H=>bX (y7 h) λy p Y E F=>(ay y ((IR.mp H).trans F) E)
 |bS A=>exact zZ (yT h) λD k p Y h=>B h
theorem aaY(B:s_ L A=M)(h:iB t A e=M)(x:X)(E:x∈jr A):x∉mO t:=
 K3 (G:=λx=>x∉mO t) E λy D F=>aQ (Xh h _ F) λz e H=>by
  have C:=Kj B
  refine B2 H λI J=>?_
  have q:y=z:=(f7 (C.ok _ D N)).1.symm.trans ((lc aZ e).trans (f7 J).1)
  subst q
  exact BU I λh=>h.elim (λh=>qW (ii (h.symm.trans (C.zG _ D N)))) λh=>qW (ii (h.symm.trans (C.zG _ D N)))
theorem Xi(h:OS e=M)(env:ln)(x:bm):sP e env x=re x:=by
 cases e<;>first|rfl|exact bY h
section
variable{g:Gh}{n:X}{r s:na}
noncomputable def fU(g:Gh)(n:X)(m:MX):Prop:=∀r e,cM m r e=M->SE g n r e m∧ST g n r e m
theorem gX{e:kt}{m:MX}(h:SE g n r e m)(A:∀env t,sG e env t=(do let v ←t;qQ e.pos;mI [v] (truthy v))):SE g n r e m∧ST g n r e m:=⟨h,ST.of h A⟩
theorem O2(h:cM m r e=M)(x:X)(q:m=.aa x):∃y p,e=.Name y p∧x=aW y∧fv y=M:=by
 subst q
 exact C4 h λA Y B C=>fP (dH A) λy p q=>by
  subst q
  exact (d_ y p N ((AC C).symm) B)
theorem QG(G:fU g n m)(A:wG e=M)(h:cM m r e=M)(B:dD g n r C D):dD g n r (e::C) (m::D):=.bg A (O2 h) (G r e h).1 (G r e h).2 B
structure kZ(g:Gh)(n:X)(l:W MX):Prop where
 es:∀r es,f' l r es=M->dD g n r es l
 d:∀r ks vs,De l r ks vs=M->oW g n r ks vs l
 d1:∀m,fU g n m->∀r ks vs,De (m::l) r ks vs=M->oW g n r ks vs (m::l)
theorem LG:kZ g n []:=
 ⟨λr C h=>uu.mp h▸.aU,λr D E h=>B2 h λA B=>uu.mp A▸uu.mp B▸.aU,λY Y Y Y Y h=>bY h⟩
theorem K5{m:MX}{l:W MX}(G:fU g n m)(L:kZ g n l):kZ g n (m::l):=by
 refine ⟨λr C h=>?_,λr A B h=>L.d1 m G r A B h,λk K r A B h=>?_⟩
 ·cases C with
  |nil=>exact bY h
  |cons e C=>exact C3 h λD E F=>QG G D E (L.es r C F)
 ·rcases A with _|⟨_|a,A⟩
  ·exact bY h
  ·exact bY h
  ·cases B with
   |nil=>exact bY h
   |cons b B=>exact C3 h λD E F=>.bg (K r a D).1 (G r b E).1 (L.d r A B F)
theorem Dp(B:cI g)(h:zd k r Y=M)(A:dD g n r (zc k Y) C):jk g n r Y k C∧∀env x,sP Y env x=re x:=by
 refine B2 h λZ D=>⟨?_,Xi Z⟩
 clear h Z
 cases k with
 |bK=>
  cases A with
  |bg _ _ h _ E=>cases E;exact jk.bK h
 |qq=>
  refine B2 D λD F=>qp (g6.Q D) λx f H p e I J=>?_
  subst e
  refine eD (vi (n:=1) F) λa H e L=>?_
  subst e
  obtain ⟨b,rfl⟩:=List.length_eq_one_iff.mp L
  have A:dD g n r [a,b] C:=A
  cases A with
  |bg P R S U E=>
   cases E with
   |bg j o y t2 E=>cases E;exact jk.qq B I J (.bg P R S U (.bg j o y t2 .aU))
 |p9=>
  refine B2 D λD F=>qp (g6.Q D) λx f H p e I J=>?_
  subst e
  refine eD (vi (n:=0) F) λa H e L=>?_
  subst e
  have q:=yn.mp L
  subst q
  have A:dD g n r [a] C:=A
  cases A with
  |bg P R S U E=>cases E;exact jk.p9 B I J (.bg P R S U .aU)
 |hY=>
  refine B2 D λD F=>qp (g6.Q D) λx f H p e I J=>?_
  subst e
  refine eD (vi (n:=0) F) λa H e L=>?_
  subst e
  have q:=yn.mp L
  subst q
  have A:dD g n r [a] C:=A
  cases A with
  |bg P R S U E=>cases E;exact jk.hY B I J (.bg P R S U .aU)
structure vp(g:Gh)(n:X)(r:na)(e:kt)(m:MX):Prop where
 ex:∃bL gens s p,e=.ListComp bL gens s p∧SU g n r bL gens s p m
theorem vp.E{e:kt}{m:MX}{G:kt->Prop}(h:vp g n r e m)(f:∀B A s p,SU g n r B A s p m->G (.ListComp B A s p)):G e:=QQ h.ex λB A s p q h=>q▸f B A s p h
theorem Q8(B:cI g){F:W X}{C:MX}{t:eK}{k:ky}{D E:W MX}{e:kt}(L:fU g n C)(P:kZ g n D)(R:kZ g n E)(h:cM (.dM F C t k D E) r e=M):vp g n r e (.dM F C t k D E):=by
 refine B2 h λJ H=>qn (dH J) λU A s p q=>?_
 clear J
 subst q
 refine ⟨U,A,s,p,N,?_⟩
 clear h
 rcases A with _|⟨⟨tg,it,fi,a⟩,_|_⟩
 ·exact bY H
 ·refine C9 H λY Z f j o y h8 h9 I=>?_
  have S:=Dp B y (P.es _ _ h8)
  rw [←show jr s=F from ut f,show a=0 from ut o]
  exact SU.dM Z j S.1 S.2 (R.es _ _ h9) (L _ _ I).1
 ·exact bY H
theorem Q9(B:cI g){J:W X}{E:MX}{t U:eK}{k Z:ky}{F H A C:W MX}{e:kt}(Ge:fU g n E)(Gi:kZ g n F)(Gf:kZ g n H)(L:kZ g n A)(P:kZ g n C)(h:cM (.kX J E t k F H U Z A C) r e=M):vp g n r e (.kX J E t k F H U Z A C):=by
 refine B2 h λf I=>qn (dH f) λel D s p q=>?_
 clear f
 subst q
 refine ⟨el,D,s,p,N,?_⟩
 clear h
 rcases D with _|⟨⟨tg,it,fi,a⟩,_|⟨⟨tg2,it2,fi2,a2⟩,_|_⟩⟩
 ·exact bY I
 ·exact bY I
 ·refine C10 I λY o h4 h5 h6 h7 h8 h9 j R=>C5 j λy j6 j7 j8 j9=>?_
  have S:=Dp B h7 (Gi.es _ _ h8)
  have S2:=Dp B j7 (L.es _ _ j8)
  rw [←show jr s=J from ut h4,show a=0 from ut h6,show a2=0 from ut j6]
  exact SU.kX o h5 y S.1 S2.1 S.2 S2.2 (Gf.es _ _ h9) (P.es _ _ j9) (Ge _ _ R).1 (aaY o y)
 ·exact bY I
theorem vp.kj{e:kt}{m:MX}(h:vp g n r e m):SE g n r e m∧ST g n r e m:=h.E (G:=λe=>SE g n r e m∧ST g n r e m) λY Y Y Y h=>gX h.se λY Y=>N
theorem Dq.E{e:kt}{c:Const}{G:kt->Prop}(A:cX e 1=M)(B:ci ((bP e).c=c)=M)(f:∀k p,G (.Constant c k p)):G e:=cC (dH A) λC k p q=>by
 subst q
 exact (ut B:C=c)▸f k p
theorem zP{b:an}(h:(!b)=M):b=bn:=by
 cases b
 ·rfl
 ·exact bY h
theorem O3(G:fU g n m)(h:Hq o (GF m) (cM m r)=M):rK g n r o m:=by
 cases o with
 |some e=>exact rK.fL (G r e h).1
 |none=>cases m<;>first|exact bY h|exact rK.bG
theorem xq.Q{x:f8}{e:kt}(h:xq x e=M):∃a b k p B C D,e=.JoinedStr [.FormattedValue a (-1) am B,.Constant (.str x) k C,.FormattedValue b (-1) am D] p:=by
 refine B2 h λH A=>fP (dH H) λU p q=>?_
 clear H
 subst q
 clear h
 rcases U with _|⟨a,_|⟨b,_|⟨c,_|_⟩⟩⟩
 ·exact bY A
 ·exact bY A
 ·exact bY A
 ·refine C7 A λY I Z J f L o=>cC (dH I) λP i B q=>cC (dH J) λR k C E=>cC (dH L) λS j D F=>⟨P,S,k,p,B,C,D,?_⟩
  clear A I J L
  have q:a=ZL P i am B:=q
  have E:b=PySem.Expr.Constant R k C:=E
  have F:c=ZL S j am D:=F
  subst q E F
  rw [show i= -1 from ut Z,show R=.str x from ut f,show j= -1 from ut o]
 ·exact bY A
theorem Xj(B:cI g)(C:j' g n){o:MX}{m:X}{l:W MX}(D:fU g n o)(E:kZ g n l):fU g n (.au o m l):=λr e h=>C4 h λF H I J=>l_ (qr.Q F) λS x U Z p q L A P R=>by
 subst q P
 exact gX (SE.au B C L A R (EX (ww H)) (D _ _ I).1 (E.es _ _ J) (KP A)) λY Y=>N
theorem UJ(B:cI g)(D:iY g.w g.az){m:MX}(G:fU g n m):fU g n (.uM m):=λr e h=>C6 h λE F H I J L=>qp (g6.Q E) λx Z A p q P R=>by
 subst q
 refine eD (vi (n:=0) F) λy A q C=>?_
 subst q
 have q:=yn.mp C
 subst q
 refine qp (g6.Q H) λz a A b q S U=>?_
 have q:y=_:=q
 subst q
 refine eD (vi (n:=0) I) λy A q C=>?_
 subst q
 have q:=yn.mp C
 subst q
 exact gX (VT B D P R S U (QG G J L .aU)) λY Y=>N
theorem Vb(B:cI g){m:MX}(G:fU g n m):fU g n (.uT m):=λr e h=>C5 h λC D E F H=>qp (g6.Q C) λx Z A p q I J=>by
 subst q
 refine eD (vi (n:=0) D) λy A q L=>?_
 subst q
 have q:=yn.mp L
 subst q
 refine l_ (qr.Q E) λo x f A j q P R S U=>?_
 have q:y=_:=q
 subst q
 cases A with
 |nil=>exact gX (W4 B I J R S P U (G _ _ H).1) λY Y=>N
 |cons=>exact bY F
theorem aaZ{a l h:MX}(B:fU g n a)(C:fU g n l)(D:fU g n h):fU g n (.iS a l h):=λr e q=>B2 q λE q=>B2 q λF q=>B2 q λH A=>cC (dH E) λx i p q=>by
 subst q
 refine cC (dH F) λy z I q=>?_
 have q:i=.Slice y z am I:=q
 subst q
 exact B2 A λA J=>gX (SE.iS (B _ _ H).1 (O3 C A) (O3 D J)) λY Y=>N
@[reducible]noncomputable def GE(g:Gh)(n:X)(r:na)(m:MX)(e:kt):Prop:=SE g n r e m∧ST g n r e m
theorem Gd(B:cI g)(hC:j' g n)(So:iY g.w g.az):∀m,fU g n m:=
 MX.rec (motive_1:=fU g n) (motive_2:=kZ g n)
  (λY Y Y=>⟨SE.eE,ST.eE⟩)
  (λr e h=>B2 h λC A=>Dq.E (G:=GE g n r .bG) C A λY Y=>gX SE.bG λY Y=>N)
  (λb r e h=>B2 h λC A=>Dq.E (G:=GE g n r (.aJ b)) C A λY Y=>gX SE.aJ λY Y=>N)
  (λi r e h=>B2 h λC A=>Dq.E (G:=GE g n r (.ab i)) C A λY Y=>gX SE.ab λY Y=>N)
  (λc r e h=>C3 h λC A D=>Dq.E (G:=GE g n r (.ae c)) C A λY Y=>gX (SE.ae D) λY Y=>N)
  (λx r e h=>C4 h λC Y A D=>fP (dH C) λy p q=>by
   subst q
   have q:aW y=x:=AC D
   subst q
   exact gX (SE.aa A) λY Y=>N)
  (λx r e h=>C3 h λC A D=>fP (dH C) λy p q=>by
   subst q
   have q:aW y=x:=AC D
   subst q
   exact gX (SE.gZ B A) λY Y=>N)
  (λl L r e h=>B2 h λC A=>cC (dH C) λJ k p q=>by subst q;exact gX (SE.af (L.es _ _ A)) λY Y=>N)
  (λl L r e h=>B2 h λC A=>fP (dH C) λJ p q=>by subst q;exact gX (SE.cK (L.es _ _ A)) λY Y=>N)
  (λl L r e h=>C3 h λC A D=>cC (dH C) λJ k p q=>by subst q;exact gX (adR B (L.d _ _ _ D) (ww A)) λY Y=>N)
  (λm a G r e h=>C5 h λC A D I R=>cC (dH C) λo y p q=>by
   subst q
   have q:aW y=a:=AC I
   subst q
   exact gX (SE.cW B A D (G _ _ R).1) λY Y=>N)
  (λa b E F r e h=>C3 h λC A D=>cC (dH C) λx y p q=>by subst q;exact gX (SE.ag (E _ _ A).1 (F _ _ D).1) λY Y=>N)
  (λa l h=>aaZ)
  (λP a b E F r e h=>C4 h λC H A D=>qn (dH C) λx o y p q=>by
   subst q
   have q:o=P:=ut H
   subst q
   exact gX (SE.bj (E _ _ A).1 (F _ _ D).1) λY Y=>N)
  (λP a b E F r e h=>C5 h λC H hm A D=>qn (dH C) λx o y p q=>by
   subst q
   have q:o=P:=ut H
   subst q
   exact ⟨SE.ao (E _ _ A).1 (F _ _ D).1 (zP hm),ST.ao (E _ _ A).1 (F _ _ D).1 (zP hm)⟩)
  (λP l L r e h=>C3 h λC H A=>cC (dH C) λo J p q=>by
   subst q
   have q:o=P:=ut H
   subst q
   exact ⟨SE.cE (L.es _ _ A),ST.cE (L.es _ _ A)⟩)
  (λm G r e h=>C3 h λC H A=>cC (dH C) λo x p q=>by
   subst q
   have q:o=.Not:=ut H
   subst q
   exact ⟨SE.d3 (G _ _ A).1,ST.d3 (G _ _ A).2⟩)
  (λm G r e h=>C3 h λC H A=>cC (dH C) λo x p q=>by
   subst q
   have q:o=.USub:=ut H
   subst q
   exact gX (SE.kz (G _ _ A).1) λY Y=>N)
  (λt a b Gt E F r e h=>C4 h λC A D I=>qn (dH C) λx y z p q=>by
   subst q
   exact ⟨SE.aF (Gt _ _ A).2 (E _ _ D).1 (F _ _ I).1,ST.aF (Gt _ _ A).2 (E _ _ D).2 (F _ _ I).2⟩)
  (λa l L r e h=>C5 h λC A D I R=>cC (dH C) λf J p q=>by
   subst q
   refine fP (dH A) λy p q=>?_
   have q:f=.Name y p:=q
   subst q
   exact gX (SE.fn B hC D (ut I) (L.es _ _ R)) λY Y=>N)
  (λf l L r e h=>B2 h λC A=>qp (g6.Q C) λy np J p q hg hc=>by
   subst q hc
   exact gX (Hv B So hg (L.es _ _ A)) λY Y=>N)
  (λm=>UJ B So) (λm=>Vb B) (λo m l=>Xj B hC)
  (λfs S t k U Z d j w r e h=>(Q8 B d j w h).kj)
  (λfs S t k U Z t2 k2 nO hV d j w Jo Jc r e h=>(Q9 B d j w Jo Jc h).kj)
  (λa b E F r e h=>C3 h λC A D=>QS (xq.Q C) λx y k p p1 p2 p3 q=>by
   subst q
   exact gX (SE.iJ (E _ _ A).1 (F _ _ D).1) λY Y=>N)
  (λa b E F r e h=>C3 h λC A D=>QS (xq.Q C) λx y k p p1 p2 p3 q=>by
   subst q
   exact gX (SE.uU (E _ _ A).1 (F _ _ D).1) λY Y=>N)
  (λm Y r e h=>bY h)
  LG (λY Y=>K5)
theorem kL(G:∀m,fU g n m):∀l,kZ g n l:=λl=>cB l LG λm l A=>K5 (G m) (A)
end
section
variable{g:Gh}{n:X}{c d:na}
theorem Q_(B:cI g)(G:∀m,fU g n m)(A:ze m=M)(h:cM m c e=M):vp g n c e m:=by
 cases m<;>first
  |exact bY A
  |exact Q8 B (G _) (kL G _) (kL G _) h
  |exact Q9 B (G _) (kL G _) (kL G _) (kL G _) (kL G _) h
theorem acL(h:ze m=M)(q:oR C D E m A B Q):bB C D m A B λv A B=>Q (.ax v) A B:=by
 cases E with
 |false=>exact q
 |true=>cases m<;>first|exact bY h|exact q
theorem aa0(q:oR C D E (.dW m) A B Q):bB C D (.dW m) A B λv A B=>Q (.ax v) A B:=by
 cases E<;>exact q
theorem sv(B:cI g)(F:iY g.w g.az)(G:∀m,fU g n m)(h:cM m c e=M):SV g n c H e m:=by
 have E:=(G m c e h).1
 cases H with
 |false=>exact SV.no E
 |true=>
  cases m with
  |cK l=>exact B2 h λA D=>fP (dH A) λI p q=>by subst q;exact SV.cK ((kL G l).es _ _ D)
  |cD l=>
   cases l with
   |nil=>
    exact C3 h λA D C=>cC (dH A) λJ L p q=>by
     subst q
     have C:(J.isEmpty&&L.isEmpty)=M:=C
     exact B2 C λC P=>uu.mp C▸uu.mp P▸SV.agD B
   |cons=>exact SV.ax E λY Y Y q=>q
  |bi f l=>
   exact B2 h λA D=>qp (g6.Q A) λy U I p q R S=>by
    subst q S
    exact SV.bi B F R ((kL G l).es _ _ D)
  |_=>exact SV.ax E λY Y Y q=>q
theorem Ra(B:cI g)(F:iY g.w g.az)(G:∀m,fU g n m):∀{D:W X} {A:W kt} {E:W MX},D.length=A.length->f' E c A=M->rN g n c H D A E
 |[],[],[],_,_=>.aU
 |[],[],_::_,_,h=>bY h
 |x::D,e::A,[],_,h=>bY h
 |x::D,e::A,m::E,C,h=>C3 h λI J L=>.bg I (sv B F G J) (Ra B F G (n0 C) L)
 |[],_::_,_,C,_=>yM C
 |_::_,[],_,C,_=>yM C
theorem rr.E{m A:MX}{G:MX->Prop}(h:rr m=O A)(f:G (.dW A)):G m:=by
 cases m<;>first|exact aH h|exact ii h▸f
theorem Xk(B:cI g)(f:iY g.w g.az)(G:∀m,fU g n m){A:W X}{t:eK}{R:sB}(h:fQ (.bI t m) c R=M):SS g n c A R (.bI t m):=C3 h λU D C=>cC (kl U) λj e p q=>by
 subst q
 have D:iB t c j=M:=D
 have C:H6 t m c e=M:=C
 clear h U
 cases t with
 |bS xs=>
  refine B2 C λC E=>zZ (yT D) λes k pt q Y=>?_
  subst q
  exact SS.acJ D (G _ _ _ E).1 (λenv=>by cases e<;>rfl) λenv=>by cases e<;>first|rfl|exact bY C
 |ak x=>
  refine bX (y7 D) λy Z q I o=>?_
  subst q o
  clear D
  unfold H6 at C
  dsimp only at C
  cases J:rr m with
  |some m'=>
   rw [J]at C
   exact rr.E (G:=λm=>SS g n c A _ (.bI _ m)) J (B2 C λE H=>(Q_ B G E H).E (G:=λe=>SS g n c A (.Assign [.Name y Z] e p) _) λL F d cp S=>SS.Oo I S.dW λvs ob Q q=>aa0 q)
  |none=>
   rw [J]at C
   refine B2 C λE H=>?_
   cases P:ze m with
   |true=>exact (Q_ B G P H).E (G:=λe=>SS g n c A (.Assign [.Name y Z] e p) _) λL F d cp S=>SS.Oo I S λvs ob Q q=>acL P q
   |false=>
    rw [P]at E
    exact SS.acI I (sv B f G H) λenv=>by cases e<;>first|rfl|exact bY E
theorem acM(B:cI g)(I:j' g n)(G:∀m,fU g n m){A:W X}{x m:X}{D:sB}(h:fQ (.gq x m e) c D=M):SS g n c A D (.gq x m e):=C4 h λJ L P R=>fP (kl J) λU p q=>by
 subst q
 refine l_ (qr.Q L) λo y ap Y cp q Z C f E=>?_
 have q:U=_:=q
 subst q
 refine bX (Ci P) λz j q F ex=>?_
 have q:o=.Name z j:=q
 subst q ex f
 have S:=(kL G [e]).es _ _ R
 have H:=S.bO
 rcases Y with _|⟨a,_|_⟩
 ·exact yM H
 ·exact SS.gq (SE.au B I Z C E (show 1<20 by decide) (SE.aa (KM.mp F).2) S (KP C)) F C E S
 ·exact yM (n0 H)
theorem aa1(B:cI g)(G:∀m,fU g n m){A:W X}{o e:MX}{m:X}{C:sB}(h:fQ (.tf o m e) c C=M):SS g n c A C (.tf o m e):=C5 h λE F H I J=>fP (kl E) λL p q=>by
 subst q
 refine l_ (qr.Q F) λP y ap R cp q k1 U Y Z=>?_
 have q:L=_:=q
 subst q
 refine cC (dH H) λa f j q=>?_
 have q:P=.Attribute a f j:=q
 subst q Y
 have S:=(kL G [e]).es _ _ J
 have D:=S.bO
 rcases R with _|⟨a,_|_⟩
 ·exact yM D
 ·exact SS.tf U Z (G _ _ _ I).1 S
 ·exact yM (n0 D)
noncomputable def CD(g:Gh)(n:X)(A:W X)(m:MS):Prop:=∀c B,fQ m c B=M->SS g n c A B m
noncomputable def zk(g:Gh)(n:X)(A:W X)(l:W MS):Prop:=∀c B,mZ l c B=M->lx g n c A B l
theorem LH:zk g n A []:=λc B h=>uu.mp h▸lx.aU
theorem K6(G:CD g n A m)(L:zk g n A l):zk g n A (m::l):=λc B h=>by
 cases B with
 |nil=>exact bY h
 |cons s B=>exact B2 h λC D=>lx.bg (G _ _ C) (L _ _ D)
theorem Gg(B:cI g)(i:j' g n)(L:iY g.w g.az)(E:W X):∀m,CD g n E m:=
 have G:=Gd B i L
 MS.rec (motive_1:=CD g n E) (motive_2:=zk g n E)
  (λY Y Y=>SS.eE)
  (λt e c H h=>Xk B L G h)
  (λxs ms c H h=>C8 h λA C D F I P j l=>cC (kl A) λt e p q=>by
   subst q
   refine cC (dH C) λr k s q=>cC (dH D) λw k2 pe R=>?_
   have q:t=.Tuple r k s:=q
   have R:e=.Tuple w k2 pe:=R
   subst q R
   exact B2 F λj1 j2=>SS.gh j1 (ww j2) I P (Ra B L G (AC j) l))
  (λo k e c H h=>C5 h λA C D F I=>cC (kl A) λt v p q=>by
   subst q
   refine cC (dH C) λa b U q=>?_
   have q:t=.Subscript a b U:=q
   subst q
   exact SS.mP (O2 D) (G _ _ _ D).1 (G _ _ _ F).1 (G _ _ _ I).1)
  (λo a e c H h=>C6 h λA C D F I P=>cC (kl A) λt v p q=>by
   subst q
   refine cC (dH C) λb y U q=>?_
   have q:t=.Attribute b y U:=q
   subst q
   have q:aW y=a:=AC F
   subst q
   exact SS.eH B D (G _ _ _ I).1 (G _ _ _ P).1)
  (λx m e c H h=>acM B i G h)
  (λt a b Z J c H h=>C4 h λA C D F=>qn (kl A) λY Y Y Y q=>by subst q;exact SS.aF (G _ _ _ C).2 (Z _ _ D) (J _ _ F))
  (λt k f b J c H h=>C5 h λA C D F I=>qn (kl A) λY Y Y Y q=>by
   subst q
   have S:=Dp B D (((kL G) f).es _ _ F)
   exact SS.d9 C S.1 S.2 (J _ _ I))
  (λe c H h=>B2 h λA C=>fP (kl A) λY Y q=>by subst q;exact SS.aB (G _ _ _ C).1)
  (λt b J c H h=>C3 h λA C D=>cC (kl A) λY Y Y q=>by subst q;exact SS.vd (G _ _ _ C).2 (J _ _ D))
  (λt a b Z J c H h=>C4 h λA C D F=>qn (kl A) λY Y Y Y q=>by subst q;exact SS.w' (G _ _ _ C).2 (Z _ _ D) (J _ _ F))
  (λo m e c H h=>aa1 B G h)
  LH (λY Y=>K6)
theorem Ot(B:cI g)(C:j' g n)(D:iY g.w g.az)(A:W X):∀l,zk g n A l:=λl=>cB l LH λm l E=>K6 (Gg B C D A m) (E)
end
theorem Xl{B:f8->im SL}:∀{A:W (f8×bm)} {m:f8->im bm},x∉A.map (·.1)->bindL B A m x=m x:=λ{A}=>no_implicit_lambda% (gV A (@λY Y=>N) λn v r C {m} h=>by
  unfold bindL
  refine eR (C λq=>h (wv _ q)) ?_
  by_cases q:B n=O .local
  ·rw [jp q];exact f0 λ(e:x=n)=>h (e▸wf ..)
  ·exact eR (f0 q) N)
theorem Xm{B:f8->im SL}:∀{A:W (f8×bm)} {m:f8->im bm},x∉A.map (·.1)->bindC B A m x=m x:=λ{A}=>no_implicit_lambda% (gV A (@λY Y=>N) λn v r C {m} h=>by
  unfold bindC
  refine eR (C λq=>h (wv _ q)) ?_
  by_cases q:B n=O .local
  ·rw [jp q]
  ·rw [f0 q];exact f0 λ(e:x=n)=>h (e▸wf ..))
theorem NP{B:f8->im SL}{x:f8}{v:bm}(D:B x=O .local):∀{A:W (f8×bm)} {m:f8->im bm},(x,v)∈A->(A.map (·.1)).Nodup->bindL B A m x=O v
 |(n,u)::r,m,h,C=>by
  have C:=uj.mp C
  unfold bindL
  exact (wl.mp h).elim (λh=>by
   rw [←(Op h).1,←(Op h).2]at C⊢
   rw [Xl C.1,jp D];exact jp N) λh=>NP D h C.2
theorem NQ{B:f8->im SL}{x:f8}{v:bm}(D:¬B x=O .local):∀{A:W (f8×bm)} {m:f8->im bm},(x,v)∈A->(A.map (·.1)).Nodup->bindC B A m x=O v
 |(n,u)::r,m,h,C=>by
  have C:=uj.mp C
  unfold bindC
  exact (wl.mp h).elim (λh=>by
   rw [←(Op h).1,←(Op h).2]at C⊢
   rw [Xm C.1,f0 D];exact jp N) λh=>NQ D h C.2
structure PR(w:lw)(ids:W (be×be))(P:PM)(names:W f8)(bC:W bm)(vs:av):Prop where
 c_:bC.length=names.length
 ax:∀y p,aG vs y=O (.ax p)->∃x v,(x,v)∈names.zip bC∧y=aW x∧ar w ids P v p
 aX:∀y p,aG vs y≠O (.aX p)
theorem tB.E{x:X}{C:W X}{B:W PV}{G:W PV->av->Prop}(h:tB (x::C) B=O D)(f:∀p r A,tB C r=O A->G (p::r) ((x,.ax p)::A)):G B D:=by
 cases B with
 |nil=>exact aH h
 |cons p r=>exact aQ (On.mp h) λA e q=>q▸f p r A e
theorem aa2{w:lw}{C:W (be×be)}{P:PM}:∀{A:W f8} {B:W bm} {D:W PV} {E:av},bH w C P B D->tB (A.map aW) D=O E->PR w C P A B E:=λ{A}=>no_implicit_lambda% (cB A (@λB D E r h=>by
  cases D with
  |nil=>rw [show B=[] from r.I,←ii h];exact ⟨N,λY Y e=>aH e,λY Y e=>aH e⟩
  |cons=>exact aH h) λx A F {B} {D} {E} r h=>by
  revert r
  refine tB.E (G:=λD E=>bH w C P B D->PR w C P (x::A) B E) h λp D H h r=>bX r.I λv l q I J=>?_
  have Z:=F J h
  refine eR q ⟨lc (· +1) Z.c_,λy q e=>?_,λy q e=>?_⟩
  ·rw [fI]at e
   by_cases z:aW x=y
   ·rw [jp z]at e
    exact (d_ x v (wf ..) z.symm (cQ.ax.inj (ii e)▸I))
   ·rw [f0 z]at e
    exact bX (Z.ax y q e) λL R m e S=>(d_ L R (wv _ m) e S)
  ·rw [fI]at e
   by_cases z:aW x=y
   ·rw [jp z]at e;exact cQ.noConfusion (ii e)
   ·rw [f0 z]at e;exact Z.aX y q e)
structure agE(sc:na):Prop where
 km:sc.kind=.function
 co:sc.isCoroutine=bn
 jy:sc.isGenerator=bn
 zG:∀x∈sc.names,x.2≠.free
theorem V6{A:na}(h:HL A=M):agE A:=B2 h λh B=>B2 h λh C=>B2 h λD E=>⟨ut D,zP E,zP C,λx F e=>by
 have q:=Do.mp B x F
 rw [e]at q
 exact bY q⟩
theorem NR{A:na}{x:f8}(h:e9 A x=M):(A.names.lookup x=O .local∨A.names.lookup x=O .cell)∧fv x=M:=B2 h λB C=>⟨BU B id,C⟩
structure z8(K:TT)(a:be)(fd:Bk)(st:sB)(names:W f8):Prop where
 ah:K.lookup a=O ⟨.type "function",am,.func fd,#[]⟩
 cd:codeIn K fd.code fd.qualname=M
 tu:fd.body=.stmts (lR st)
 Ds:fd.closure=[]
 p4:fd.scope=cR st
 gl:(BI fd 0 0).globals=ua
 bl:(BI fd 0 0).builtins=Ff
 sc:HL (cR st)=M
 aX:names.all (e9 (cR st))=M
 nd:names.Nodup
 ib:∀bC:W bm,bC.length=names.length->bindArgs fd ⟨bC,[]⟩=re (names.zip bC)
section
variable{g:Gh}{n:X}
theorem BV{h:li}{c:be}(A:h.objs.size≤c):h.get? c=am:=by
 cases e:h.get? c with
 |none=>rfl
 |some o=>exact nw (FM e) (yw.mpr A)
theorem Hy(B:cI g){A:pc}{P:PM}{ob:ai}{s:ce}{a:be}{o:Bk}{i:sB}{C:W f8}{H:W bm}{us:W PV}{vs:av}{R:Result->ce->Prop}(akm:A.depth<MN)(I:aS g P ob s)
  (D:z8 (K g.w.params) a o i C) (r:bH g.w g.az P H us) (hz:tB (C.map aW) us=O vs)
  (h:∀env E,dh env (cR i)->i9 env (cR i) (cN s.heap)->aT g env (cN s.heap) P vs E->aS g P ob E->bq P s P E->
   ca (cr pw g.w) (A.deeper env) (uy (lR i) env) (λf s'=>R (.ok (.ret (match f with|.ret v=>v|_=>.none))) s') a9 E):mK (cr pw g.w) A (.call (.ref a) ⟨H,[]⟩) R s:=by
 have Z:=aa2 r hz
 have S:=V6 D.sc
 have j:∀x∈C,e9 (cR i) x=M:=Do.mp D.aX
 have L:((C.zip H).map (·.1))=C:=List.map_fst_zip (nY Z.c_.symm)
 have l:∀x∈C.zip H,x.1∈C:=λx h=>(lc (x.1∈·) L).mp (No.mpr (ay _ h N))
 have vI:((C.zip H).map (·.1)).Nodup:=eR L D.nd
 refine codeAny_call_cells (body:=lR i) akm (I.oU B _ _ D.ah) N (B.QY.keeps I.l5) (codeRec_of (I.oU B) D.cd) D.tu (D.ib H Z.c_) D.Ds (λx hx=>?_) (λE x=>?_) (D.p4▸S.co) (D.p4▸S.jy) (D.p4▸S.km)
 ·rw [D.p4]
  exact (NR (j _ (l x hx))).1.imp id λh=>⟨h,cellsFrom_some _ _ _ (.inl h)⟩
 ·have J:∀y,(BI o s.heap.objs.size a).kindOf y=(cR i).names.lookup y:=λy=>by refine (?_:List.lookup y o.scope.names=_);rw [D.p4]
  have F:dh (BI o s.heap.objs.size a) (cR i):=⟨(lc Scope.kind D.p4).trans S.km,λy k e=>.inl ((J y).trans e),D.gl,D.bl,λy t=>by
   rw [J]at t
   refine t.elim (λt=>?_) λt=>nw N (S.zG _ (vU t))
   refine (?_:∃c,(cellsFrom (s.heap.objs.size+1) o.scope.names []).lookup y=O c)
   rw [D.p4]
   exact Bz.mp (cellsFrom_some _ _ _ (.inl t))⟩
  have U:∀y c,(BI o s.heap.objs.size a).cells.lookup y=O c->s.heap.objs.size≤c:=λy c e=>ML (x.above y c (M' e))
  have no:∀c,s.heap.objs.size≤c->P c=am∧¬ej g c:=λc hc=>I.iJ (BV hc)
  have d:bq P s P E:=eD x.done λh1 Jx e1 k1=>e1▸bq.cv I.ag k1
  refine ss (h _ E F ⟨λh=>h (BV (ul _)),λy c Y Y h2 h=>h (BV (U y c h2)),λy z c Y Y h2 h3=>name_of_addr x.apart (M' h2) (M' h3)⟩ ⟨λb hb q=>hb (nV x.toInCall.keep q),⟨_,x.toInCall.ns⟩,no _ (ul _),λy c e=>(bt ((no c (U y c e)).1) ((no c (U y c e)).2) ⟨_,x.cell y c e⟩),λY=>0,λy p e=>bX (Z.ax y p e) λz v m ey hr=>?_,λy p e=>nw e (Z.aX y p),λy z p q e=>nw e (Z.aX y p)⟩ (I.g8 d) d) (λY Y h=>h) λY Y f=>f.elim
  have hz:=NR (j z (l _ m))
  refine eR ey (eR ((f7 hz.2).1) (ay v (hz.1.elim (λw=>?_) λw=>?_) hr))
  ·exact .inl (ff ((J z).trans w) (ay _ x.toInCall.ns (NP ((J z).trans w) m vI)))
  ·refine (F.CA z (.inl ((J z).trans w))).elim λc hc=>.inr (ff (.inl ((J z).trans w)) (ay c hc ?_))
   have q:=x.cell z c hc
   rwa [NQ (λe=>qW (ii (((J z).trans w).symm.trans e))) m vI]at q
theorem Xn(B:cI g)(So:iY g.w g.az)(hC:j' g n):j' g (n+1):=by
 intro A P E s a us S Q R I r q
 refine oS.E (A:=xw) q λU H q=>oS.E (A:=av) q λvs Z q=>(PB g.w.params H).elim λJ d=>B2 d.nt λc1 c=>B2 c λc2 c=>B2 c λc3 c=>B2 c λc4 c=>B2 c λc5 c6=>?_
 rw [show U.B_=J.i4.map aW from ut c4]at Z
 refine yJ (Hy B (by have:=R.2.1;exact L3 0xbac17410bf38 N this) I ⟨d.ah,c1,N,N,N,N,N,c3,c5,ut c6,d.ib⟩ r Z λenv j F Pv a I1 h=>?_)
 refine ss ((Ot B hC So U.QA _ _ _ c2).go (Q:=λf Y E=>match f with|.bp=>Q .bG E|.aB v=>Q v E) F Pv (bt R.1 (by have:=R.2.1;refine (?_:A.depth+1+n<_);exact L3 0xba0e42fc17410bf38 N this) (by have:=R.2.2;refine (?_:A.units+3+3*n+12<_);exact L3 0xba08e0f08b310c705d0470784417e638 N this)) a I1 q) (λf s2 h2=>rG h2 λfl cO C L y J a2 I2 D=>?_) λY Y f=>f.elim
 have GG:bW g (cN s.heap) P s L s2:=⟨D.le,λb o e ni=>D.cH b o (λq=>aH (q.symm.trans e)) (h.cH b o e) ni,λb hb=>D.bR b λq=>hb (nV h.cH q),D.bN⟩
 cases J with
 |bp=>exact (gB .bG C L y I2 .bG GG)
 |aB hr=>exact (gB _ C L y I2 hr GG)
theorem y_(B:cI g)(A:iY g.w g.az):∀n,j' g n
 |0=>λY Y Y q=>q.elim
 |n+1=>Xn B A (y_ B A n)
end
noncomputable def mj(n:X)(A:X->X->an){B:Type}:KasT B->(B->Prop)->Prop
 |.ret a,Q=>Q a
 |.ask i j k,Q=>i<n∧j<n∧mj n A (k (A i j)) Q
theorem wz{n:X}{A:X->X->an}{B C:Type}{f:B->KasT C}{Q:C->Prop}:∀{t:KasT B},mj n A t (λa=>mj n A (f a) Q)->mj n A (t.bind f) Q
 |.ret _,h=>h
 |.ask _ _ k,h=>(bt h.1 h.2.1 (wz (t:=k _) h.2.2))
structure qb(n:X)(lt:X->X->an):Prop where
 Dt:∀i j,i<n->j<n->i≠j->lt i j=bn->lt j i=M
 agF:∀i j,i<n->j<n->lt i j=M->lt j i=bn
 bD:∀i j k,i<n->j<n->k<n->lt i j=M->lt j k=M->lt i k=M
structure fh(n:X)(p:sK X):Prop where
 ry:p.Perm (mG (mJ n))
theorem fh.p8(h:fh n p):p.size=n:=by rw [h.ry.size_eq];simp
theorem fh.lt(h:fh n p)(A:i<n):p.getD i 0<n:=by
 have B:=h.p8
 have e:p.getD i 0=p[i]:=by simp [FO,B,A]
 have:p[i]∈p.toList:=by simp
 refine eR e ?_
 simpa using((h.ry.toList).mem_iff.mp this)
theorem fh.ne(h:fh n p)(A:i<n)(E:j<n)(B:i≠j):p.getD i 0≠p.getD j 0:=by
 have C:=h.p8
 have F:p.toList.Nodup:=(h.ry.toList).nodup_iff.mpr (by simpa using List.nodup_range)
 have e:∀{i},(A:i<n)->p.getD i 0=p.toList[i]'(by simpa [C] using A):=λ{i} A=>by simp [FO,C,A]
 refine eR (e A) (eR (e E) ?_)
 have D:=M_.mp F
 rcases n6 i j with z|z
 ·exact D i j _ _ z
 ·exact λq=>D j i _ _ (by exact Qm B z) q.symm
noncomputable def kO(A:X->X->an)(p:sK X)(m:X):Prop:=∀i j,i<j->j<m->A (p.getD i 0) (p.getD j 0)=M
noncomputable def zB(A:X->X->an)(p:sK X)(m:X):Prop:=∀i j,i<j->j<m->A (p.getD j 0) (p.getD i 0)=M
section
variable{n:X}{o:X->X->an}
theorem Vc(a:qb n o)(V:fh n p)(E:1≤m)(B:m<n)(C:kO o p m)(h:o (p.getD (m-1) 0) (p.getD m 0)=M):kO o p (m+1):=by
 intro i j A D
 rcases n6 j m with q|q
 ·exact C i j A q
 ·have:j=m:=by exact KE (L2 165093097272 N D) (L2 161223480 N q)
  subst this
  rcases n6 i (j-1)with q|q
  ·exact a.bD _ _ _ (V.lt (by exact L3 6416877000504 N A B)) (V.lt (by exact L3 6384629126968 N B (n7 _ _))) (V.lt B) (C i (j-1) q (by exact L2 199454655992 N (lm (L2 160929592 N A)))) h
  ·have:i=j-1:=by exact KE (L3 5445048992601912 N A (lm (L2 160929592 N A))) (L2 161223480 N q)
   subst this;exact h
theorem Xo(a:qb n o)(V:fh n p)(E:1≤m)(B:m<n)(C:zB o p m)(h:o (p.getD m 0) (p.getD (m-1) 0)=M):zB o p (m+1):=by
 intro i j A D
 rcases n6 j m with q|q
 ·exact C i j A q
 ·have:j=m:=by exact KE (L2 165093097272 N D) (L2 161223480 N q)
  subst this
  rcases n6 i (j-1)with q|q
  ·exact a.bD _ _ _ (V.lt B) (V.lt (by exact L3 6384629126968 N B (n7 _ _))) (V.lt (by exact L3 6416877000504 N A B)) h (C i (j-1) q (by exact L2 199454655992 N (lm (L2 160929592 N A))))
  ·have:i=j-1:=by exact KE (L3 5445048992601912 N A (lm (L2 160929592 N A))) (L2 161223480 N q)
   subst this;exact h
theorem O4(l:qb n o)(V:fh n p):∀(f m:X),1≤m->m+f≤n->kO o p m->
  (∀A,m≤A->A≤m+f->kO o p A->(A=m+f∨(A<n∧o (p.getD A 0) (p.getD (A-1) 0)=M))->Q A)->mj n o (kas_asc p f m) Q:=λf=>w9 f (λm Y Y C k=>k m (ul _) (ul _) C (.inl N)) λf E m D B C k=>by
  refine (bt (V.lt (by exact L3 0xbac13410bf38 N B)) (V.lt (by exact L4 0x5d6c98d93410bf38 N B (n7 _ _))) ?_)
  cases e:o (p.getD m 0) (p.getD (m-1) 0)with
  |true=>exact k m (ul _) (by exact L2 4330088216 N) C (.inr ⟨by exact L3 0xbac13410bf38 N B,e⟩)
  |false=>
   simp only [uD,pK]
   have:=l.Dt _ _ (V.lt (by exact L3 0xbac13410bf38 N B)) (V.lt (by exact L4 0x5d6c98d93410bf38 N B (n7 _ _))) (V.ne (i:=m) (j:=m-1) (by exact L3 0xbac13410bf38 N B) (by exact L4 0x5d6c98d93410bf38 N B (n7 _ _)) (by exact pC (L2 199454655992 N (lm (L1 159879951 N D))))) e
   exact E (m+1) (by exact L1 4243215 N) (by exact L3 0x9a0e42fc13410bf38 N B) (Vc l V D (by exact L3 0xbac13410bf38 N B) C this) λA a b c d=>k A (by exact L2 165092820472 N a) (by exact L3 0x810bf59c103a0bf38 N b) c (d.imp (λh=>by exact KE (L3 0x810bf59c183a0bf38 N h) (L3 0x98085fac9c3a0bf38 N h)) id)
theorem acN(d:qb n o)(V:fh n p):∀(f m:X),1≤m->m+f≤n->zB o p m->(∀B,m≤B->B≤m+f->zB o p B->Q (p,B,0))->mj n o (kas_desc f p m 0) Q:=λf=>w9 f (λm Y Y C k=>k m (ul _) (ul _) C) λf E m D A C k=>by
  refine (bt (V.lt (by exact L3 0xbac13410bf38 N A)) (V.lt (by exact L4 0x5d6c98d93410bf38 N A (n7 _ _))) ?_)
  cases e:o (p.getD m 0) (p.getD (m-1) 0)with
  |true=>
   simp only [qS,mF,gt_iff_lt,pK]
   exact E (m+1) (by exact L1 4243215 N) (by exact L3 0x9a0e42fc13410bf38 N A) (Xo d V D (by exact L3 0xbac13410bf38 N A) C e) λB a b c=>k B (by exact L2 165092820472 N a) (by exact L3 0x810bf59c103a0bf38 N b) c
  |false=>
   have:=d.Dt _ _ (V.lt (by exact L3 0xbac13410bf38 N A)) (V.lt (by exact L4 0x5d6c98d93410bf38 N A (n7 _ _))) (V.ne (i:=m) (j:=m-1) (by exact L3 0xbac13410bf38 N A) (by exact L4 0x5d6c98d93410bf38 N A (n7 _ _)) (by exact pC (L2 199454655992 N (lm (L1 159879951 N D))))) e
   simp only [uD,pK]
   exact (bt (V.lt (by exact L4 0x5d6c98d93410bf38 N A (n7 _ _))) (V.lt (by exact L3 0xbac13410bf38 N A)) (eR this (k m (ul _) (by exact L2 4330088216 N) C)))
theorem O5(V:fh n p):fh n (kas_rev p i j):=⟨(mirror_perm _ _ _ _).trans V.ry⟩
theorem BW{p:sK X}{i:X}:p.getD i 0=(p[i]?).getD 0:=by simp [Array.getD_eq_getD_getElem?]
theorem Ou{p:sK X}(V:fh n p){m k:X}(A:m≤n)(B:k<m):(kas_rev p 0 m).getD k 0=p.getD (m-1-k) 0:=by
 refine eR (BW ..) (eR (BW ..) ?_)
 unfold kas_rev
 refine eR (getElem?_mirror_all (by rw [V.p8];exact A) ..) (eR (jp ⟨Gc _,B⟩ ..) ?_)
 congr 2;exact afp
theorem aa3(d:qb n o){p:sK X}(V:fh n p){m:X}(D:1≤m)(C:m≤n)(H:zB o p m){Q:X×sK X->Prop}(k:∀A E,fh n E->1≤A->A≤n->kO o E A->Q (A,E)):mj n o (kas_tail3 m n p) Q:=by
 unfold kas_tail3
 refine wz (O4 d (O5 V) _ _ D (by exact L3 0x9a0e326d0738 N (lm (L2 161223480 N C))) (λi j B F=>?_) λA a b c Y=>k A _ (O5 V) (by exact L2 5273307321103 N D a) (by exact L4 0x4de0db0e7440eb38 N b (lm (L2 161223480 N C))) c)
 exact eR (Ou V C (by exact L3 6416877000504 N B F)) (eR (Ou V C F) (H _ _ (by exact afq B F) (by exact L3 6570915613414200 N (n7 _ _) (lm (L1 159879951 N D)))))
theorem aa4(f:qb n o){p:sK X}(V:fh n p)(B:2≤n){Q:X×sK X->Prop}(k:∀C F,fh n F->1≤C->C≤n->kO o F C->Q (C,F)):mj n o (kas_count n p) Q:=by
 unfold kas_count
 refine wz (O4 f V _ _ (ul 1) (by exact L2 0x990e1e6c85f8 N (lm (L1 159879952 N B))) (λi j A E=>nw (qJ A (Bj E)) (uC i)) λm a b c d=>?_)
 by_cases e:(m==n)=M
 ·rw [jp e];exact k m p V a (by exact L3 0x4d60da0bf240e5f8 N b (lm (L1 159879952 N B))) c
 ·refine eR (f0 e) ?_
  have H:m≠n:=λq=>e (by rw [q];simp)
  by_cases D:m>1
  ·exact eR (jp D) (bt (V.lt (by exact L1 193401616 N B)) (V.lt (by exact afr B b)) (eR (c 0 (m-1) (by exact L2 6524768337303311 N D (lm (L1 159880975 N D))) (by exact L2 199454655992 N (lm (L1 159879951 N a)))) (k m p V a (by exact L3 0x4d60da0bf240e5f8 N b (lm (L1 159879952 N B))) c)))
  ·refine eR (f0 D) ?_
   have:m=1:=by exact KE (L1 150737400 N (Mq D)) (L1 159879951 N a)
   subst this
   have I:o (p.getD 1 0) (p.getD 0 0)=M:=by
    rcases d with d|d
    ·exact nw (Nat.sub_eq_zero_iff_le.mp (Zt (d.symm:1+(n-1)=1+0))) (My B)
    ·exact d.2
   unfold kas_descPart
   refine wz (acN f V _ _ (by exact L0 4242927 N) (by exact L2 0x990e02f79b210bdf8 N (lm (L1 163258536720 N B))) (λi j A E=>?_) λC a b J=>?_)
   ·have:i=0∧j=1:=by exact ⟨KE (L2 5022742507984696 N A E) (L1 4878 N),KE (L1 154355678712 N E) (L2 160929592 N A)⟩
    rw [this.1,this.2];exact I
   ·simp only [gt_iff_lt,mF,pK]
    exact aa3 f V (by exact L1 163717055983 N a) (by exact L3 0x4d60da085efc90390bdf8 N b (lm (L1 163258536720 N B))) J k
theorem aa5(a:qb n o)(V:fh n p)(B:k<n)(J:kO o p k):∀(f l r:X),l≤r->r≤k->r-l≤f->(∀i,i<l->o (p.getD i 0) (p.getD k 0)=M)->(∀i,r≤i->i<k->o (p.getD k 0) (p.getD i 0)=M)->
  (∀E,E≤k->(∀i,i<E->o (p.getD i 0) (p.getD k 0)=M)->(∀i,E≤i->i<k->o (p.getD k 0) (p.getD i 0)=M)->Q E)->mj n o (kas_place p k f l r) Q:=λf=>w9 f (λl r C A F H I q=>q l (by exact L3 5317331817272 N C A) H λi h D=>I i (by exact L4 0x9ad9039c6c9ac91d8 N F h Vv) D) λf L l r C A F H I q=>by
  unfold kas_place
  by_cases e:l≥r
  ·rw [jp e];exact q l (by exact L3 5317331817272 N C A) H λi h D=>I i (by exact L3 5317331817272 N e h) D
  ·refine eR (f0 e) (bt (V.lt B) (V.lt (by exact zE B C A)) ?_)
   cases c:o (p.getD k 0) (p.getD ((l+r)/2) 0)with
   |true=>
    simp only [qS]
    refine L l _ (by exact afs C) (by exact aft C A) (by exact afu F) H (λi h D=>?_) q
    rcases n6 ((l+r)/2) i with z|z
    ·exact a.bD _ _ _ (V.lt B) (V.lt (by exact zE B C A)) (V.lt (by exact L3 6384662681400 N B D)) c (J _ _ z D)
    ·have:i=(l+r)/2:=by exact KE (L2 161223480 N z) (L2 161223480 N h)
     subst this;exact c
   |false=>
    simp only [uD,pK]
    have P:=a.Dt _ _ (V.lt B) (V.lt (by exact zE B C A)) (V.ne (i:=k) (j:=(l+r)/2) B (by exact zE B C A) (by exact afy A e)) c
    refine L _ r (by exact afv e) A (by exact afw F) (λi h=>?_) I q
    rcases n6 i ((l+r)/2)with z|z
    ·exact a.bD _ _ _ (V.lt (by exact afx B C A h)) (V.lt (by exact zE B C A)) (V.lt B) (J _ _ z (by exact Qn A e)) P
    ·have:i=(l+r)/2:=by exact KE (L2 165093097272 N h) (L2 161223480 N z)
     subst this;exact P
theorem K7{p:sK X}(V:fh n p){k l i:X}(B:k<n)(A:l≤k):(bubble p k (k-l)).getD i 0=if i=l then p.getD k 0 else if l<i∧i≤k then p.getD (i-1) 0 else p.getD i 0:=by
 refine eR (BW ..) (eR (getElem?_bubble (by rw [V.p8];exact B) _ (by exact L2 161223480 N (n7 _ _)) ..) ?_)
 have e:k-(k-l)=l:=by exact KE (L4 0x4cecda0e367d0738 N (lm (L2 161223480 N A)) (lm (L3 166168692536 N (lm (L2 161223480 N A))))) (L4 0x4de4fa0e366d0738 N (lm (L2 161223480 N A)) (lm (L3 166168692536 N (lm (L2 161223480 N A)))))
 refine eR (e ..) ?_
 repeat' split
 all_goals rw [BW]
theorem adX(a:qb n o){Q:sK X->Prop}:∀(f k:X) {p:sK X},fh n p->k+f=n->kO o p k->(∀L,fh n L->kO o L n->Q L)->mj n o (kas_bin f p k) Q:=λf=>w9 f (λk {p} V C D q=>q p V (eL C D)) λf R k {p} V C D q=>by
  refine wz (aa5 a V (by exact L3 0xbac1b410bf38 N C) D _ _ _ (Gc _) (ul _) (by exact L2 165094917592 N (lm (L1 4878 N))) (λi h=>nw h (uC i)) (λi h S=>nw S (FL h)) λl P U Y=>R (k+1) (⟨(bubble_perm _ _ _).trans V.ry⟩) (by exact KE (L3 0x9a0e42fc1b410bf38 N C) (L3 0x81c85f8d1f410bf38 N C)) (λi j A H=>?_) q)
  have I:k<n:=by exact L3 0xbac1b410bf38 N C
  refine eR (K7 V I P) (eR (K7 V I P) ?_)
  by_cases E:i=l
  ·exact eR (jp E) (eR (f0 (by exact pC (L3 6384731821880 N A E))) (eR (jp (by exact ⟨L3 6384731821880 N A E,L2 165093097272 N H⟩)) (Y _ (by exact L4 0x9bd1f217ecfac1738 N A E (lm (L2 160929592 N A))) (by exact L3 0x5ce8d80bf450bf38 N H (lm (L2 160929592 N A))))))
  ·refine eR (f0 E) ?_
   by_cases F:l<i∧i≤k
   ·exact eR (jp F) (eR (f0 (by exact pC (L3 6384662681400 N A F.1))) (eR (jp (by exact ⟨L3 6384662681400 N A F.1,L2 165093097272 N H⟩)) (D _ _ (by exact L4 0x2ef47c85fb3602fd1738 N A (lm (L2 160929592 N F.1)) (lm (L2 160929592 N A))) (by exact L3 0x5ce8d80bf450bf38 N H (lm (L2 160929592 N A))))))
   ·refine eR (f0 F) ?_
    by_cases J:j=l
    ·rw [jp J];exact U _ (by exact L3 6416910554936 N A J)
    ·refine eR (f0 J) ?_
     by_cases B:l<j∧j≤k
     ·refine eR (jp B) ?_
      rcases n6 i (j-1)with z|z
      ·exact D _ _ z (by exact L3 6537928117130040 N B.2 (lm (L2 160929592 N B.1)))
      ·exact nw ⟨ES (io (Yz B.1) z) (SB E),Bj (qJ A (MC B.2))⟩ F
     ·rw [f0 B];exact D _ _ A (by exact afz P H J B)
theorem acO(a:qb n o)(D:2≤n){Q:sK X->Prop}(q:∀A,fh n A->kO o A n->Q A):mj n o (kas_sort n) Q:=by
 unfold kas_sort
 refine wz (aa4 a ⟨ZM⟩ D λm p V E B C=>?_)
 dsimp only
 by_cases c:m<n
 ·refine eR (jp c) ?_
  have e:wT m 1=m:=by exact afA E
  exact eR e (adX a _ _ V (by exact KE (L3 0x9a0e326d0738 N (lm (L2 161223480 N B))) (L3 0x81c6747d0738 N (lm (L2 161223480 N B)))) C q)
 ·exact eR (f0 c) (q p V (KE B (yw.mp c)▸C))
end
theorem sd(a b:al)(r s:W al):dZ (a::r) (b::s)=if a<b then M else if a=b then dZ r s else bn:=by
 refine (?_:(bif ci (a<b)then M else bif ci (a=b)then dZ r s else bn)=_)
 by_cases h:a<b
 ·simp [h]
 ·by_cases e:a=b<;>simp [h,e]
theorem EE:∀{r s:W al},r≠s->dZ r s=bn->dZ s r=M
 |[],[],h,_=>nw N h
 |[],_::_,_,h=>by cases h
 |_::_,[],_,_=>N
 |a::r,b::s,h,e=>by
  rw [sd]at e⊢
  by_cases A:a<b
  ·rw [jp A]at e;cases e
  ·by_cases B:a=b
   ·subst B
    rw [f0 A,jp N]at e
    exact eR (f0 A) (eR (jp N) (EE (λq=>h (by rw [q])) e))
   ·exact eR (jp (afQ A B)) N
theorem tZ:∀{r s:W al},dZ r s=M->dZ s r=bn
 |[],[],h=>by cases h
 |[],_::_,_=>N
 |_::_,[],h=>by cases h
 |a::r,b::s,h=>by
  rw [sd]at h⊢
  by_cases A:a<b
  ·rw [f0 (afR A),f0 (afS A)]
  ·rw [f0 A]at h
   by_cases B:a=b
   ·subst B
    rw [jp N]at h
    exact eR (f0 A) (eR (jp N) (tZ h))
   ·rw [f0 B]at h;cases h
theorem A6:∀{r s t:W al},dZ r s=M->dZ s t=M->dZ r t=M
 |[],[],_,h,_=>by cases h
 |_::_,[],_,h,_=>by cases h
 |_,_::_,[],_,k=>by cases k
 |[],_::_,_::_,_,_=>N
 |a::r,b::s,c::t,h,k=>by
  rw [sd]at h k⊢
  by_cases C:a<b
  ·by_cases A:b<c
   ·rw [jp (afT C A)]
   ·rw [f0 A]at k
    by_cases B:b=c
    ·rw [jp (afU C B)]
    ·rw [f0 B]at k;cases k
  ·rw [f0 C]at h
   by_cases D:a=b
   ·rw [jp D]at h
    by_cases A:b<c
    ·rw [jp (afV D A)]
    ·rw [f0 A]at k
     by_cases B:b=c
     ·rw [jp B]at k
      exact eR (f0 (afW C A)) (eR (jp (afX D B)) (A6 h k))
     ·rw [f0 B]at k;cases k
   ·rw [f0 D]at h;cases h
theorem Kr(a:W al):∀(l:W (W al)),(zf a l).Perm (a::l):=λl=>cB l (yO _) λb r A=>bE (z:=zf a (b::r)) N (λY=>yO _) λY=>((A).cons b).trans (Na a b r)
theorem vQ:∀(l:W (W al)),(fb l).Perm l:=λl=>cB l (yO _) λa r A=>(Kr a _).trans ((A).cons a)
theorem Uk:∀{l:W (W al)},l.Pairwise (λx y=>dZ x y=M)->a∉l->(zf a l).Pairwise (λx y=>dZ x y=M):=λ{l}=>cB l (λY Y=>ZO ..) λb r E h C=>by
  rw [wl,wj]at C
  have D:=sQ.mp h
  refine bE (z:=zf a (b::r)) N (λA=>?_) λA=>?_
  ·refine sQ.mpr ⟨λx B=>?_,h⟩
   rcases wl.mp B with rfl|B
   ·exact A
   ·exact A6 A (D.1 x B)
  ·refine sQ.mpr ⟨λx B=>?_,E D.2 C.2⟩
   rcases wl.mp ((Kr a r).mem_iff.mp B)with rfl|B
   ·exact EE C.1 A
   ·exact D.1 x B
theorem yf:∀{l:W (W al)},l.Nodup->(fb l).Pairwise (λx y=>dZ x y=M):=λ{l}=>cB l (λY=>Nb) λa r A h=>by
  rw [uj]at h
  exact Uk (A h.2) λq=>h.1 ((vQ r).mem_iff.mp q)
theorem AZ{l m:W (W al)}(A:l.Pairwise (λx y=>dZ x y=M))(B:m.Pairwise (λx y=>dZ x y=M))(p:l.Perm m):l=m:=
 p.eq_of_pairwise (λa b Y Y h k=>by rw [tZ h]at k;cases k) A B
theorem ye{q:W (W al)}{r:W al}{A:W (W al)}(h:r∉q):e_ (r::A) q=e_ A (q++[r]):=by
 refine (?_:(bif ci (r∈q)then e_ A q else e_ A (q++[r]))=_)
 exact eR (EQ h) N
theorem AW{q:W (W al)}{r:W al}{A:W (W al)}(h:r∈q):e_ (r::A) q=e_ A q:=by
 refine (?_:(bif ci (r∈q)then e_ A q else e_ A (q++[r]))=_)
 exact eR (FB h) N
theorem LI:∀{A q:W (W al)} {r:W al},r∈e_ A q->r∈A∨r∈q:=λ{A}=>no_implicit_lambda% (cB A (@λY Y h=>.inr h) λa A B {q} {r} h=>by
  by_cases C:a∈q
  ·rw [AW C]at h
   exact (B h).imp (wv _) id
  ·rw [ye C]at h
   rcases B h with h|h
   ·exact .inl (wv _ h)
   ·rcases pI.mp h with h|h
    ·exact .inr h
    ·rw [IR.mp h];exact .inl (wf ..))
theorem Ks:∀{A q:W (W al)},q.Nodup->(e_ A q).Nodup:=λ{A}=>no_implicit_lambda% (cB A (@λY h=>h) λa A C {q} h=>by
  by_cases B:a∈q
  ·rw [AW B];exact C h
  ·refine eR (ye B) (C (yv.mpr ⟨h,by simp,?_⟩))
   intro x E y D e
   rw [IR]at D
   subst D;subst e
   exact B E)
theorem O6{n:X}{B:X->X->an}{D:Type}{A:X->X->(an->ce->Prop)->ce->Prop}(E:∀i j C,i<n->j<n->C (B i j) s->A i j C s){Q:D->Prop}{G:D->ce->Prop}(k:∀a,Q a->G a s):∀{t:KasT D},mj n B t Q->t.kasWp A G s
 |.ret a,h=>k a h
 |.ask i j f,h=>E i j _ h.1 h.2.1 (O6 E k (t:=f (B i j)) h.2.2)
section
variable{w:lw}{A:pc}{E:bm->ce->Prop}{s:ce}
noncomputable def dy(h:li)(v:bm)(r:W al):Prop:=∃a B n,v=.ref a∧h.get? a=O (f_ B n)∧n4 B.toList r
theorem dy.ct(x:dy h v r)(k:∀a o,v=.ref a->h.get? a=O o->B.get? a=O o):dy B v r:=by
 obtain ⟨a,C,n,e,D,F⟩:=x
 exact (HW a C n e (k _ _ e D) F)
theorem adY(h:n4 F r):∀{B:an} {C:W bm} {t:W al},n4 C t->B=ci (F.length<C.length)->∀i,Q (dZ r t) s->KatLex pw w A M B Q (F.zip C) i s:=by
 induction h with
 |nil=>
  intro B C t k D i q
  cases k with
  |nil=>subst D;exact q
  |cons _ _ _=>
   have:B=M:=by rw [D];simp
   subst this
   exact kat_nil q
 |cons a J L H=>
  intro B C t k D i q
  cases k with
  |nil=>
   subst D
   exact kat_nil (by simp;exact q)
  |cons b P I=>
   rw [sd]at q
   refine kat_cons (PySem.wpAny_eqBool_int (kat_go (λe=>kat_yes ?_) λe=>kat_no ?_))
   ·have e:a=b:=by simpa using e
    rw [f0 (afB e),jp e]at q
    exact H I (by rw [D];simp) (i+1) q
   ·have e:a≠b:=by simpa using e
    have q:Q (ci (a<b)) s:=by
     by_cases h:a<b
     ·rw [jp h]at q;exact (FB h).symm▸q
     ·rw [f0 h,f0 e]at q;exact (EQ h).symm▸q
    cases R:(M&&i==0)with
    |true=>exact oneLt_int q
    |false=>exact kat_one _ _ (PySem.P.lt_int q)
theorem adZ(B:dy s.heap x r)(C:dy s.heap y t)(q:Q (dZ r t) s):ca (cr pw w) A (keyLt' (tuples' M) x y) Q E s:=by
 obtain ⟨a,J,n,rfl,D,F⟩:=B
 obtain ⟨b,L,m,rfl,H,I⟩:=C
 exact kat_lt D N H N (adY F I (by simp) 0 q)
end
structure Hz(h:li)(vs:W bm)(rs:W (W al)):Prop where
 c_:vs.length=rs.length
 eY:∀i,i<vs.length->dy h (vs.getD i .none) (rs.getD i [])
 ne:∀r∈rs,r≠[]
 mX:rs.Nodup
 kY:vs.length<64
theorem acP{l:W (W al)}(C:l.Nodup){i j:X}(D:i<l.length)(E:j<l.length)(A:i≠j):l.getD i []≠l.getD j []:=by
 refine eR (BJ) (eR (FP D) (eR (BJ) (eR (FP E) ?_)))
 have B:=M_.mp C
 rcases n6 i j with z|z
 ·exact B i j _ _ z
 ·exact λq=>B j i _ _ (Qm A z) q.symm
theorem Eg{A:Type}{d:A}:∀(l:W A),(mJ l.length).map (λi=>l.getD i d)=l:=λl=>by
 apply ZP
 ·simp
 ·intro i C B
  simp only [ZQ,List.getElem_range]
  rw [BJ,FP B];rfl
noncomputable def xC(A:W (W al))(i j:X):an:=dZ (A.getD i []) (A.getD j [])
theorem ad0{A:W (W al)}(C:A.Nodup):qb A.length (xC A)where
 Dt:=λY Y D E B h=>EE (acP C D E B) h
 agF:=λY Y Y Y h=>tZ h
 bD:=λY Y Y Y Y Y F H=>A6 F H
theorem Vd(E:A.Nodup)(V:fh A.length p)(F:kO (xC A) p A.length):p.toList.map (λi=>A.getD i [])=fb A:=by
 refine AZ ?_ (yf E) ?_
 ·rw [M_]
  intro i j D B C
  simp only [sw,wq,V.p8]at D B
  have:=F i j C B
  have e:∀{i},(h:i<A.length)->p.getD i 0=p[i]'(eR V.p8 h):=λ{i} h=>by simp [FO,V.p8,h]
  rw [e D,e B]at this
  have this:dZ _ _=M:=this
  simpa using this
 ·refine ZR ?_ (vQ A).symm
  have:=(V.ry.toList).map λi=>A.getD i []
  rw [show(mG (mJ A.length)).toList=mJ A.length by simp,Eg]at this
  exact this
section
variable{w:lw}{A:pc}{s:ce}
theorem LJ:∀{C:W bm} {E:W (W al)},C.length=E.length->(∀i,i<C.length->dy h (C.getD i .none) (E.getD i []))->(∀r∈E,r≠[])->∃F,KatTups h C F∧F.length=C.length∧∀v∈F,∃i t,v=.int i t
 |[],[],_,_,_=>(cq [] KatTups.nil N (λY h=>nomatch h))
 |v::C,r::E,H,J,I=>by
  obtain ⟨F,S,U,Z⟩:=LJ (C:=C) (E:=E) (by simpa using H) (λi B=>J (i+1) (by simp;exact L2 194778936 N B)) λr J=>I r (wv _ J)
  obtain ⟨a,R,n,e,f,B⟩:=J 0 (by simp)
  have e:v=.ref a:=e
  subst e
  have L:=I r (wf ..)
  have B:n4 R.toList r:=B
  cases D:R.toList with
  |nil=>rw [D]at B;cases B;exact nw N L
  |cons u j=>
   rw [D]at B
   cases B with
   |cons z t B=>
    refine (cq (.int z t::F) (KatTups.cons f N N ?_ S) (by simp [U]) (λv P=>?_))
    ·rw [←ZS,D];rfl
    ·rcases wl.mp P with rfl|P
     ·exact (dC z t N)
     ·exact Z v P
 |[],_::_,H,_,_=>by cases H
 |_::_,[],H,_,_=>by cases H
theorem Ul(S:s.heap.get? a=O (FS "list" B.toArray n))(R:Hz s.heap B J)
  (h:∀p:sK X,fh B.length p->p.toList.map (λi=>J.getD i [])=fb J->P (.done (.ret .none)) {s with heap:=sortedHeap s.heap a B (mG (p.toList.map λi=>B.getD i Uf))}):
  ca (cr pw w) A (Builtin.«list.sort» ⟨[.ref a],[]⟩) P a9 s:=by
 refine eR (list_sort_plain ..) ?_
 have E:=R.kY
 have ha:a<s.heap.objs.size:=FM S
 refine dL (listItems_at S N (dL (Nc S N ?_ (eR wP (eR pG (L1 0x83a0de380ea3a8ea3a3f051ca98 N E))) (Gc _))))
 obtain ⟨e1,U⟩:∃e1,(s.heap.update a (lL λY=>#[])).get? a=O (FS "list" #[] e1):=⟨_,Nd S (λY=>#[])⟩
 refine dL (seqEpoch_at U N ?_)
 refine dL (E3 ?_ (by rw [pG];refine (?_:B.length≤_);exact L1 0x83a0de380ea3a8ea3a3f051ca98 N E))
 refine dL (Bp ?_ (Gc _))
 refine sF ?_
 have F:(((s.heap.update a (lL λY=>#[])).push (FS "tuple" B.toArray 0)).push (FS "list" #[] 0)).get? a=O (FS "list" #[] e1):=eR (ZU _ _ _ (by rw [size_push',Heap.size_update];exact PP (sO ha))) (eR (ZU _ _ _ (by rw [Heap.size_update];exact PP ha)) U)
 have kp:∀b o,b≠a->s.heap.get? b=O o->(((s.heap.update a (lL λY=>#[])).push (FS "tuple" B.toArray 0)).push (FS "list" #[] 0)).get? b=O o:=λb o hb e=>
  tz _ (tz _ ((yL _ _ _ _ hb).trans e))
 refine (?_:ca (cr pw w) A _ P a9 {s with heap:=((s.heap.update a (lL λY=>#[])).push (FS "tuple" B.toArray 0)).push (FS "list" #[] 0)})
 dsimp only
 have Z:B.toArray.size=B.length:=by simp
 by_cases H:B.toArray.size<2
 ·refine eR (jp H) (eR (jp H) (kS (eR (StateT.run_pure ..) (kS ?_))))
  dsimp only
  refine dL (seqEpoch_at F N ?_)
  refine dL (Nc F N ?_ (Gc _) (hsz2:=by rw [ZV];refine (?_:(pairsOf B).size≤_);rw [pairsOf_size,pG];exact L1 0x205e3a0de380ea3a8ea3a3f051ca98 N E))
  refine gA (by simp only [ZW,uD,pK];decide) ?_
  have e0:(arrOf (SortSt.mk' general' (B.toArray.zip B.toArray) #[] 7 am)).map (·.2)=mG ((mG (mJ B.length)).toList.map λi=>B.getD i Uf):=by
   refine (?_:(pairsOf B).map (·.2)=_)
   apply M9.mp
   refine eR (ZX ..) (eR (pairsOf_toList ..) (eR (List.map_snd_zip (ul _) ..) (?_:B=(mJ B.length).map _)))
   exact eR (Eg ..) N
  have f:=h (mG (mJ B.length)) ⟨ZM⟩ (by
   refine (?_:(mJ B.length).map _=_)
   refine eR (R.c_ ..) (eR (Eg ..) ?_)
   have hl:=R.c_
   match J,hl,H with
   |[],_,_=>rfl
   |[_],_,_=>rfl
   |_::_::_,hl,H=>rw [Z,hl]at H;exact nw H (FL (E' ..)))
  rw [←e0]at f
  exact lf f
 ·refine eR (f0 H) (eR (f0 H) ?_)
  have L:2≤B.length:=L2 5274379754296 N Z (Mq H)
  have D:∀i,i<B.length->dy (((s.heap.update a (lL λY=>#[])).push (FS "tuple" B.toArray 0)).push (FS "list" #[] 0)) (B.getD i .none) (J.getD i []):=λi hi=>by
   refine (R.eY i hi).ct λb o e eo=>kp b o (λq=>?_) eo
   subst q
   obtain ⟨b',us,k,e',hU,_⟩:=R.eY i hi
   rw [e]at e';cases e'
   have qx:=lc Obj.cls (ii (S.symm.trans hU))
   simp at qx
  obtain ⟨fs,t1,t2,t3⟩:=LJ R.c_ D R.ne
  refine dL (kat_kind (T:=.type "int") t1 (L2 6371844854544 N L t2) (λv hv=>?_) (by rfl) ?_)
  ·obtain ⟨i,t,rfl⟩:=t3 v hv
   exact Looks.of_pure N
  ·have cZ:mj B.length (xC J) (kas_sort B.length) λp=>fh B.length p∧kO (xC J) p B.length:=eR R.c_ (acO (ad0 R.mX) (by rw [←R.c_];exact L) λp a b=>⟨a,b⟩)
   refine dL (ss (kat_run (ks:=B) (vs:=B) (κ:=tuples' (uE "int" !=uE "tuple"))
    (Q:=λI y=>∃p:sK X,p.size=B.length∧arrOf I=p.map (kas_item (B.toArray.zip B.toArray))∧failedOf I=am∧(fh B.length p∧kO (xC J) p B.length)∧y={s with heap:=(((s.heap.update a (lL λY=>#[])).push (FS "tuple" B.toArray 0)).push (FS "list" #[] 0))})
    (G:=λp y=>(fh B.length p∧kO (xC J) p B.length)∧y={s with heap:=(((s.heap.update a (lL λY=>#[])).push (FS "tuple" B.toArray 0)).push (FS "list" #[] 0))})
    N L E (λp' I y a1 a2 a3 a4=>(dG p' a1 a2 a3 a4)) (O6 (λi j C hi hj hC=>?_) (λp hp=>⟨hp,N⟩) cZ)) ?_ λY Y e=>e)
   ·exact adZ (D i hi) (D j hj) hC
   ·rintro ⟨⟨⟩,I⟩ y ⟨p,hp,har,hf,⟨V,ak3⟩,rfl⟩
    dsimp only
    refine eR (kat_snds (ks:=B) (vs:=B) N har) (dL (seqEpoch_at F N (dL (Nc F N ?_ (Gc _) (io (nY (eR (wP ..) (eR (sw ..) (eR (wq ..) (eR (hp ..) N))))) (eR pG (L1 0x205e3a0de380ea3a8ea3a3f051ca98 N E)))))))
    refine eR hf ?_
    refine gA (by simp only [ZW,uD,pK];decide) ?_
    refine lf (h p V (Vd R.mX (eL R.c_ V) (eL R.c_ ak3)))
end
section
variable{w:lw}{d:W (be×be)}{A:pc}{s:ce}
theorem K8(H:ca (cr pw w) A.in1 (collect x) C a9 s)
  (k:∀E B,C E B->∃I,Hz B.heap E I∧∀p:sK X,fh E.length p->p.toList.map (λi=>I.getD i [])=fb I->∀J c D,B.heap.get? D=am->J.get? D=O (fM (mG (p.toList.map λi=>E.getD i Uf)) c)->(∀b o,B.heap.get? b=O o->J.get? b=O o)->Q (.ref D) {B with heap:=J}):
  ca (cr pw w) A (po (.builtin "sorted") [x]) Q a9 s:=by
 refine Calls.call_function_entry kind_sorted plain_sorted entry_sorted (args_sorted1 _) ?_
 unfold Builtin.«sorted»
 refine dL (m:=checkCount "sorted" 1 1 _) (lf (dL (ss H (λE B Z=>?_) λY Y f=>f)))
 obtain ⟨I,R,a⟩:=k E B Z
 refine dL (Bp ?_ (eR pG (L1 0x83a0de380ea3a8ea3a3f051ca98 N R.kY)))
 have F:(B.heap.push (FS "list" E.toArray 0)).get? B.heap.objs.size=O (FS "list" E.toArray 0):=Ix _ N
 have h:Hz (B.heap.push (FS "list" E.toArray 0)) E I:=⟨R.c_,λi j=>(R.eY i j).ct λb o Y e=>tz _ e,R.ne,R.mX,R.kY⟩
 refine gy (qT slot_list_sort (ay _ F N) entry_list_sort (Ul (s:={B with heap:=B.heap.push (FS "list" E.toArray 0)}) F h λp V l=>(ay _ N ?_)) (args_list_sort _))
 have n:B.heap.get? B.heap.objs.size=am:=kJ _
 have r:=FM F
 refine lf (ay _ N ?_)
 obtain ⟨L,P⟩:∃L,((B.heap.push (FS "list" E.toArray 0)).update B.heap.objs.size (lL λY=>#[])).get? B.heap.objs.size=O (FS "list" #[] L):=⟨_,Nd F (λY=>#[])⟩
 have S:((((B.heap.push (FS "list" E.toArray 0)).update B.heap.objs.size (lL λY=>#[])).push (FS "tuple" E.toArray 0)).push (FS "list" #[] 0)).get? B.heap.objs.size=O (FS "list" #[] L):=
  tz _ (tz _ P)
 refine a p V l _ _ _ n (Nd S λY=>_) λb o e=>?_
 have U:b≠B.heap.objs.size:=PP (FM e)
 exact (yL _ _ _ _ U).trans (tz _ (tz _ ((yL _ _ _ _ U).trans (tz _ e))))
theorem js.Q{p:PV}{l:W PV}{r:W al}{G:PV->W al->Prop}(e:js (p::l)=O r)(f:∀i m,js l=O m->G (.ab i) (i::m)):G p r:=by
 cases p<;>first|exact aH e|exact aQ (On.mp e) λm e q=>q▸f _ m e
theorem aa6:∀{l:W PV} {B:W bm} {P:PM} {r:W al},bH w d P B l->js l=O r->n4 B r∧l=r.map .ab:=λ{l}=>no_implicit_lambda% (cB l (@λB P r x e=>eR (show B=[] from x.I) (eL (ii e) ⟨.nil,N⟩)) λp l C {B} {P} {r} x e=>by
  revert x
  refine js.Q (G:=λp r=>bH w d P B (p::l)->n4 B r∧p::l=r.map .ab) e λi m e x=>bX x.I λv B q D E=>(show∃t,v=.int i t from D.I).elim λt F=>?_
  have h:=C E e
  exact eR q (eR F ⟨.cons _ _ h.1,lc (PV.ab i::·) h.2⟩))
theorem Xp(B:P.ag h)(x:ar w d P v p)(e:zv p=O r):dy h v r∧p=.af (r.map .ab):=by
 cases p<;>first
  |exact aH e
  |exact cw x.I λa C n q D E F=>(λh=>⟨(HW a C.toArray n q (B _ _ D) h.1),lc PV.af h.2⟩) (aa6 E e)
structure aeM(w:lw)(d:W (be×be))(P:PM)(h:li)(vs:W bm)(l:W PV)(rs:W (W al)):Prop where
 c_:vs.length=rs.length
 eq:l=dE rs
 xn:∀i,i<vs.length->dy h (vs.getD i .none) (rs.getD i [])
 Ib:∀i,i<vs.length->ar w d P (vs.getD i .none) (.af ((rs.getD i []).map .ab))
theorem NS(F:P.ag h):∀{l:W PV} {C:W bm} {D:W (W al)},bH w d P C l->j0 l=O D->aeM w d P h C l D:=λ{l}=>no_implicit_lambda% (cB l (@λC D x e=>eR (show C=[] from x.I) (eL (ii e) ⟨N,N,λi B=>nw B (uC _),λi B=>nw B (uC _)⟩)) λp l H {C} {D} x e=>o2.E e λa b I J q=>bX x.I λv S L E R=>by
  have k:=Xp F E I
  have j:=H R J
  rw [k.2]at E
  refine eL q (eR L (eR k.2 ?_))
  exact ⟨lc (· +1) j.c_,lc (PV.af _::·) j.eq,λi B=>match i,B with
   |0,_=>k.1
   |i+1,B=>j.xn i (vY B),λi B=>match i,B with
   |0,_=>E
   |i+1,B=>j.Ib i (vY B)⟩)
theorem V7:∀{B:W (W al)},Cb B=M->B.Nodup:=λ{B}=>cB B (λY=>sy) λa r C h=>B2 h λD E=>uj.mpr ⟨Nf (zP D),C E⟩
theorem Ov{C:W bm}{D:W (W al)}(E:∀i,i<C.length->ar w d P (C.getD i .none) (.af ((D.getD i []).map .ab))){p:sK X}(V:fh C.length p)(e:p.toList.map (λi=>D.getD i [])=fb D):
  bH w d P (p.toList.map λi=>C.getD i Uf) (dE (fb D)):=by
 refine eL e ?_
 have B:∀i∈p.toList,i<C.length:=λi F=>by
  simpa using((V.ry.toList).mem_iff.mp F)
 revert B
 generalize p.toList=q
 intro B
 induction q with
 |nil=>exact .aU
 |cons i q H=>exact .bg (E i (B i (wf ..))) (H λj I=>B j (wv _ I))
theorem Xq(J:P.ag s.heap)(x:ar w d P v (.aj l))(e:j0 l=O H)(L:ta H=M):bV w d A P s (po (.builtin "sorted") [v]) (.aj (dE (fb H))):=by
 refine B2 L λL y=>B2 L λh1 h2=>cw x.I λa I n q ha hl hn=>?_
 have k:=NS J hl e
 have E:I.length≤60:=k.c_▸(ww y)
 refine eR q ?_
 refine K8 (C:=λh j=>h=I∧∃m,j={s with heap:=m}∧∀b o,s.heap.get? b=O o->m.get? b=O o) (collect_list (vs:=I) (cq _ (J _ _ ha) N ⟨_,N⟩) (ff N (ay _ N (λb o F=>(yL _ _ _ _ (PP (FM F))).trans (tz _ F)))) (io E (io (by decide) f6)))
  λh j z=>z.elim λeu z=>aQ z λAQ es R=>?_
 refine eR eu (eR es (ay H ⟨k.c_,λi hi=>(k.xn i hi).ct λb o Y F=>R b o F,λr hr q=>bY (show Po []=M from q▸Do.mp h1 r hr),V7 h2,W1 E (by decide)⟩ (λp V hp S c D hD U Z=>?_)))
 have B:bH w d P (p.toList.map λi=>I.getD i Uf) (dE (fb H)):=Ov k.Ib V hp
 have f:=bq.cS (t:=s.toks) J (A:=S) (λb o F=>Z b o (R b o F)) U (nV R hD)
 exact (ay _ f (.aj (PM.ir ..) (B.bU f.le) (eL (B.bO ..) (eR (sw ..) (eR (wq ..) (eR (V.p8 ..) (io E (by decide))))))))
end
noncomputable def cP(r:W al):al:=reduceHash (Builtin.Tuple.tupleHashOf (r.map hashInt))
set_option genInjectivity false in
structure gY where
 t:qR
 hs:sK al
noncomputable def yU(A:an):gY:=⟨.fresh 0 0 A,#[]⟩
noncomputable def wA(x:gY)(h:al):im Ng:=x.t.probe (λi=>(x.hs[i]?).getD 0) h (x.t.probeStart h)
noncomputable def aa7(t:qR)(A:sK al):im (gY×sK X):=(t.relaid A (Nh A.size)).map λp=>(⟨p.1,p.2.filterMap (A[·]?)⟩,p.2)
noncomputable def rd(t:qR):an:=(mJ (t.place.size+1)).all λi=>FQ t.place (match i with|0=>0|i+1=>t.place.getD i 0+1)==i
noncomputable def uP(x:gY):an:=x.t.fits x.hs.size&&!x.t.gaveWay&&x.t.plain&&rd x.t&&u8 x.hs.size 60
noncomputable def O7(x:gY)(h:al)(j:X):im gY:=
 bif(x.t.put j).1.tooFull then(aa7 (x.t.put j).1 (KB x.hs (x.t.put j).2 h)).bind λp=>gd (u8 (SetTable.sizeAbove (Nh (x.hs.size+1))) 4096&&(p.2.toList.isPerm (mJ (x.hs.size+1))&&((x.t.put j).1.fits (x.hs.size+1)&&uP p.1))) (O p.1)
 else gd (uP ⟨(x.t.put j).1,KB x.hs (x.t.put j).2 h⟩) (O ⟨(x.t.put j).1,KB x.hs (x.t.put j).2 h⟩)
noncomputable def B7(o:im Ng)(f:X->im gY):im gY:=match o with
 |some (.empty j am)=>f j
 |_=>am
noncomputable def Cn(o:im Ng)(f:X->an):an:=match o with
 |some (.candidate _ i _)=>f i
 |_=>bn
theorem B7.E:B7 o f=O y->∃j,o=O (.empty j am)∧f j=O y:=by
 cases o with
 |none=>exact λh=>nomatch h
 |some m=>cases m with
  |empty j d=>cases d with
   |none=>exact λh=>(ay j N h)
   |some d=>exact λh=>nomatch h
  |candidate a b c=>exact λh=>nomatch h
theorem Cn.E:Cn o f=M->∃j i n,o=O (.candidate j i n)∧f i=M:=by
 cases o with
 |none=>exact λh=>nomatch h
 |some m=>cases m with
  |empty j d=>exact λh=>nomatch h
  |candidate a b c=>exact λh=>(nu a b c N h)
noncomputable def uY(x:gY)(h:al):im gY:=B7 (wA x h) (O7 x h)
noncomputable def Co(x:gY)(h:al):an:=Cn (wA x h) λi=>x.hs[i]? ==O h
noncomputable def w6(A:an)(B:W (W al)):im gY:=B.foldl (λo r=>o.bind λx=>uY x (cP r)) (O (yU A))
noncomputable def p7:W (W al):=[[0],[1],[2]]
noncomputable def tn:W (W al):=[[0,0],[0,1],[0,2],[1,0],[1,1],[1,2],[2,0],[2,1],[2,2]]
noncomputable def CE:W (W (W al)):=[[],[[0]],[[1]],[[2]],[[0],[1]],[[0],[2]],[[1],[0]],[[1],[2]],[[2],[0]],[[2],[1]],
 [[0],[1],[2]],[[0],[2],[1]],[[1],[0],[2]],[[1],[2],[0]],[[2],[0],[1]],[[2],[1],[0]]]
noncomputable def aeN(A:an)(q:W (W al))(r:W al):an:=(w6 A q).any λx=>bif ci (r∈q)then Co x (cP r)else(uY x (cP r)).isSome&&ci (q++[r]∈CE)
theorem agG:([M,bn].all λA=>CE.all λq=>p7.all λr=>aeN A q r)=M:=by kernel_rfl
noncomputable def HA(l:W (W al)):gY->an:=lr (λ_=>M) (λr _ A x=>(uY x (cP r)).any A&&A x) l
theorem agH:([M,bn].all λA=>HA tn (yU A))=M:=by kernel_rfl
section
variable{w:lw}{A:pc}{E:bm->ce->Prop}{s:ce}
theorem Ve(h:n4 B r):ItemsAre (intKind pw w) r B:=by
 induction h with
 |nil=>exact .nil
 |cons n t h C=>exact .cons (by simp [intKind,Value.isInt]) C
theorem dy.z5(x:dy h (.ref a) r):IsTupleKey (intKind pw w) h r a:=by
 obtain ⟨b,B,n,e,C,D⟩:=x
 cases e
 exact (gB _ B n C N N (Ve D))
theorem dy.tE(x:dy h v r):∃a,v=.ref a:=let⟨a,_,_,e,_⟩:=x;⟨a,e⟩
theorem Kt(h:n4 B r):∀v∈B,∃i t,v=.int i t:=by
 induction h with
 |nil=>exact λY h=>nomatch h
 |cons i t h C=>exact λv D=>(wl.mp D).elim (λe=>(dC i t e)) (C v)
theorem TA(x:dy s.heap v r)(h:Q M s):ca (cr pw w) A (hashByValue 8 v) Q E s:=by
 obtain ⟨a,L,n,rfl,J,P⟩:=x
 unfold hashByValue
 refine dL (MD ((ay _ J N)) F.slot_tuple_hash.lookup (nW J N (dL (?_:ca _ _ (wi L _ _) _ _ s))))
 refine eL ZY (Ni _ (λB r D=>r.1=am∧D=s∧∀v∈B,∃i t,v=Value.int i t) _ ?_ ?_ _ _ (bt N N (Kt P)))
 ·rintro v B r D ⟨H,rfl,C⟩
  obtain ⟨i,t,rfl⟩:=C v wf
  exact dL (show ca _ _ (re M) _ _ _ from lf (gA (by decide) (lf (bt N N (λu I=>C u (wv _ I))))))
 ·rintro ⟨R,S⟩ D ⟨H,rfl,_⟩
  simp only at H
  subst H
  exact lf h
theorem Ku(x:dy s.heap v r)(h:Q bn s):ca (cr pw w) A (ZZ 8 v) Q E s:=by
 obtain ⟨a,J,n,rfl,I,L⟩:=x
 delta ZZ
 refine (?_:ca _ _ (Bt (.ref a)>>=_) _ _ _)
 refine uJ ((ay _ I N)) (mV (by decide) (kS (gA (by decide) (nW I N (dL (?_:ca _ _ (wi J _ _) _ _ s))))))
 refine eL ZY (Ni _ (λB r D=>r.1=am∧D=s∧∀v∈B,∃i t,v=Value.int i t) _ ?_ ?_ _ _ (bt N N (Kt L)))
 ·rintro v B r D ⟨F,rfl,C⟩
  obtain ⟨i,t,rfl⟩:=C v wf
  exact dL (show ca _ _ (re bn) _ _ _ from lf (gA (by decide) (lf (bt N N (λu H=>C u (wv _ H))))))
 ·rintro ⟨P,R⟩ D ⟨F,rfl,_⟩
  simp only at F
  subst F
  exact lf h
theorem Vf(I:dy s.heap x r)(P:∀y∈R,∃r,dy s.heap y r)(h:Q bn s):ca (cr pw w) A (Z0 x R) Q E s:=by
 obtain ⟨a,rfl⟩:=I.tE
 unfold Z0
 refine dL ?_
 refine Ni _ (λB r H=>r.1=am∧H=s∧∀y∈B,∃r,dy s.heap y r) _ ?_ ?_ _ _ (bt N N P)
 ·rintro y B b H ⟨J,rfl,D⟩
  obtain ⟨S,F⟩:=D y wf
  obtain ⟨U,rfl⟩:=F.tE
  dsimp only
  have C:∀y∈B,∃r,dy H.heap y r:=λu L=>D u (wv _ L)
  split
  ·exact lf (bt N N C)
  ·exact dL (Z1 (I.z5 (w:=w)) (gA (by decide) (dL (Z1 (F.z5 (w:=w)) (gA (by decide) (dL (Ku I (gA (by decide) (dL (Ku F (gA (by decide) (lf (bt N N C)))))))))))))
 ·rintro ⟨Y,Z⟩ H ⟨J,rfl,_⟩
  simp only at J
  subst J
  exact lf h
end
@[reducible]noncomputable def j_(A:sK (al×bm))(B:X)(t:qR):Db:={cls:=.type "set",data:=.set A B t}
class inductive iT(Z:bm->W al->Prop)(h:li):W (al×bm)->W (W al)->Prop
 |aU:iT Z h [] []
 |bg {v:bm} {r:W al} {l:W (al×bm)} {rs:W (W al)}:dy h v r->Z v r->iT Z h l rs->iT Z h ((cP r,v)::l) (r::rs)
theorem iT.agI(x:iT Z h l A)(y:dy h v r)(z:Z v r):iT Z h (l++[(cP r,v)]) (A++[r]):=by
 induction x with
 |aU=>exact .bg y z .aU
 |bg a b _ B=>exact .bg a b B
theorem iT.ct(x:iT Z h l A)(k:∀v r,dy h v r->dy B v r):iT Z B l A:=by
 induction x with
 |aU=>exact .aU
 |bg a b _ C=>exact .bg (k _ _ a) b C
theorem iT.ee(x:iT Z h l B):∀e∈l,∃r∈B,e.1=cP r∧dy h e.2 r:=by
 induction x with
 |aU=>intro e A;cases A
 |bg a _ _ C=>
  intro e A
  rcases wl.mp A with rfl|A
  ·exact (cq _ (wf ..) N a)
  ·obtain ⟨r,D,E⟩:=C e A
   exact (ay r (wv _ D) E)
structure oq(Z:bm->W al->Prop)(h:li)(S:be)(x:gY)(rs:W (W al)):Prop where
 eY:∃es ep l,h.get? S=O (j_ es ep x.t)∧es.map (·.1)=x.hs∧es.toList.Perm l∧iT Z h l rs
 kj:uP x=M
theorem yg(h:uP x=M):x.t.fits x.hs.size=M∧x.t.gaveWay=bn∧x.t.plain=M∧x.hs.size≤60∧rd x.t=M:=by
 unfold uP at h
 simp only [mH,Fi]at h
 exact (C2 h.1.1.1.1 h.1.1.1.2 h.1.1.2 (ww h.2) h.1.2)
theorem UK{A C:Type}(f:A->C)(B:sK A)(p:X)(x:A):(KB B p x).map f=KB (B.map f) p (f x):=by
 unfold KB
 simp
theorem Ka{B:Type}(A:sK B)(p:X)(x:B):(KB A p x).toList.Perm (A.toList++[x]):=by
 unfold KB
 simp only [Array.toList_append,Z2,Array.toList_extract,List.extract_eq_take_drop]
 have C:List.take (p-0) (List.drop 0 A.toList)=A.toList.take p:=by simp
 have D:List.take (A.size-p) (List.drop p A.toList)=A.toList.drop p:=by
  rw [Fu]
  simp
 refine eR C (eR D (ZR ?_ (List.Perm.append_right _ (Z3 ((List.take_append_drop _ _).symm:A.toList=A.toList.take p++A.toList.drop p).symm))))
 exact eR (qU ..) (eR (qU ..) (Z4 _ List.perm_append_comm))
theorem Kc{B:Type}(A:sK B)(p:X)(x:B):(KB A p x).size=A.size+1:=by
 simpa using((Ka A p x).length_eq)
theorem Xr{B D:Type}(f:B->D)(A:sK B)(o:sK X):(o.filterMap (A[·]?)).map f=o.filterMap ((A.map f)[·]?):=by
 apply M9.mp
 simp only [ZX,Z5]
 induction o.toList with
 |nil=>rfl
 |cons i l C=>
  refine eR BH (eR BH ?_)
  have:(A.map f)[i]? =(A[i]?).map f:=by simp
  refine eR this ?_
  cases A[i]? with
  |none=>exact C
  |some a=>simp only [Z6,UV,C]
theorem V8{B:Type}(A:sK B)(o:sK X)(h:o.toList.Perm (mJ A.size)):(o.filterMap (A[·]?)).toList.Perm A.toList:=by
 refine eR Z5 ((h.filterMap _).trans (Z3 ?_))
 have:∀(l:W B),(mJ l.length).filterMap (λi=>l[i]?)=l:=by
  intro l
  apply List.ext_getElem?
  intro i
  induction l generalizing i with
  |nil=>simp
  |cons a l C=>
   refine eR Da (eR List.range_succ_eq_map (eR BH ?_))
   simp only [List.getElem?_cons_zero]
   refine eR Y1 ?_
   cases i with
   |zero=>rfl
   |succ i=>
    simp only [List.getElem?_cons_succ]
    exact C i
 simpa using(this A.toList)
section
variable{w:lw}{A:pc}{s:ce}
theorem O8:byScan (.ref a) B=bn:=N
theorem K9{h:li}{E B:sK (al×bm)}{D:X}{t C:qR}(F:h.get? S=O (j_ E D t)):(h.update S (BK B C)).get? S=O (j_ B (D+1) C):=eR (yE _ F (by rw [putSet_of B C N];rfl)) (eR (putSet_of B C N) N)
theorem V9(H:s.heap.get? S=O (j_ C U x.t))(F:C.map (·.1)=x.hs)(I:uP x=M)(J:wA x h=O (.empty j am))(L:Q (.free j bn) s):
  ca (cr pw w) A (setSearch S v h M) Q a9 s:=by
 obtain ⟨P,R,Y,Z,a⟩:=yg I
 have D:C.size=x.hs.size:=by refine F▸?_;simp
 refine (?_:ca _ _ (setState S>>=_) _ _ _)
 refine pA H N (by refine D▸?_;exact P) ?_
 dsimp only
 refine eR R ?_
 simp only [uD,pK,MG]
 generalize B:SetTable.probe x.t _ h _=E
 have e:E=O (.empty j am):=by
  refine eL B (eL J ?_)
  unfold wA
  congr 1
  funext i
  refine (?_:(C[i]?.map (·.1)).getD 0=_)
  refine eL F ?_
  simp
 exact eR e (lf L)
set_option tactic.hygienic true in
theorem V'(hu:A.units<NE)(n:s.heap.get? S=O (j_ C ep x.t))(R:C.map (·.1)=x.hs)(hg:uP x=M)(hl:C.toList.Perm l)(U:iT Z s.heap l o)
  (Y:dy s.heap v r) (D:∀B∈o,cP B=cP r->B=r) (c:Co x (cP r)=M) (hQ:Q (.there am) s):
  ca (cr pw w) A (setSearch S v (cP r) M) Q a9 s:=by
 obtain ⟨t,g2,g3,g4,g5⟩:=yg hg
 have E:C.size=x.hs.size:=by refine R▸?_;simp
 refine (?_:ca _ _ (setState S>>=_) _ _ _)
 refine pA n N (by refine E▸?_;exact t) ?_
 dsimp only
 refine eR g2 ?_
 simp only [uD,pK,MG]
 generalize F:SetTable.probe x.t _ (cP r) _=d
 have e:d=wA x (cP r):=by
  refine eL F ?_
  unfold wA
  congr 1
  funext i
  refine (?_:(C[i]?.map (·.1)).getD 0=_)
  refine eL R ?_
  simp
 refine zZ (Cn.E c) λj i next e2 c=>?_
 refine eR (e.trans e2) ?_
 ·have hi:x.hs[i]? =O (cP r):=by simpa using c
  have f:∃y,C[i]? =O (cP r,y):=by
   rw [←R,Array.getElem?_map]at hi
   obtain ⟨⟨h',y⟩,H,h⟩:=On.mp hi
   exact ⟨y,by rw [H];exact lc O (eR (show h'=cP r from h) N)⟩
  obtain ⟨y,hy⟩:=f
  have I:∀e∈C.toList,∃B∈o,e.1=cP B∧dy s.heap e.2 B:=λe he=>U.ee e (hl.mem_iff.mp he)
  have J:dy s.heap y r:=by
   obtain ⟨B,H,h,P⟩:=I (cP r,y) (by rw [Nj];exact Array.mem_of_getElem? hy)
   rw [D B H h.symm]at P
   exact P
  dsimp only
  refine aeG ?_ λL=>?_
  ·refine eR hy ?_
   dsimp only
   obtain ⟨b,rfl⟩:=J.tE
   obtain ⟨a,rfl⟩:=Y.tE
   refine gy (wpAny_eqBool_tuple hu (J.z5 (w:=w)) (Y.z5 (w:=w)) (pA n N (eR E t) ?_))
   simp only [Y_,Bs,qS]
   exact lf hQ
  ·refine dL (Vf Y (λy' m=>?_) ?_)
   ·obtain ⟨e',H,rfl⟩:=No.mp m
    obtain ⟨B,_,_,P⟩:=I e' (by
     have:=Nj.mp H
     rw [Array.mem_filter]at this
     exact Nj.mpr this.1)
    exact ⟨B,P⟩
   ·exact gA (by decide) L
end
section
variable{w:lw}{A:pc}{s:ce}
theorem Eh(C:h.get? S=O (j_ I J t))(D:ug S h E)(x:dy h v r):dy E v r:=by
 refine x.ct λa o e F=>(D.2 a (λq=>?_)).trans F
 subst q
 obtain ⟨b,L,n,B,H,_⟩:=x
 rw [e]at B;cases B
 have:=lc Obj.cls (ii (C.symm.trans H))
 simp at this
theorem V_{t B:qR}{C:sK al}{n:X}{o:sK X}(h:t.relaid C n=O (B,o)):B.led=t.led:=by
 unfold SetTable.relaid SetTable.laid at h
 obtain ⟨E,F,D⟩:=sD.mp h
 obtain ⟨rfl,_⟩:=Op (ii D)
 rfl
set_option tactic.hygienic true in
theorem acQ{Z:bm->W al->Prop}{v:bm}{r:W al}{x y:gY}{rs:W (W al)}{Q:an->ce->Prop}(hS:oq Z s.heap S x rs)(hv:dy s.heap v r)(hz:Z v r)(F:uY x (cP r)=O y)
  (hQ:∀h',ug S s.heap h'->oq Z h' S y (rs++[r])->y.t.led=x.t.led->Q M {s with heap:=h'}):ca (cr pw w) A (BL S v (cP r)) Q a9 s:=by
 obtain ⟨⟨D,ep,l,o,hm,hl,rU⟩,hg⟩:=hS
 obtain ⟨g1,g2,g3,g4,g5⟩:=yg hg
 have P:D.size=x.hs.size:=by rw [←hm];simp
 obtain ⟨a,rfl⟩:=hv.tE
 have H:4096≤E0:=f6
 unfold BL
 refine sF ?_
 unfold setAddHashedIn
 refine pA o N (by rw [P];exact g1) ?_
 dsimp only
 rw [O8]
 refine gA (by decide) ?_
 refine aQ (B7.E F) λj hpr F=>?_
 ·refine dL (V9 o hm hg hpr ?_)
  refine pA o N (by rw [P];exact g1) ?_
  rw [show(x.t.put j).1.plain=M from g3]
  refine mV (by decide) (dL (TA hv ?_))
  simp only [qS]
  have I:(KB D (x.t.put j).2 (cP r,Ev a)).map (·.1)=KB x.hs (x.t.put j).2 (cP r):=by rw [UK,hm]
  have C:(KB D (x.t.put j).2 (cP r,Ev a)).size=x.hs.size+1:=by rw [Kc,P]
  have J:(KB D (x.t.put j).2 (cP r,Ev a)).toList.Perm (l++[(cP r,Ev a)]):=(Ka _ _ _).trans (hl.append_right _)
  refine dL (Z7 o N ?_ (by rw [C];exact L2 0x4c85f8265641ba98 N g4 H))
  have L:=K9 (B:=KB D (x.t.put j).2 (cP r,Ev a)) (C:=(x.t.put j).1) o
  have Y:=Fy s.heap S (BK (KB D (x.t.put j).2 (cP r,Ev a)) (x.t.put j).1)
  have R:iT Z (s.heap.update S (BK (KB D (x.t.put j).2 (cP r,Ev a)) (x.t.put j).1)) (l++[(cP r,Ev a)]) (rs++[r]):=
   (rU.agI hv hz).ct λv r z=>Eh o Y z
  refine bE (z:=O7 x (cP r) j) (i:=λz=>z=O y->_) N (λf F=>?_) (λf F=>?_) F
  ·rw [f]
   refine mV (by decide) (aQ (sD.mp F) λp akg F=>gd.E F λE F=>B2 E λo1 E=>B2 E λo2 E=>B2 E λo3 o4=>aQ (On.mp akg) λq DW e=>?_)
   cases F
   cases e
   obtain ⟨t2,B⟩:=q
   ··refine dL ?_
     unfold setRelay
     refine pA L N (by rw [C];exact o3) ?_
     dsimp only
     rw [P,f0 (by have:=ww o1;exact FL (L2 5249670353675 N H this))]
     ·have ajK:(x.t.put j).1.relaid ((KB D (x.t.put j).2 (cP r,Ev a)).map (·.1)) (Nh (x.hs.size+1))=O (t2,B):=by
       rw [I,←DW,Kc]
      have r7:=V8 (KB D (x.t.put j).2 (cP r,Ev a)) B (by rw [C];exact (List.isPerm_iff.mp o2))
      have U:(B.filterMap ((KB D (x.t.put j).2 (cP r,Ev a))[·]?)).size=x.hs.size+1:=by
       have:=r7.length_eq
       simp only [wq]at this
       rw [this,C]
      refine dL ?_
      rw [ajK]
      refine (?_:ca _ _ (if((B.filterMap ((KB D (x.t.put j).2 (cP r,Ev a))[·]?)).size !=(KB D (x.t.put j).2 (cP r,Ev a)).size)=M then _ else _) _ _ _)
      refine gA (by rw [U,C];simp) ?_
      refine lf ?_
      refine Z7 L N ?_ (by rw [U];exact L2 0x4c85f8265641ba98 N g4 H)
      refine lf ?_
      have fq:=Fy (s.heap.update S (BK (KB D (x.t.put j).2 (cP r,Ev a)) (x.t.put j).1)) S (BK (B.filterMap ((KB D (x.t.put j).2 (cP r,Ev a))[·]?)) t2)
      refine hQ _ (Y.trans fq) ⟨(gB _ _ _ ((K9 (B:=B.filterMap ((KB D (x.t.put j).2 (cP r,Ev a))[·]?)) (C:=t2) L)) ?_ (r7.trans J) (R.ct λv r z=>Eh L fq z)),o4⟩ (V_ DW)
      rw [Xr,I]
  ·rw [f]
   refine gA (by decide) (gd.E F λE F=>?_)
   cases F
   exact lf (hQ _ Y ⟨(gB _ _ _ L I J R),E⟩ N)
theorem acR(L:A.units<NE)(P:oq Z s.heap S x R)(E:dy s.heap v r)(B:∀F∈R,cP F=cP r->F=r)(U:Co x (cP r)=M)
  (Y:Q bn s):ca (cr pw w) A (BL S v (cP r)) Q a9 s:=by
 obtain ⟨⟨b,e,l,H,I,c,C⟩,J⟩:=P
 obtain ⟨d,f,h,i,j⟩:=yg J
 have D:b.size=x.hs.size:=by rw [←I];simp
 obtain ⟨a,rfl⟩:=E.tE
 unfold BL
 refine sF ?_
 unfold setAddHashedIn
 refine pA H N (by rw [D];exact d) ?_
 dsimp only
 rw [O8]
 exact gA (by decide) (dL (V' L H I J c C E B U (lf Y)))
theorem acS(C:A.units<NE)(B:dy s.heap v r)(h:ca (cr pw w) A (BL S v (cP r)) Q a9 {s with toks:=s.toks+(r.length+1)}):ca (cr pw w) A (setAdd S v) Q a9 s:=by
 obtain ⟨a,rfl⟩:=B.tE
 unfold setAdd
 exact sF (dL (wpAny_pyHash_tuple C (B.z5 (w:=w)) h))
end
class inductive rz:W (W al)->gY->W (W al)->Prop
 |aU {q:W (W al)} {x:gY}:rz q x []
 |bN {q:W (W al)} {x y:gY} {r:W al} {rs:W (W al)}:r∉q->uY x (cP r)=O y->rz (q++[r]) y rs->rz q x (r::rs)
 |qt {q:W (W al)} {x:gY} {r:W al} {rs:W (W al)}:r∈q->Co x (cP r)=M->(∀r'∈q,cP r'=cP r->r'=r)->rz q x rs->rz q x (r::rs)
theorem agJ:(p7.all λa=>p7.all λb=>!ci (cP a=cP b)||decide (a=b))=M:=by kernel_rfl
theorem Wa{A:an}{q:W (W al)}{r:W al}(h:w6 A q=O x):w6 A (q++[r])=uY x (cP r):=by
 unfold w6 at h⊢
 rw [List.foldl_append,h];rfl
theorem Xs:(CE.all λq=>q.all λr=>ci (r∈p7))=M:=by kernel_rfl
theorem aeO{A:an}:∀{B q:W (W al)} {x:gY},(∀r∈B,r∈p7)->q∈CE->w6 A q=O x->rz q x B:=λ{B}=>no_implicit_lambda% (cB B (@λY Y Y Y Y=>.aU) λr B R {q} {x} S H I=>by
  have U:=agG
  rw [Do]at U
  have Z:=U A (by cases A<;>simp)
  rw [Do]at Z
  have f:=Z q H
  rw [Do]at f
  have C:=S r (wf ..)
  have D:=f r C
  have D:(Option.any _ (w6 A q))=M:=D
  rw [I]at D
  have E:∀r∈B,r∈p7:=λr h=>S r (wv _ h)
  by_cases F:r∈q
  ·refine .qt F ((cT F).symm.trans D) (λJ L e=>?_) (R E H I)
   have P:J∈p7:=by
    have:=Xs
    rw [Do]at this
    have:=this q H
    rw [Do]at this
    exact ut (this J L)
   have:=agJ
   rw [Do]at this
   have:=this J P
   rw [Do]at this
   have:=this r C
   rw [FB e]at this
   simpa using this
  ·refine B2 ((cF F).symm.trans D) λo h5=>je (Bz.mp o) λy j=>.bN F j (R E (ut h5) (eR (Wa I) j)))
theorem Ei:∀{L E:W (W al)},L.Pairwise (λx y=>dZ x y=M)->E.Pairwise (λx y=>dZ x y=M)->(∀r∈E,r∈L)->E.Sublist L
 |[],[],_,_,_=>Z8 _
 |[],a::_,_,_,h=>nomatch h a (wf ..)
 |b::L,[],_,_,_=>List.nil_sublist _
 |b::L,a::E,I,F,h=>by
  have A:=sQ.mp I
  have B:=sQ.mp F
  by_cases e:a=b
  ·subst e
   refine List.Sublist.cons_cons _ (Ei A.2 B.2 λr C=>?_)
   rcases wl.mp (h r (wv _ C))with rfl|q
   ·have:=B.1 r C
    have D:=tZ this
    rw [this]at D;cases D
   ·exact q
  ·refine List.Sublist.cons _ (Ei A.2 F λr C=>?_)
   rcases wl.mp (h r C)with rfl|q
   ·exfalso
    rcases wl.mp C with rfl|C
    ·exact e N
    ·have J:=B.1 r C
     rcases wl.mp (h a (wf ..))with D|D
     ·exact e D
     ·have H:=tZ (A.1 a D)
      rw [J]at H;cases H
   ·exact q
set_option tactic.hygienic true in
theorem PT:∀{L B q:W (W al)} {x:gY},HA L x=M->B.Sublist L->(q++B).Nodup->rz q x B
 |_,[],_,_,_,_,_=>.aU
 |L,a::B,q,x,E,A,D=>by
  induction L generalizing x with
  |nil=>cases A
  |cons b L F=>
   refine B2 (a:=(uY x (cP b)).any (HA L)) E λC H=>?_
   cases A with
   |cons _ A=>exact F _ H A
   |cons_cons _ A=>
    refine aQ ((Option.any_eq_true ..).mp C) λy I C=>.bN (λJ=>?_) I (PT C A (by simpa using D))
    exact (yv.mp D).2.2 a J a (wf ..) N
theorem Kv:∀{B:W (W al)},yY B=M->B.Pairwise (λx y=>dZ x y=M)
 |[],_=>Nb
 |[a],_=>ZO ..
 |a::b::r,h=>by
  have h:(dZ a b&&yY (b::r))=M:=h
  rw [mH]at h
  have C:=Kv h.2
  refine sQ.mpr ⟨λx A=>?_,C⟩
  rcases wl.mp A with rfl|A
  ·exact h.1
  ·exact A6 h.1 ((sQ.mp C).1 x A)
theorem za{P:al->Prop}{a:al}(h:pT a=M)(x:P 0)(y:P 1)(z:P 2):P a:=
 (uB.mp h).elim (λh=>(uB.mp h).elim (λh=>ut h▸x) λh=>ut h▸y) λh=>ut h▸z
theorem aa8:∀r∈p7,r≠[]:=by decide+kernel
theorem aa9:∀r∈tn,r≠[]:=by decide+kernel
theorem aba:tn.Pairwise (λx y=>dZ x y=M):=by decide+kernel
theorem Ow{B:an}{C:W (W al)}(h:i5 C=M):rz [] (yU B) C∧C.length≤60∧∀r∈C,r≠[]:=by
 unfold i5 at h
 refine B2 h λE h=>(uB.mp h).elim (λh=>?_) λh=>B2 h λh F=>?_
 ·have A:∀r∈C,r∈p7:=λr A=>by
   have this:=Do.mp h r A
   clear h A E
   cases r with
   |nil=>exact bY this
   |cons a t=>cases t with
    |nil=>exact za (P:=λa=>[a]∈p7) this (by decide+kernel) (by decide+kernel) (by decide+kernel)
    |cons b u=>exact bY this
  exact ⟨aeO A (by decide+kernel) N,ww E,λr h=>aa8 r (A r h)⟩
 ·have A:∀r∈C,r∈tn:=λr A=>by
   have this:=Do.mp h r A
   clear h A E F
   cases r with
   |nil=>exact bY this
   |cons a t=>cases t with
    |nil=>exact bY this
    |cons b u=>cases u with
     |nil=>exact B2 this λx y=>za (P:=λa=>[a,b]∈tn) x (za (P:=λb=>[0,b]∈tn) y (by decide+kernel) (by decide+kernel) (by decide+kernel)) (za (P:=λb=>[1,b]∈tn) y (by decide+kernel) (by decide+kernel) (by decide+kernel)) (za (P:=λb=>[2,b]∈tn) y (by decide+kernel) (by decide+kernel) (by decide+kernel))
     |cons _ _=>exact bY this
  have H:=Kv F
  refine ⟨PT (Do.mp agH B (by cases B<;>decide)) (Ei aba H A) ?_,ww E,λr h=>aa9 r (A r h)⟩
  exact eR (qX ..) (H.imp λ{a b} D e=>by subst e;exact jf (D.symm.trans (tZ D)))
section
variable{w:lw}
theorem oq.ct(y:oq Z h S x C)(k:∀o,h.get? S=O o->B.get? S=O o)(D:∀v r,dy h v r->dy B v r):oq Z B S x C:=by
 obtain ⟨⟨E,F,l,H,I,J,A⟩,L⟩:=y
 exact ⟨(gB E F l (k _ H) I J (A.ct D)),L⟩
variable{I S:be}{m c:W be}{G:sK EZ->sK EZ->Prop}{n:X}{t:X->bm->Prop}{d:X->ce->Prop}
theorem Xt(hu:A.units+1<NE)(y:WalksS pw w A.in1 I m c G n t d)(DQ:S∉m)(vs:W bm)(D:W (W al))(hn:n=vs.length)(hl:vs.length=D.length)(akc:∀i v,t i v->vs[i]? =O v)
  (hwr:∀i s,d i s->∀a us k,s.heap.get? a=O (f_ us k)->a∉c):
  ∀(rs:W (W al)) (i:X) (q:W (W al)) (x:gY) (s:ce),D.drop i=rs->i≤n->d i s->oq Z s.heap S x q->rz q x rs->(∀j,j<vs.length->dy s.heap (vs.getD j .none) (D.getD j []))->(∀j,j<vs.length->Z (vs.getD j .none) (D.getD j []))->
   (∀C x',x'.t.led=x.t.led->Moved (S::c) G s C->oq Z C.heap S x' (e_ rs q)->R (.ok (.ret .none)) C)->
   mK (cr pw w) A (.builtin "set.update.loop" ⟨[.ref S,.ref I],[]⟩) R s:=by
 have Se:S∉c:=λh=>DQ (y.sub _ h)
 have P:∀b∈c,b∈S::c:=λb hb=>wv _ hb
 have RC:A.in1.units<NE:=hu
 have B:∀{i:X} {s C:ce},d i s->Moved c G s C->∀v r,dy s.heap v r->dy C.heap v r:=λst L v r hv=>hv.ct λa o e eo=>by
  obtain ⟨b,us,k,e',ho,_⟩:=id hv
  rw [e]at e';cases e'
  exact L.heap a o (hwr _ _ st a us k ho) eo
 intro rs
 induction rs with
 |nil=>
  intro i q x s hd hi E hS hp H hZ hR
  have vC:i=n:=by
   have:=lc Nk hd
   simp at this
   exact KE (L2 161223480 N hi) (L5 0x4e60fa0f36676cdac9b38 N hn hl this (lm (L4 0x26b64c6cdac9b38 N hn hl hi)))
  subst vC
  refine ui F.entry_set_update_loop (eR (wc FR _) (?_:ca _ A.in1 (n9 (.ref I)>>=_) _ _ s))
  refine dL (y.done s _ _ E λC L=>(?_:ca _ A.in1 (ret Uf) _ _ C))
  exact lf (hR C x N (L.mono P) (hS.ct (λo e=>L.heap S o Se e) (B E L)))
 |cons r rs ih=>
  intro i q x s hd hi E hS hp H hZ hR
  have U:i<n:=by
   have:=lc Nk hd
   simp at this
   exact afC hn hl this
  have Ry:D.getD i []=r:=by
   have:=lc List.head? hd
   rw [Y6]at this
   rw [BJ,this];rfl
  have jm:D.drop (i+1)=rs:=by rw [←Y7,hd];rfl
  refine ui F.entry_set_update_loop (eR (wc FR _) (?_:ca _ A.in1 (n9 (.ref I)>>=_) _ _ s))
  refine dL (y.item i s _ _ U E λv C hP R9 L=>?_)
  have SK:vs.getD i .none=v:=by rw [BJ,akc i v hP];rfl
  have hv:dy C.heap v r:=by
   have:=B E L _ _ (H i (L3 6384662682424 N hn U))
   rw [SK,Ry]at this
   exact this
  have An:Z v r:=by
   have:=hZ i (L3 6384662682424 N hn U)
   rw [SK,Ry]at this
   exact this
  have qC:oq Z C.heap S x q:=hS.ct (λo e=>L.heap S o Se e) (B E L)
  have J:∀j,j<vs.length->dy C.heap (vs.getD j .none) (D.getD j []):=λj hj=>B E L _ _ (H j hj)
  refine (?_:ca _ A.in1 (mI [v] (setAdd S v)>>=_) _ _ C)
  refine gy (ss (acS RC hv ?_) (λY Y h=>h) λY Y f=>f.elim)
  obtain ⟨es,ep,l,ho,_⟩:=qC.eY
  cases hp with
  |bN h1 h2 h3=>
   refine acQ qC hv An h2 λh' tQ DP jX=>?_
   rw [ye h1]at hR
   refine lf ⟨wb FR _,ih (i+1) _ _ _ jm U (y.frame _ C _ _ R9 (GM _ _) λb hb o e=>?_) DP h3 (λj hj=>(λv r z=>Eh ho tQ z) _ _ (J j hj)) hZ λkE JL JN Iw I_=>?_⟩
   ·rw [tQ.2 b (λh:b=S=>DQ (eL h hb))];exact e
   ·refine hR kE JL (JN.trans jX) (Moved.trans y.gtrans ((L.mono P).then_heap (GM _ _) λb o hb e=>?_) Iw) I_
    rw [tQ.2 b (λh:b=S=>hb (eR h wf))];exact e
  |qt h1 h2 h3 h4=>
   refine acR RC qC hv h3 h2 ?_
   rw [AW h1]at hR
   exact lf ⟨wb FR _,ih (i+1) _ _ _ jm U (y.frame _ C _ _ R9 (GM _ _) λb hb o e=>e) qC h4 J hZ λkE JL JN Iw I_=>hR kE JL JN (Moved.trans y.gtrans ((L.mono P).then_heap (GM _ _) λb o hb e=>e) Iw) I_⟩
end
@[reducible]noncomputable def ot(w:lw):an:=!w.params.followText "set-order"
theorem Ts(a:bm)
  (h:B (.ref s.heap.objs.size) {s with heap:=s.heap.push {cls:=.type "set",dict:=am,data:=.set #[] 0 (.fresh 0 0 (ot w))}}):
  mK (cr pw w) A (.call (.builtin "set.__new__") ⟨[.type "set",a],[]⟩) (wants B E) s:=by
 refine MV ?_
 refine (?_:ca _ A.in1 (do checkBuiltinCall "set.__new__" ⟨[.type "set",a],[]⟩;again (.builtin "set.__new__" ⟨[.type "set",a],[]⟩)) _ _ s)
 refine dL (sH (F.newCall_set_1 a) (lf ⟨wb F.plain_set_new _,ui F.entry_set_new ?_⟩))
 rw [wc F.plain_set_new _]
 unfold Builtin.«set.__new__» Builtin.Frozenset.newClass
 have C:=sub_set_self
 obtain ⟨D,g,d,H,I⟩:=s
 wp_walk
 refine yF (lf ?_)
 simp only [newObj]
 exact dL (wpAny_alloc (lf (lf h)))
set_option maxHeartbeats 3200000 in
theorem Um
  (hh:A.handled=am) (hu:A.units+4<NE) (hl:s.heap.get? l=O (fM B nl)) (cx:B.toList.length=U.length) (f:∀j,j<B.toList.length->dy s.heap (B.toList.getD j .none) (U.getD j [])) (hZ:∀j,j<B.toList.length->Z (B.toList.getD j .none) (U.getD j [])) (ok:i5 U=M)
  (h:∀(I:li) (tk:X) J,J.t.led=ot w->oq Z I s.heap.objs.size J (e_ U [])->
   (∀b o,s.heap.get? b=O o->I.get? b=O o)->Q (.ref s.heap.objs.size) {s with heap:=I,toks:=tk}):
  ca (cr pw w) A (po (.type "set") [.ref l]) Q a9 s:=by
 obtain ⟨c,tl,alI⟩:=uF.mro
 have alu:=uF.made
 have x_:=uF.sub
 refine yJ (MV (?_:ca _ _ (callAny (.type "set") _) _ _ _))
 refine lf ⟨Code.quiet_builtin _ (by decide+kernel),ui F.entry_type_call ?_⟩
 rw [Around.under_plain (weight_type_call_type "set" [.ref l] []) N]
 have h1:=uF.notType
 have h2:=uF.canCreate
 have ya:=F.typeCall_set_1 (.ref l)
 repeat(any_goals (first|assumption|wp_step))
 refine BG (Ts (w:=w) (.ref l) (E:=a9) (B:=λobj L=>∃C:an,C=ot w∧obj=.ref s.heap.objs.size∧L={s with heap:=s.heap.push {cls:=.type "set",dict:=am,data:=.set #[] 0 (.fresh 0 0 C)}}) ⟨ot w,N,N,N⟩) λr L hr=>?_
 cases r with
 |error e=>exact hr
 |ok fl=>
  cases fl with
  |ret obj=>
   obtain ⟨C,jX,rfl,rfl⟩:=hr
   have hS:(s.heap.push {cls:=.type "set",dict:=am,data:=.set #[] 0 (.fresh 0 0 C)}).get? s.heap.objs.size=O {cls:=.type "set",dict:=am,data:=.set #[] 0 (.fresh 0 0 C)}:=Ix _ N
   have H:(s.heap.push {cls:=.type "set",dict:=am,data:=.set #[] 0 (.fresh 0 0 C)}).objs.size=s.heap.objs.size+1:=ux ..
   have kp:∀b o,s.heap.get? b=O o->(s.heap.push {cls:=.type "set",dict:=am,data:=.set #[] 0 (.fresh 0 0 C)}).get? b=O o:=λb o e=>tz _ e
   revert hS H kp
   generalize s.heap.push {cls:=.type "set",dict:=am,data:=.set #[] 0 (.fresh 0 0 C)}=y
   intro hS H kp
   have hT:Nl {s with heap:=y} (.ref s.heap.objs.size) "set" :=⟨_,hS,N⟩
   have nK:=uF.init.lookup
   have hbi:=uF.init.bind (.ref s.heap.objs.size)
   repeat(any_goals (first|assumption|wp_step))
   refine BG (M6 (R:=wants (λr P=>r=.none∧∃I tk J,P={s with heap:=I,toks:=tk}∧J.t.led=ot w∧
     oq Z I s.heap.objs.size J (e_ U [])∧
     (∀b o,s.heap.get? b=O o->I.get? b=O o)) a9) uF.init.plain F.entry_set_init (check_set_init_1 hT ?_)) λakN P D=>?_
   ·have aiC:y.get? l=O {cls:=.type "list",dict:=am,data:=.seq B nl,slots:=#[]}:=kp _ _ hl
    have alG:=F.sub_list_set
    have alx:=F.sub_list_frozenset
    have ef:(uE "list" ==uE "dict")=bn:=by decide
    have xU:y.IsList l B:=⟨_,aiC,N,nl,N⟩
    unfold Builtin.«set.__init__» noKeywords Builtin.Frozenset.updateFrom
    generalize hPI:lK=PI
    wp_walk
    subst hPI
    refine MK xU (dL (wpAny_runValue ?_))
    have Sf:l<s.heap.objs.size:=FM hl
    have hh3:A.in1.in1.in1.handled=am:=by simp [hh]
    have akE:l≠y.objs.size:=by
     rw [H];exact PP (sO Sf)
    have DQ:s.heap.objs.size∉[y.objs.size,l]:=by
     rw [H];simp only [wl,sI,yD,wj]
     exact ⟨PP (uz _),pC Sf⟩
    obtain ⟨akL,vF,_⟩:=Ow (B:=C) ok
    have nE:∀b o,s.heap.get? b=O o->(y.push {cls:=.type "list_iterator",data:=.fields #[.ref l,.int 0 0]}).get? b=O o:=λb o e=>tz _ (kp _ _ e)
    refine Xt (Z:=Z) (by refine (?_:A.units+1+1+1<NE);exact Nat.lt_of_succ_lt hu) ((Walks.list hh3 _ l akE B).toS) DQ B.toList U (by simp) cx (λi v hv=>by rw [ZS];exact hv) (λi s2 st a us k e S=>?_) U 0 [] (yU C) _ N (Gc _)
     ⟨⟨_,Ix _ N,N,N⟩,(xU.push _)⟩ ?hS0 akL (λj hj=>(f j hj).ct λa o Y e=>nE a o e) hZ ?hR
    case hS0=>
     refine ⟨⟨#[],0,[],tz _ hS,by simp [yU],yO _,.aU⟩,?_⟩
     cases C<;>rfl
    case hR=>
     intro s' J rY S qC
     obtain ⟨I,g',d',qw,IH⟩:=s'
     have eg:g'=s.gens:=S.gens
     have ed:d'=s.drawn:=S.drawn
     have eo:IH=s.os:=S.os
     subst eg;subst ed;subst eo
     refine (?_:ca _ _ _ _ _ _)
     refine lf (?_:ca _ _ (ret Uf) _ _ _)
     refine lf ⟨N,I,qw,J,N,rY.trans jX,qC,λb o e=>?_⟩
     have hb:=FM e
     have IV:b≠y.objs.size:=by
      rw [H];exact PP (sO hb)
     exact S.heap b o (by simp only [wl,sI,yD,wj];exact ⟨(PP hb),IV⟩) (nE b o e)
    ·have S:=IR.mp S
     subst S
     obtain ⟨o,ho,hc,_⟩:=st.1
     rw [e]at ho;cases ho
     simp at hc
   ·cases akN with
    |error e=>exact D
    |ok akM=>
     cases akM with
     |ret r=>
      obtain ⟨rfl,I,tk,J,rfl,rY,qC,kG⟩:=D
      repeat(any_goals (first|assumption|wp_step))
      exact h _ _ _ rY qC kG
     |_=>exact D.elim
  |_=>exact hr.elim
theorem vO:Fo "set_iterator" "__next__" "set_iterator.__next__" :=
 .of (owner:="set_iterator") (n:="__next__") (by rw [typeLookup_type,Z9];kernel_rfl) (by decide+kernel) (by decide+kernel) (by decide+kernel)
  (by first|exact .inl (by decide+kernel)|exact .inr (by decide+kernel)) (by rw [isSubtype_type];kernel_rfl)
theorem J1:Fo "set_iterator" "__iter__" "set_iterator.__iter__" :=
 .of (owner:="set_iterator") (n:="__iter__") (by rw [typeLookup_type,Z9];kernel_rfl) (by decide+kernel) (by decide+kernel) (by decide+kernel)
  (by first|exact .inl (by decide+kernel)|exact .inr (by decide+kernel)) (by rw [isSubtype_type];kernel_rfl)
theorem JX:Fc table "set_iterator.__next__" =O Builtin.«set_iterator.__next__»:=entryFor_of_fast (by kernel_rfl)
theorem J3(a:bm):argsOk "set_iterator.__next__" ⟨[a],[]⟩:=by unfold argsOk;kernel_rfl
theorem TV:Fc table "set.__iter__" =O Builtin.«frozenset.__iter__»:=
 entryFor_alias (id':="frozenset.__iter__") (by kernel_rfl) N (by decide+kernel) (by kernel_rfl)
theorem K_{A:Type}:∀{l:W A} {i:X} (h:i<l.length),(l[i]::l.eraseIdx i).Perm l
 |a::l,0,_=>yO _
 |a::l,i+1,h=>eR (List.eraseIdx_cons_succ ..) (eR (List.getElem_cons_succ ..) ((Na a _ _).trans ((K_ (l:=l) (i:=i) (by simpa using h)).cons a)))
set_option tactic.hygienic true in
theorem LK{E:Type}(next:X->X):∀(f k:X) (left:W E) (A:sK E),left.length≤f->(pickOrder.go next f k left A).toList.Perm (A.toList++left)
 |0,k,left,A,h=>by
  have:left=[]:=by cases left with|nil=>rfl|cons _ _=>simp at h
  subst this
  exact .of_eq (SZ _).symm
 |f+1,k,left,A,h=>by
  refine (?_:(YQ (match left[next k %left.length]? with|some x=>pickOrder.go next f (k+1) (left.eraseIdx (next k %left.length)) (A.push x)|none=>A)).Perm _)
  cases C:left[next k %left.length]? with
  |some x=>
   have B:=(Z_.mp C).1
   refine (LK next f (k+1) _ _ (by rw [List.length_eraseIdx,jp B];exact Mp h)).trans ?_
   refine eR (Z2 ..) (eR (qU ..) (Z4 _ ?_))
   have D:=(Z_.mp C).2
   exact eL D (K_ B)
  |none=>
   cases left with
   |nil=>exact .of_eq (SZ _).symm
   |cons a l=>
    exfalso
    have:next k %(a::l).length<(a::l).length:=Nat.mod_lt _ (by simp)
    rw [FP this]at C
    cases C
theorem TX{B:Type}(next:X->X)(A:sK B):(pickOrder next A).toList.Perm A.toList:=
 LK next A.size 0 A.toList #[] (nY wq)
@[reducible]noncomputable def oG(A i:X)(S:be)(n B:X):Db:={cls:=.type "set_iterator",data:=.fields #[.int A 0,.int i 0,.ref S,.int n 0,.int B 0]}
noncomputable def il(w:lw)(S:be)(B:X)(A:sK (al×bm)):sK (al×bm):=if w.params.followText "set-order" =M then pickOrder (w.params.setOrder S B) A else A
noncomputable def kc(w:lw)(t:qR)(i:X):X:=if w.params.followText "set-order" =M then 0 else match i with|0=>0|i+1=>t.place.getD i 0+1
theorem AY(w:lw)(S:be)(B:X)(A:sK (al×bm)):(il w S B A).toList.Perm A.toList:=by
 unfold il
 split
 ·exact TX _ _
 ·exact yO _
theorem Wb(h:rd t=M)(i:X)(A:i≤t.place.size):(match i with|0=>FQ t.place 0|i+1=>FQ t.place (t.place.getD i 0+1))=i:=by
 unfold rd at h
 rw [Do]at h
 have:=h i (by simp;exact L2 173402755896 N A)
 have:=ut (show ci _=M from this)
 cases i<;>exact this
section
variable{w:lw}{A:pc}{E:bm->ce->Prop}{s:ce}{S I:be}{c:sK (al×bm)}{d:X}{t:qR}
theorem GX{C:Type}{a:Model}{A:pc}{Q:C->ce->Prop}{E:bm->ce->Prop}{s:ce}{B:IN}{v:bm}{f:bm×W bm->wE C}(k:ca a A (f (v,[])) Q E s):ca a A (slotArgs B 0 ⟨[v],[]⟩>>=f) Q E s:=
 dL (show ca a A (re (v,[])) _ _ _ from lf k)
theorem UL{Q:an->ce->Prop}(B:s.heap.get? S=O (j_ c d t))(C:t.fits c.size=M)(D:t.plain=M)(h:Q bn s):ca (cr pw w) A (setDrawn S) Q E s:=by
 unfold setDrawn
 refine pA B N C ?_
 dsimp only
 unfold Nm
 refine dL (dL (yF (lf ?_)))
 have e:(!w.params.followText "set-order" &&(!t.plain&&ci (c.size>1)))=bn:=by rw [D];simp
 refine (?_:ca _ _ (re (!w.params.followText "set-order" &&(!t.plain&&ci (c.size>1)))) _ _ _)
 exact eR e (lf h)
theorem Wc{Q:bm->ce->Prop}(B:s.heap.get? S=O (j_ c d t))(C:t.fits c.size=M)(F:t.plain=M)
  (h:Q (.ref s.heap.objs.size) {s with heap:=s.heap.push (oG 0 0 S c.size d)}):ca (cr pw w) A (lK (.ref S)) Q E s:=by
 have D:s.TypeIs (.ref S) "set" :=(ay _ B N)
 refine wpAny_pyIter_slot D aab (qT aab D TV ?_ (PySem.F.args_set_iter_1 _))
 unfold Builtin.«frozenset.__iter__» Builtin.Frozenset.slot0
 refine dL (GX (lf ?_))
 unfold Builtin.Frozenset.sizeOf
 refine dL (DZ B N C (lf (dL (UL B C F (gA (by decide) (kS (dL (wpAny_setEpoch_of B N C (dL (uh (lf (ay _ N (d_ ("set_iterator") _ (ay _ (Ix _ N) N) vO.lookup ?_))) (by first|size_fits|trivial|exact True.intro)))))))))))
 exact h
theorem Xu(B:t.fits c.size=M):t.place.size=c.size:=by
 unfold SetTable.fits at B
 simp only [mH,v_]at B
 exact B.1
theorem La{Q:im (bm×X)->ce->Prop}{i:X}(R:i≤c.size)(P:s.heap.get? S=O (j_ c d t))(J:t.fits c.size=M)(U:t.plain=M)(Y:rd t=M)(D:t.led=ot w)
  (B:Q (((il w S d c)[i]?).map λe=>(e.2,kc w t (i+1))) s):ca (cr pw w) A (setNext S (kc w t i) i d) Q E s:=by
 have F:=Xu J
 unfold setNext
 refine pA P N J ?_
 dsimp only
 unfold Nm
 refine dL (dL (yF (lf (?_:ca _ _ (if w.params.followText "set-order" =M then _ else _) _ _ _))))
 cases C:w.params.followText "set-order" with
 |true=>
  refine eR (jp N) (eR (f0 (by simp)) (dL ?_))
  unfold setWalk
  refine pA P N J ?_
  dsimp only
  unfold Nm
  refine dL (dL (yF (lf (?_:ca _ _ (if w.params.followText "set-order" =M then _ else _) _ _ _))))
  refine eR C (eR (jp N) (dL (yF (lf (lf ?_)))))
  have L:il w S d c=pickOrder (w.params.setOrder S d) c:=by unfold il;rw [jp C]
  have Z:kc w t i=kc w t (i+1):=by unfold kc;rw [jp C,jp C]
  rw [L]at B
  exact eR Z B
 |false=>
  refine gA (by decide) (?_:ca _ _ (if(!t.plain&&ci (c.size>1))=M then _ else _) _ _ _)
  refine gA (by rw [U];simp) ?_
  refine dL (?_:ca _ _ (if(!t.led&&!c.isEmpty)=M then _ else _) _ _ _)
  have f:t.led=M:=by rw [D];unfold ot;rw [C];rfl
  refine gA (by rw [f];simp) ?_
  refine lf (lf ?_)
  have L:il w S d c=c:=by unfold il;rw [f0 (by rw [C];simp)]
  have j:FQ t.place (kc w t i)=i:=by
   have:=Wb Y i (eR F R)
   unfold kc
   refine eR (f0 (by rw [C];simp)) ?_
   cases i<;>exact this
  refine eR j ?_
  rw [L]at B
  rcases n6 i c.size with h|h
  ·have H:c[i]? =O c[i]:=by simp [h]
   have o:t.place[i]? =O (t.place.getD i 0):=by
    have:i<t.place.size:=L3 6350303993656 N F h
    simp [FO,this]
   rw [H]at B
   refine eR H (eR o ?_)
   have y:kc w t (i+1)=t.place.getD i 0+1:=by unfold kc;rw [f0 (by rw [C];simp)]
   rw [y]at B
   exact B
  ·have H:c[i]? =am:=by simp;exact L2 161223480 N h
   rw [H]at B⊢
   exact B
theorem abb{Q:im bm->ce->Prop}{i:X}{v:bm}{C:al}(U:i≤c.size)(D:s.heap.get? I=O (oG (kc w t i) i S c.size d))(L:s.heap.get? S=O (j_ c d t))(P:t.fits c.size=M)(Y:t.plain=M)(Z:rd t=M)(B:t.led=ot w)(a:(il w S d c)[i]? =O (C,v))
  (h:∀F,F.get? I=O (oG (kc w t (i+1)) (i+1) S c.size d)->ug I s.heap F->Q (O v) {s with heap:=F}):ca (cr pw w) A (n9 (.ref I)) Q E s:=by
 have R:s.TypeIs (.ref I) "set_iterator" :=(ay _ D N)
 unfold n9
 refine dL (FA (v9 (name:=to "__next__") R vO (qT vO R JX ?_ (J3 _))))
 unfold Builtin.«set_iterator.__next__»
 refine GX (dL (wpAny_fieldsOf D N ?_))
 dsimp only
 refine DZ L N P (gA (by simp) (dL (La U L P Y Z B (eR a ?_))))
 dsimp only [Z6]
 refine vP D (by simp) λj H b=>vP H (by simp) λe J f=>lf (ay _ N (lf (h e ?_ (b.trans f))))
 rw [J];rfl
theorem acT(L:A.handled=am){Q:im bm->ce->Prop}(C:s.heap.get? I=O (oG (kc w t c.size) c.size S c.size d))(D:s.heap.get? S=O (j_ c d t))(F:t.fits c.size=M)(P:t.plain=M)(R:rd t=M)(B:t.led=ot w)
  (h:∀H,(∀b o,b≠I->s.heap.get? b=O o->H.get? b=O o)->Q am {s with heap:=H}):ca (cr pw w) A (n9 (.ref I)) Q E s:=by
 have J:s.TypeIs (.ref I) "set_iterator" :=(ay _ C N)
 unfold n9
 refine dL (FA (v9 (name:=to "__next__") J vO (qT vO J JX ?_ (J3 _))))
 unfold Builtin.«set_iterator.__next__»
 refine GX (dL (wpAny_fieldsOf C N ?_))
 dsimp only
 refine DZ D N F (gA (by simp) (dL (La (ul _) D F P R B ?_)))
 have U:(il w S d c)[c.size]? =am:=by
  have:=(AY w S d c).length_eq
  simp at this
  simp;exact L2 161225528 N this
 refine eR U ?_
 dsimp only [Option.map_none]
 refine vP C (by simp) λi Y Z=>dL ?_
 simp only [newExc,newTuple]
 refine dL (uh ?_ (by size_fits))
 refine dL (m:=firstArgMember _ _) (sH (a:=Uf) (by first|rfl|(simp only [firstArgMember];rfl)) ?_)
 refine uh ?_ (by size_fits)
 refine (?_:ca _ _ (handled>>=_) _ _ _)
 refine dL (wpAny_handled (eR (show A.in1.handled=am from L) (kS (wpAny_throw (D4 (T:="StopIteration") (b:=M) (ay _ (Ix _ N) N) isSubtype_stop ?_)))))
 exact lf (h _ λb o f e=>tz _ (tz _ (Z.extBut b o f e)))
end
theorem Tt:Fc table "set_iterator.__iter__" =O Builtin.«dict_keyiterator.__iter__»:=
 entryFor_alias (id':="dict_keyiterator.__iter__") (by kernel_rfl) N (by decide+kernel) (by kernel_rfl)
theorem TB(a:bm):argsOk "set_iterator.__iter__" ⟨[a],[]⟩:=by unfold argsOk;kernel_rfl
section
variable{w:lw}{A:pc}{E:bm->ce->Prop}{s:ce}{S I:be}{c:sK (al×bm)}{d:X}{t:qR}
theorem Xv(n:A.handled=am)(J:S≠I)(U:t.fits c.size=M)(Z:t.plain=M)(f:rd t=M)(C:t.led=ot w):
  WalksS pw w A I [I,S] [I] (λa b=>b=a) c.size (λi v=>∃h,(il w S d c)[i]? =O (h,v)) (λi s=>s.heap.get? I=O (oG (kc w t i) i S c.size d)∧s.heap.get? S=O (j_ c d t))where
 sub:=λb D=>by simp at D;simp [D]
 grefl:=λY=>N
 gtrans:=λY Y Y r y=>y.trans r
 frame:=λY Y Y Y B Y j=>⟨j I (by simp) _ B.1,j S (by simp) _ B.2⟩
 item:=λi s Q E l B F=>by
  have L:(il w S d c).size=c.size:=by
   simpa using((AY w S d c).length_eq)
  have m:(il w S d c)[i]? =O ((il w S d c)[i].1,(il w S d c)[i].2):=by simp [L,l]
  exact abb (ML l) B.1 B.2 U Z f C m λh' P H=>F _ _ ⟨_,m⟩ ⟨P,H.extBut _ _ J B.2⟩ ⟨λb o D e=>H.extBut b o (λq=>D (by simp [q])) e,N,N,N,ul _⟩
 done:=λs Q E B F=>acT n B.1 B.2 U Z f C λh' k=>F _ ⟨λb o D e=>k b o (λq=>D (by simp [q])) e,N,N,N,ul _⟩
 self:=λi s Q E B F=>by
  have R:s.TypeIs (.ref I) "set_iterator" :=(ay _ B.1 N)
  refine wpAny_pyIter_slot R J1 (qT J1 R Tt ?_ (TB _))
  refine (?_:ca _ _ (ret (.ref I)) _ _ s)
  exact lf (ay _ N (d_ ("set_iterator") _ R vO.lookup F))
theorem Vg(hh:A.handled=am)(ho:s.heap.get? S=O (j_ c d t))(hf:t.fits c.size=M)(hp:t.plain=M)(hw:rd t=M)(jX:t.led=ot w)(dg:c.size≤60)
  (hQ:∀h' tk,(∀b o,s.heap.get? b=O o->h'.get? b=O o)->Q ((il w S d c).toList.map (·.2)) {s with heap:=h',toks:=tk}):ca (cr pw w) A (collect (.ref S)) Q a9 s:=by
 have L:=FM ho
 unfold collect
 refine dL (wpAny_runValue (ui PySem.F.entry_proto_collect (eR (wc PySem.F.plain_proto_collect _) (?_:ca _ A.in1 (Bo []>>=λl=>again (.builtin "list.__iadd__" ⟨[l,.ref S],[]⟩)) _ _ s))))
 refine dL (Bp ?_ (Gc _))
 refine lf ⟨wb aac _,ui PySem.F.entry_list_iadd (eR (wc aac _) ?_)⟩
 generalize hD:s.heap.objs.size=D
 have P:D≠S:=λq=>by rw [←hD]at q;rw [q]at L;exact mF _ L
 have R:(s.heap.push (fM ([]:W bm).toArray 0)).get? S=O (j_ c d t):=tz _ ho
 have x6:(s.heap.push (fM ([]:W bm).toArray 0)).get? D=O (fM ([]:W bm).toArray 0):=eL hD (Ix _ N)
 have hT:Nl {s with heap:=s.heap.push (fM ([]:W bm).toArray 0)} (.ref S) "set" :=(ay _ R N)
 refine (?_:ca _ A.in1 (aad (.ref D) (.ref S) (.ref D)) _ _ {s with heap:=s.heap.push (fM ([]:W bm).toArray 0)})
 unfold aad
 refine uJ hT ?_
 have h1:aae (.ref D) (.ref S)=bn:=by simp [aae,P]
 have h2:(uE "set" ==uE "list")=bn:=by decide
 have h3:(uE "set" ==uE "tuple")=bn:=by decide
 refine gA (by simp only [h1,h2,h3,Bool.or_false,uD,pK];decide) ?_
 refine dL (Wc R hf hp (gy ?_))
 generalize hI:(s.heap.push (fM ([]:W bm).toArray 0)).objs.size=I
 have U:I=D+1:=eL hI (eL hD (ux ..))
 have F:((s.heap.push (fM ([]:W bm).toArray 0)).push (oG 0 0 S c.size d)).get? S=O (j_ c d t):=tz _ R
 have H:((s.heap.push (fM ([]:W bm).toArray 0)).push (oG 0 0 S c.size d)).get? D=O (fM ([]:W bm).toArray 0):=tz _ x6
 have Z:((s.heap.push (fM ([]:W bm).toArray 0)).push (oG 0 0 S c.size d)).get? I=O (oG 0 0 S c.size d):=eL hI (Ix _ N)
 have f:∀b o,s.heap.get? b=O o->((s.heap.push (fM ([]:W bm).toArray 0)).push (oG 0 0 S c.size d)).get? b=O o:=λb o e=>tz _ (tz _ e)
 revert F H Z f
 generalize (s.heap.push (fM ([]:W bm).toArray 0)).push (oG 0 0 S c.size d)=h2
 intro F H Z f
 have j:Nl {s with heap:=h2} (.ref S) "set" :=(ay _ F N)
 unfold Builtin.List.listLengthHint
 refine dL (MD j PySem.F.slot_set_len.lookup ?_)
 generalize cm:("set.__len__" :IN)=id0
 dsimp only
 refine eR (show splitId id0=O ("set","__len__") from by subst cm;decide+kernel) ?_
 subst cm
 refine D4 (b:=M) j sub_set_self (gA (by decide) (mV (by decide) (uJ j (lf ?_))))
 refine (?_:ca _ A.in1 (rule "list.extend.makes-room" >>=λY=>Builtin.List.listTouch (.ref D)>>=λY=>
  again (.builtin "list.extend.loop" ⟨[.ref D,.ref I,.ref D],[]⟩)) _ _ _)
 refine uV (dL (?_:ca _ A.in1 (updateSeq D (·.push .none)>>=λY=>updateSeq D (·.pop)) _ _ _))
 refine dL (wpAny_updateSeq H N ?_)
 have DP:=yE (lL (·.push Uf)) H N
 refine wpAny_updateSeq DP N ?_
 have hS3:=yE (lL (·.pop)) DP N
 have y:∀b o,b≠D->h2.get? b=O o->((h2.update D (lL (·.push Uf))).update D (lL (·.pop))).get? b=O o:=
  λb o hb e=>(aaf _ _ (SB hb)).trans ((aaf _ _ (SB hb)).trans e)
 have Jk:S≠I:=eR U (eL hD (PP (sO L)))
 have Sh:I≠D:=eR U (Zv _)
 have h0:kc w t 0=0:=by unfold kc;split<;>rfl
 refine lf ⟨wb PySem.F.plain_extend_loop _,codeAny_extend_loopS (Xv (A:=A.in1) hh Jk hf hp hw jX) (L2 5409761864563352 N dg f6) D (by simp [SB Sh,P]) (.ref D) c.size 0 _ _ _ N (Gc _) ⟨?_,y S _ (SB P) F⟩ hS3 (ItemsOf.nil _) λs' B c' hm qC C=>?_⟩
 ·rw [h0];exact y I _ Sh Z
 ·refine (?_:ca _ A (load D>>=_) _ _ s')
  refine dL (MO qC (lf ?_))
  have e:B.toList=(il w S d c).toList.map (·.2):=by
   have J:(il w S d c).size=c.size:=by
    simpa using((AY w S d c).length_eq)
   apply ZP
   ·simp [C.1,J]
   ·intro i h1 h2
    have AQ:i<B.size:=by simpa using h1
    obtain ⟨h,hx⟩:=C.2 i B[i] (by simp [AQ])
    have h3:i<(il w S d c).size:=eR J (eL C.1 AQ)
    rw [Array.getElem?_eq_getElem h3]at hx
    simp only [Array.getElem_toList,ZQ]
    exact eR (ii hx) N
  refine eR e ?_
  obtain ⟨h',g',d',qw,IH⟩:=s'
  have eg:g'=s.gens:=hm.gens
  have ed:d'=s.drawn:=hm.drawn
  have eo:IH=s.os:=hm.os
  subst eg;subst ed;subst eo
  refine hQ h' qw λb o eb=>?_
  have hb:=FM eb
  have Sw:b≠D:=eL hD (PP hb)
  exact hm.heap b o (by simp [Sw,(eR U (eL hD (PP (sO hb))):b≠I)]) (y b o Sw (f b o eb))
end
theorem iT.ry(p:l.Perm L):∀{q:W (W al)},iT Z h l q->∃A,q.Perm A∧iT Z h L A:=by
 induction p with
 |nil=>exact λ{q} x=>(ay q (.refl _) x)
 |cons a _ P=>
  intro q x
  cases x with
  |bg D E F=>exact aQ (P F) λA B C=>(ay (_::A) (B.cons _) (.bg D E C))
 |swap a b l=>
  intro q x
  cases x with
  |bg D E F=>
   cases F with
   |bg B C R=>exact (ay _ (Na ..) (.bg B C (.bg D E R)))
 |trans _ _ H I=>exact λx=>aQ (H x) λA B C=>aQ (I C) λJ S U=>(ay J (B.trans S) U)
structure ElA(Z:bm->W al->Prop)(h:li)(l:W (al×bm))(q:W (W al)):Prop where
 c_:l.length=q.length
 xn:∀i,i<l.length->dy h ((l.map (·.2)).getD i .none) (q.getD i [])
 z:∀i,i<l.length->Z ((l.map (·.2)).getD i .none) (q.getD i [])
theorem iT.eY{Z:bm->W al->Prop}{l:W (al×bm)}{q:W (W al)}(x:iT Z h l q):ElA Z h l q:=by
 induction x with
 |aU=>exact ⟨N,λi A=>nw A (uC _),λi A=>nw A (uC _)⟩
 |bg C D _ B=>exact ⟨lc (· +1) B.c_,λi A=>match i,A with
  |0,_=>C
  |i+1,A=>B.xn i (vY A),λi A=>match i,A with
  |0,_=>D
  |i+1,A=>B.z i (vY A)⟩
theorem TC{q A:W (W al)}(B:q.Nodup)(p:q.Perm A):fb A=fb q:=
 AZ (yf (p.nodup_iff.mp B)) (yf B) ((vQ A).trans (p.symm.trans (vQ q).symm))
section
variable{w:lw}{d:W (be×be)}{A:pc}{s:ce}
theorem abc(hh:A.handled=am)(hu:A.units+4<NE)(hP:P.ag s.heap)(x:ar w d P v (.aj l))(e:j0 l=O rs)(ok:i5 rs=M):
  ca (cr pw w) A (po (.type "set") [v]) (λu s1=>ca (cr pw w) A (po (.builtin "sorted") [u]) (λx s2=>∃P',bq P s P' s2∧ar w d P' x (.aj (dE (fb (e_ rs []))))) a9 s1) a9 s:=by
 refine cw x.I λa vs n ev ha hl hn=>?_
 have k:=NS hP hl e
 refine eR ev (Um (Z:=λv r=>ar w d P v (.af (r.map .ab))) (U:=rs) hh hu (hP _ _ ha) k.c_ k.xn k.Ib ok λh1 Jx x1 R hS S=>cw hS.eY λes ep l2 ho hm hJ rU=>?_)
 have G:=yg hS.kj
 have H:es.size=x1.hs.size:=eL hm (eR ZV N)
 have wp:=AY w s.heap.objs.size ep es
 refine K8 (C:=λJ s1=>J=(il w s.heap.objs.size ep es).toList.map (·.2)∧∃L tk,s1={s with heap:=L,toks:=tk}∧∀b o,h1.get? b=O o->L.get? b=O o)
  (Vg (s:={s with heap:=h1,toks:=Jx}) hh ho (H▸G.1) G.2.2.1 G.2.2.2.2 R (H▸G.2.2.2.1) λL tk kp=>(ff N (fV L tk N kp))) λJ s2 z=>z.elim λeu z=>eD z λh2 R6 lC I=>aQ (rU.ry (hJ.symm.trans wp.symm)) λq' p1 el1=>?_
 have E:=el1.eY
 have U:(e_ rs []).Nodup:=Ks sy
 have F:J.length=q'.length:=eR (eu ..) (eR (sw ..) (eR (E.c_ ..) N))
 have j:J.length≤60:=eR (eu ..) (eR (sw ..) (eR (wp.length_eq ..) (eR (wq ..) (eR (H ..) G.2.2.2.1))))
 have m:∀{i},i<J.length->i<(il w s.heap.objs.size ep es).toList.length:=λh=>Nat.lt_of_lt_of_eq h (F.trans E.c_.symm)
 refine eR lC (ay q' ⟨F,λi hi=>eu▸(E.xn i (m hi)).ct λb o Y y=>I b o y,λr hr=>(LI (p1.mem_iff.mpr hr)).elim ((Ow (B:=M) ok).2.2 r) λh=>(nomatch h),p1.nodup_iff.mp U,W1 j (by decide)⟩ (λp V hp L c D hD fu kp3=>?_))
 have B:bH w d P (p.toList.map λi=>J.getD i Uf) (dE (fb q')):=Ov (λi hi=>eu▸E.z i (m hi)) V hp
 rw [TC U p1]at B
 have f:=bq.cS (t:=R6) hP (A:=L) (λb o y=>kp3 b o (I b o (S b o y))) fu (nV (λb o y=>I b o (S b o y)) hD)
 exact (ay _ f (.aj (PM.ir ..) (B.bU f.le) (eL (B.bO ..) (eR (sw ..) (eR (wq ..) (eR (V.p8 ..) (io j (by decide))))))))
theorem yh(w:lw)(d:W (be×be)):iY w d where
 oF:=λY Y B x e C=>Xq B x e C
 Dg:=λD E B x e C=>abc D E B x e C
end
section
variable{w:lw}{c b:W (be×be)}{P f:PM}
noncomputable def ly(m:X):PV->an
 |.ah k=>Nat.blt k m
 |.aj l=>dY l
 |.a8 l=>dY (l.map (·.2))
 |v=>v.dS
theorem ar.fN(F:∀k q,k<m->aY c k=O q->aY b k=O q)(A:P.le f)(x:ar w c P v p)(h:ly m p=M):ar w b f v p:=by
 cases p with
 |aj l=>exact cw x.I λa L n q B C D=>q▸.aj (A _ _ B) (F5 (λY Y Y e=>A _ _ e) C h) D
 |a8 l=>exact rE x.I λd o H q B J C D=>q▸.a8 (A _ _ B) J (F6 (λY Y Y e=>A _ _ e) C h) D
 |ah k=>exact eD x.I λa d q E=>q▸.ah (F _ _ (ww h) E)
 |_=>exact B5 (λY Y Y e=>A _ _ e) x h
end
theorem q0{A:Type}:∀{l r:W A} {k:X} {x:A},aY l k=O x->aY (l++r) k=O x
 |_::_,_,0,_,h=>h
 |_::l,r,k+1,_,h=>q0 (l:=l) (r:=r) (k:=k) h
theorem t5{A:Type}:∀{l:W A} {x:A},aY (l++[x]) l.length=O x:=λ{l}=>no_implicit_lambda% (cB l (@λY=>N) λY l B {x}=>B (x:=x))
theorem qG{A:Type}:∀{l:W A} {x y:A} {k:X},aY (l++[x]) k=O y->aY l k=O y∨(k=l.length∧y=x)
 |[],x,y,0,h=>.inr ⟨N,(ii h).symm⟩
 |[],x,y,k+1,h=>aH h
 |a::l,x,y,0,h=>.inl h
 |a::l,x,y,k+1,h=>(qG (l:=l) (k:=k) h).imp id λq=>⟨lc (· +1) q.1,q.2⟩
theorem LL{A:Type}:∀{l:W A} {k:X},l.length≤k->aY l k=am
 |[],_,_=>N
 |a::l,0,h=>nw h (Nat.not_succ_le_zero _)
 |a::l,k+1,h=>LL (l:=l) (k:=k) (EX h)
theorem A7{A:Type}:∀{l r:W A} {k:X},k<l.length->aY (l++r) k=aY l k
 |[],_,_,h=>nw h (uC _)
 |_::l,_,0,h=>N
 |_::l,_,k+1,h=>A7 (l:=l) (k:=k) (vY h)
theorem NT{A:Type}:∀{l:W A} {k:X} {x:A},aY l k=O x->x∈l
 |_::_,0,_,h=>ii h▸wf ..
 |_::l,k+1,_,h=>wv _ (NT (l:=l) (k:=k) h)
theorem NU{A:Type}:∀(l:W (X×A)) (x y:X) (p:A),aG (l++[(x,p)]) y=match aG l y with|some u=>O u|none=>if x=y then O p else am:=λl=>gV l (λx y p=>fI) λk u l B x y p=>by
  refine eR YR (eR fI (eR fI ?_))
  by_cases h:k=y
  ·rw [jp h,jp h]
  ·rw [f0 h,f0 h];exact B x y p
theorem aT.az(a:aT g env F P B s)(H:A.w=g.w)(I:∀x p,aG B x=O (.ax p)->∀v,ar g.w g.az P v p->ar g.w A.az C v p)(D:∀x p,aG B x≠O (.aX p))
  (J:C env.locals=am∧¬ej A env.locals) (E:∀x c,env.cells.lookup x=O c->C c=am∧¬ej A c):aT A env F C B s:=
 a.gu.elim λL V=>⟨a.bR,a.ns,J,λx c e=>(bt ((E x c e).1) ((E x c e).2) ((a.cj x c e).2.2)),L,λx p e=>aQ (V.ax x p e) λv R S=>(ay v R (H▸I x p e v S)),λx p e=>nw e (D x p),λx y p q e=>nw e (D x p)⟩
theorem GY(A:E.w=g.w)(D:P.le F):∀{p:PV},lT p=M->dr g P h d p->dr E F h d p
 |.aj _,B,x=>bX x λH n I J L=>(d_ H n I (A▸F5 (λY Y Y e=>D _ _ e) J B) L)
 |.a8 _,B,x=>x.2.elim λC y=>(ff x.1 (cq C (A▸y.1) (A▸F6 (λY Y Y e=>D _ _ e) y.2.1 B) y.2.2))
theorem fK.H5(hw:A.w=g.w)(L:dv A.Φ j=dv g.Φ j)(h2:dv g.Φ j=M->aY A.Φ j=aY g.Φ j)(h3:∀y,A.F j y=g.F j y)(h4:∀y q,dF A.Φ j y=O q->∃E,dF g.Φ j y=O E)(hP:P.le P')(z:fK g P j a d F h):fK A P' j a d F h:=by
 cases z with
 |gD i p B H I C D J=>
  have h5:∀x,xd A j x=xd g j x:=λx=>lc (λo=>FT o λcs=>aG cs x) (h2 B)
  exact .gD i p (L.trans B) H I ((h5 _).trans C) (λx p' e=>D x p' ((h5 _).symm.trans e)) (GY hw hP (D _ _ C) J)
 |cD R B H I C D J S U=>exact .cD R (L.trans B) H I C (hw▸D) J (λy q e=>(h4 y q e).elim λE Y=>(h3 y).symm▸S y E Y) U
 |ie Z o m B H I C D J S U k9 f DN=>exact .ie Z o m (L.trans B) H (hP _ _ I) C D J S (λy q e=>(h4 y q e).elim λE Y=>(h3 y).symm▸U y E Y) k9 f DN
noncomputable def Gh.ic(g:Gh)(k x:X)(p:PV)(v:bm):Gh:={g with Φ:=kn g.Φ k (((aY g.Φ k).getD [])++[(x,p)]),F:=λj y=>if j=k∧y=x then O v else g.F j y}
section
variable{g:Gh}{n:X}{w:na}{k x:X}{p:PV}{v:bm}{l:W (X×PV)}
theorem GZ(A:aY g.Φ k=O l)(j:X):aY (g.ic k x p v).Φ j=if j=k then O (l++[(x,p)])else aY g.Φ j:=by
 refine (?_:aY (kn g.Φ k (((aY g.Φ k).getD [])++[(x,p)])) j=_)
 by_cases h:j=k
 ·rw [jp h,h,Bb A,A];rfl
 ·exact eR (f0 h) (eR (A8 h) N)
theorem Gj(A:aY g.Φ k=O l)(C:x≠1)(j:X):dv (g.ic k x p v).Φ j=dv g.Φ j:=by
 unfold dv
 refine eR (GZ A ..) ?_
 by_cases B:j=k
 ·refine eR (B ..) (eR (jp N ..) (eR (A ..) (eR (wo ..) (eR (wo ..) (eR (NU ..) ?_)))))
  cases aG l 1 with
  |some u=>rfl
  |none=>dsimp only;rw [f0 C]
 ·exact eR (f0 B ..) N
theorem abd(A:aY g.Φ k=O l)(D:x≠1)(E:aG l x=am)(F:dv g.Φ k=bn)(j y:X):dF (g.ic k x p v).Φ j y=if j=k∧y=x then O p else dF g.Φ j y:=by
 unfold dF
 refine eR (Gj A D ..) (eR (GZ A ..) ?_)
 by_cases B:j=k
 ·refine eR (B ..) (eR (F ..) (eR (jp N ..) ?_))
  dsimp only
  refine eR (A ..) (eR (wo ..) (eR (wo ..) (eR (NU ..) ?_)))
  by_cases C:y=x
  ·rw [C,E,jp (c:=k=k∧x=x) ⟨N,N⟩];exact jp N
  ·refine eR (f0 (c:=k=k∧y=x) λq=>C q.2 ..) ?_
   cases aG l y with
   |some u=>rfl
   |none=>exact f0 λq=>C (Eq.symm q)
 ·exact eR (f0 B ..) (eR (f0 λq=>B q.1 ..) N)
theorem LM(A:sS k x=M):aZ x∈(si k).map aZ:=aQ (Bv.mp A) λz B C=>No.mpr (ay x (AC C▸B) N)
theorem aS.ic(I:aS g P ob s)(E:aY g.az k=O (a,d))(hc:iO g.Φ k=O J)(hf:sS k x=M)(C:aY g.Φ k=O l)(h1:x≠1)(hx:aG l x=am)(L:∀A,aY ob k=O A->aG A x=am)(tW:aG J x=am)
  (r:ar g.w g.az P v p) (hm1:s.heap.Ns1 d m) (hm2:h'.Ns1 d (λy=>if y=aZ x then O v else m y)) (hs:∀b o,b≠d->s.heap.get? b=O o->h'.get? b=O o):aS (g.ic k x p v) P ob {s with heap:=h',toks:=tk}:=by
 have H:=t8 hc
 have U:=abd (p:=p) (v:=v) C h1 hx H.1
 refine ⟨I.cJ,λb o e=>hs b o (λq=>aH ((I.jL _ _ _ E).symm.trans (q▸e))) (I.ag b o e),I.i8,I.os,λj y q e=>?_,λj b d' Z=>dk (I.ah j b d' Z) λA n1 n2 n3=>(cq A n1 ?_ (λy q e=>?_)),I.c_,I.jL,I.fc⟩
 ·rw [U]at e
  by_cases B:j=k∧y=x
  ·rw [jp B]at e;exact (ay v (jp B) (ii e▸r))
  ·rw [f0 B]at e;exact aQ (I.ll j y q e) λu hu hr=>(ay u ((f0 B).trans hu) hr)
 ·by_cases B:j=k
  ·rw [B]at Z n1 n2⊢
   have ez:=Op (ii (E.symm.trans Z))
   rw [←ez.1,←ez.2]at n2⊢
   cases n2 with
   |gD _ _ q=>exact jf (q.symm.trans H.1)
   |cD _ _ q=>exact aH (q.symm.trans H.2)
   |ie DT o m' k1 k2 k3 k4 k5 k6 k7 k8 k9 F R=>
    rw [Ey k7.ns hm1.ns]at k8 k9 F R
    rw [ii (k2.symm.trans H.2)]at F
    refine .ie J o _ ((Gj C h1 k).trans H.1) H.2 k3 k4 k5 k6 hm2 (λy q e=>?_) (λy i e=>(k9 y i e).elim λt h=>⟨t,(f0 λq=>aH ((L A n1).symm.trans (kM q▸e))).trans h⟩) (λy f e=>(f0 λq=>aH (tW.symm.trans (kM q▸e))).trans (F y f e)) λy D=>?_
    ·rw [U]at e
     by_cases D:y=x
     ·exact (ay v (jp ⟨N,D⟩) (jp (D▸N)))
     ·rw [f0 λq=>D q.2]at e
      exact aQ (k8 y q e) λu hu hmu=>(ay u ((f0 λq=>D q.2).trans hu) ((f0 λq=>D (kM q)).trans hmu))
    ·by_cases S:y=aZ x
     ·exact S▸LM hf
     ·rw [f0 S]at D
      exact R y D
  ·exact fK.H5 (g:=g) (A:=g.ic k x p v) N (Gj C h1 j) (λY=>(GZ C j).trans (f0 B)) (λy=>f0 λq=>B q.1) (λy q e=>⟨q,((U j y).trans (f0 λq=>B q.1)).symm.trans e⟩) (PM.le.bQ P) (n2.ct (PM.le.bQ P) λo=>hs d' o λq=>B (I.fc _ _ _ _ _ _ Z E q))
 ·rw [U]at e
  by_cases B:j=k∧y=x
  ·rw [B.2];exact L A (B.1▸n1)
  ·rw [f0 B]at e;exact n3 y q e
theorem aT.ic(a:aT g env A P B s):aT (g.ic k x p v) env A P B s:=
 a.gu.elim λC V=>⟨a.bR,a.ns,a.dq,a.cj,C,V.ax,V.aX,V.fc⟩
end
theorem Kw(h:aY A j=aY B j):dv A j=dv B j:=by unfold dv;rw [h]
theorem Ej(h:aY A j=aY B j)(x:X):dF A j x=dF B j x:=by unfold dF;rw [Kw h,h]
noncomputable def Gh.gc(g:Gh)(q:be×be)(A:W (X×PV)):Gh:={g with az:=g.az++[q],Φ:=g.Φ++[A]}
section
variable{g:Gh}{n:X}{f:na}
theorem Ox{q:be×be}{A:W (X×PV)}{j:X}(h:j<g.Φ.length):aY (g.gc q A).Φ j=aY g.Φ j:=A7 h
theorem G8{q:be×be}{A:W (X×PV)}{k:X}(h:g.Φ.length=k):aY (g.gc q A).Φ k=O A:=h▸t5
theorem NV{q:be×be}{B:W (X×PV)}{k:X}(h:g.Φ.length=k)(C:∀x,dF (g.gc q B).Φ k x=am){j x:X}{p:PV}(e:dF (g.gc q B).Φ j x=O p):j<k∧dF g.Φ j x=O p:=by
 rcases Nat.lt_trichotomy j k with A|A|A
 ·exact ⟨A,(Ej (Ox (h.symm▸A)) x).symm.trans e⟩
 ·exact aH ((C x).symm.trans (A▸e))
 ·have D:aY (g.gc q B).Φ j=aY [] j:=LL (io (nY (xz.trans (lc (· +1) h))) A)
  exact aH ((Ej (B:=[]) D x).symm.trans e)
theorem aS.gc(I:aS g P Z s)(F:g.az.length=k)(H:g.Φ.length=k)(c:Z.length=k)(o:P d=am)(C:¬ej g d)(r:fK (g.gc (a,d) E) P k a d A s.heap)
  (J:∀x,dF (g.gc (a,d) E).Φ k x=am):aS (g.gc (a,d) E) P (Z++[A]) s:=by
 have h:∀j q,aY g.az j=O q->aY (g.gc (a,d) E).az j=O q:=λj q e=>q0 e
 refine ⟨I.cJ,I.ag,I.i8,I.os,λj x p e=>aQ (I.ll j x p (NV H J e).2) λv t w=>(ay v t (w.up h (PM.le.bQ P))),λj b D B=>(qG B).elim (λB=>?_) λq=>?_,λj L e=>(qG e).elim (λe=>fP (I.c_ j L e) λb D e=>(dC b D (h _ _ e))) λq=>(dC a d ?_),λj b D B=>(qG B).elim (I.jL j b D) λq=>(Op q.2).2▸o,λj i b d1 b' d2 e1 l R=>(qG e1).elim (λm=>(qG l).elim (λS=>I.fc _ _ _ _ _ _ m S R) λq=>nw (dC j b (((Op q.2).2▸R)▸m)) C) λq=>(qG l).elim (λS=>nw (dC i b' (((Op q.2).2▸R.symm)▸S)) C) λq2=>q.1.trans q2.1.symm⟩
 ·have U:aY (g.gc (a,d) E).Φ j=aY g.Φ j:=Ox (H.symm▸F▸wH B)
  exact dk (I.ah j b D B) λL n1 n2 n3=>(cq L (q0 n1) (fK.H5 (g:=g) N (Kw U) (λY=>U) (λY=>N) (λy q e=>⟨q,(Ej U y).symm.trans e⟩) (PM.le.bQ P) n2) (λx p e=>n3 x p (NV H J e).2))
 ·exact eR (q.1.trans F) (eR ((Op q.2).1) (eR ((Op q.2).2) (cq A (c▸t5) r (λx p e=>aH ((J x).symm.trans e)))))
 ·rw [q.1,c,←F];exact t5
theorem Kx{q:be×be}{A:W (X×PV)}(h:ej (g.gc q A) b):ej g b∨b=q.2:=fP h λk x e=>(qG (l:=g.az) e).elim (λe=>.inl (dC k x e)) λe=>.inr (lc Prod.snd e.2)
theorem aT.gc{A:be->Prop}{q:be×be}{C:W (X×PV)}(a:aT g env A P B s)(D:jt B)(E:q.2≠env.locals)(F:∀x,env.cells.lookup x≠O q.2):aT (g.gc q C) env A P B s:=
 a.az N (λx p Y v r=>r.up (λj u e=>q0 e) (PM.le.bQ P)) D ⟨a.dq.1,λh=>(Kx h).elim a.dq.2 λh=>E h.symm⟩ λx c e=>⟨(a.cj x c e).1,λh=>(Kx h).elim (a.cj x c e).2.1 λh=>F x (h▸e)⟩
structure ad1(g:Gh)(env:ln)(hb:be->Prop)(P:PM)(vs:av)(ob:ai)(s:ce)(v:bm)(k:X):Prop where
 a:aT g env hb P vs s
 I:aS g P ob s
 r:ar g.w g.az P v (.ah k)
theorem ad2{env:ln}{J:be->Prop}{P:PM}{L:ai}{k:X}{F:PV}{A:W (X×PV)}(a:aT g env J P R s)(I:aS g P L s)(b:vg g env J P s.heap D F)(c:jt R)(h:∀x,env.cells.lookup x≠O D)(S:g.az.length=k)(U:g.Φ.length=k)(i:L.length=k)
  (j:aG A 1=O .bG) (Y:aG A 2=O F) (Z:∀(x:X) H,aG A (x+2)=O H->lT H=M):ad1 (g.gc (D,D) A) env J P R (L++[[(0,0)]]) s (.ref D) k:=by
 have B:=G8 (g:=g) (q:=(D,D)) (A:=A) U
 have C:∀x,xd (g.gc (D,D) A) k x=aG A x:=λx=>lc (λo=>FT o λA=>aG A x) B
 have E:dv (g.gc (D,D) A).Φ k=M:=by unfold dv;rw [B,wo,j]
 exact ⟨a.gc c b.nL h,I.gc S U i b.nP b.nI (.gD 0 F E N N ((C 2).trans Y) (λx H e=>Z x H ((C _).symm.trans e)) (GY (g:=g) (E:=g.gc (D,D) A) N (PM.le.bQ P) (Z 0 F Y) b.eY)) λx=>by unfold dF;rw [E],.ah (a:=D) (d:=D) (S▸t5)⟩
structure acU(g:Gh)(env:ln)(hb:be->Prop)(P:PM)(vs:av)(ob:ai)(s:ce)(D:be)(P':PM):Prop where
 a:aT g env hb P' vs s
 I:aS g P' ob s
 le:P.le P'
 bN:∀b o,P' b=O o->P b=O o∨b=D
theorem zC(a:aT {g with az:=g.az++[(D,D)],Φ:=A} env hb P vs s)(I:aS {g with az:=g.az++[(D,D)],Φ:=A} P (ob++[C]) s)(no:jt vs)(h1:g.az.length=k)(h3:ob.length=k)
  (IS:aY A k=O cs) (ht:dv A k=M) (hi:aG C 0=O i) (hp:aG cs (i.toNat+2)=O p)
  (c1:∀j,j<k->dv g.Φ j=dv A j) (c2:∀j,j<k->dv A j=M->aY g.Φ j=aY A j) (c3:∀j y q,dF g.Φ j y=O q->(dF A j y=O q∧ly k q=M)∨(dF A j y=O (.ah k)∧q=p))
  (hv:∀x q,aG vs x=O (.ax q)->ly k q=M):∃P',acU g env hb P vs ob s D P':=by
 have J:aY (g.az++[(D,D)]) k=O (D,D):=h1▸t5
 have F:∀j q,j<k->aY (g.az++[(D,D)]) j=O q->aY g.az j=O q:=λj q hj e=>(A7 (h1.symm▸hj)).symm.trans e
 have B:∀{j q},aY g.az j=O q->aY (g.az++[(D,D)]) j=O q:=λe=>q0 e
 have H:dr {g with az:=g.az++[(D,D)],Φ:=A} P s.heap D p∧lT p=M:=dk (I.ah k D D J) λyd n1 n2 Y=>by
  rw [ii ((show aY (ob++[C]) k=O C from h3▸t5).symm.trans n1)]at hi
  cases n2 with
  |gD i' p' k1 k2 k3 k4 k5 k6=>
   rw [ii (hi.symm.trans k3)]at hp
   exact (ii (((lc (λo=>FT o λcs=>aG cs (i'.toNat+2)) IS).trans hp).symm.trans k4))▸⟨k6,k5 _ _ k4⟩
  |cD _ q=>exact jf (ht.symm.trans q)
  |ie _ _ _ q=>exact jf (ht.symm.trans q)
 refine (lJ.mp H.1.ix).elim λoD R=>⟨P.cS D oD,?_⟩
 have L:P.le (P.cS D oD):=PM.pU (I.jL k D D J)
 have S:∀b,b≠D->P.cS D oD b=P b:=λb h=>f0 h
 have U:∀b,ej g b->ej {g with az:=g.az++[(D,D)],Φ:=A} b:=λb h=>fP h λj x e=>(dC j x (B e))
 have Z:∀x c,env.cells.lookup x=O c->c≠D:=λx c e q=>(a.cj x c e).2.1 (dC k D (q▸J))
 have lt:∀{j b d},aY g.az j=O (b,d)->j<k:=λe=>h1▸wH e
 refine ⟨a.az (A:=g) N (λx q e v r=>r.fN F L (hv x q e)) no ⟨(S _ (λq=>a.dq.2 (dC k D (q▸J)):env.locals≠D)).trans a.dq.1,λh=>a.dq.2 (U _ h)⟩ λx c e=>⟨(S _ (Z x c e)).trans (a.cj x c e).1,λh=>(a.cj x c e).2.1 (U _ h)⟩,⟨λb o e=>L _ _ (I.cJ b o e),λb o e=>?_,I.i8,I.os,λj y q e=>(c3 j y q e).elim (λz=>aQ (I.ll j y q z.1) λv f1 f2=>(ay v f1 (f2.fN F L z.2))) λz=>aQ (I.ll j y _ z.1) λv f1 f2=>eD f2.I λb d ev cm=>(ay v f1 ?_),λj b d E=>dk (I.ah j b d (B E)) λns m1 m2 m3=>(cq ns ((A7 (h3.symm▸lt E)).symm.trans m1) (fK.H5 (g:={g with az:=g.az++[(D,D)],Φ:=A}) N (c1 j (lt E)) (c2 j (lt E)) (λY=>N) (λy q e=>(c3 j y q e).elim (λz=>⟨_,z.1⟩) λz=>⟨_,z.1⟩) L m2) (λy q e=>(c3 j y q e).elim (λz=>m3 _ _ z.1) λz=>m3 _ _ z.1)),λj ns e=>fP (I.c_ j ns (q0 e)) λb d E=>(dC b d (F j _ (h3▸wH e) E)),λj b d E=>(S _ λq=>nw (I.fc _ _ _ _ _ _ (B E) J q) (PP (lt E))).trans (I.jL j b d (B E)),λj i b d1 b' d2 q1 q2 ed=>I.fc _ _ _ _ _ _ (B q1) (B q2) ed⟩,L,λb o e=>?_⟩
 ·by_cases q:b=D
  ·rw [q]at e⊢;exact R.trans ((PM.ir ..).symm.trans e)
  ·exact I.ag b o ((S b q).symm.trans e)
 ·rw [ev,z.2,(Op (ii (cm.symm.trans J))).1];exact (GR (PM.le.bQ _) ((PM.ir ..).trans R.symm) (GY (g:={g with az:=g.az++[(D,D)],Φ:=A}) (E:=g) N L H.2 H.1))
 ·by_cases q:b=D
  ·exact .inr q
  ·exact .inl ((S b q).symm.trans e)
end
section
open PySem.Builtin PySem.Builtin.ObjectAttr
@[reducible]noncomputable def Gh.st(g:Gh)(nid:W (be×be))(A:bA)(F:X->X->im bm):Gh:={g with az:=g.az++nid,F:=F,Φ:=A}
theorem cI.st{g:Gh}(B:cI g){nid:W (be×be)}{A:bA}{F:X->X->im bm}:cI (g.st nid A F):=⟨B.K,B.b_,B.QY,B.rJ⟩
structure aeP(g:Gh)(eh:PM)(bh:ce)(nid:W (be×be))(Φ:bA)(env:ln)(hb:be->Prop)(vs:av)(ob:ai)(s:ce)(F:X->X->im bm)(P:PM):Prop where
 a:aT (g.st nid Φ F) env hb P vs s
 I:aS (g.st nid Φ F) P ob s
 G:bW g (cN bh.heap) eh bh P s
structure eX(g:Gh)(eh:PM)(bh:ce)(nid:W (be×be))(Φ:bA)(env:ln)(hb:be->Prop)(vs:av)(ob:ai)(s:ce):Prop where
 bN:∀q∈nid,bh.heap.get? q.2=am
 ex:∃F P,aeP g eh bh nid Φ env hb vs ob s F P
theorem Oy{A:Type}{r:W A}{x:A}:∀{l:W A} {k:X},aY (l++r) k=O x->(∃j,aY l j=O x)∨x∈r
 |[],_,h=>.inr (NT h)
 |a::l,0,h=>.inl ⟨0,h⟩
 |a::l,k+1,h=>(Oy (l:=l) (k:=k) h).imp (λz=>z.elim λj e=>⟨j+1,e⟩) id
section
variable{g:Gh}{n:X}{L:na}{D:PM}{l:ce}{nid:W (be×be)}{J U:bA}{F:X->X->im bm}
theorem idn(A:∀q∈nid,l.heap.get? q.2=am)(B:l.heap.get? b≠am)(h:ej (g.st nid J F) b):ej g b:=
 fP h λk x e=>(Oy e).elim (λz=>z.elim λj e=>(dC j x e)) λm=>nw (A _ m) B
theorem bW.kC{A:be->Prop}{P B:PM}{s C:ce}(x:bW g (cN l.heap) D l P s)(R:∀q∈nid,l.heap.get? q.2=am)(E:∀b,l.heap.get? b≠am->A b)(y:eB (g.st nid J F) A P s B C):bW g (cN l.heap) D l B C:=by
 have H:∀{b o},l.heap.get? b=O o->l.heap.get? b≠am:=λe q=>aH (q.symm.trans e)
 exact ⟨x.le.bD y.le,λb o e I=>y.cH b o (E b (H e)) (x.cH b o e I) λh=>I (idn R (H e) h),λb e=>y.bR b (x.bR b e),λb o e=>(y.bN b o e).elim (x.bN b o) λh=>.inr λq=>h (E b q)⟩
variable{env:ln}{j:be->Prop}{vs vs':av}{ob aN:ai}{s:ce}{A:pc}{R:Flow->ce->Prop}
structure qc(g:Gh)(n:X)(A:pc)(env:ln)(L:na)(j:be->Prop)(l:ce):Prop where
 cJ:cI g
 i6:dh env L
 zO:i9 env L j
 jP:eW A n
 qt:∀b,l.heap.get? b≠am->j b
 CO:∀nid J F,j' (g.st nid J F) n
 oF:∀ids,iY g.w ids
theorem qc.kj(Z:qc g n A env L j l):∀m,fU (g.st nid J F) n m:=Gd Z.cJ.st (Z.CO _ _ _) (Z.oF _)
theorem eX.CX(Z:qc g n A env L j l)(H:eX g D l nid J env j vs ob s){B:sB}{m:MS}(hm:fQ m L B=M)(q:cY (ba J n) J [] m vs ob λI v o=>I=.bp∧v=vs'∧o=aN)(k:∀C,eX g D l nid J env j vs' aN C->R .next C):ca (cr pw g.w) A (pM B env) R a9 s:=
 H.ex.elim λF h=>h.elim λP h=>SP.bJ (g:=g.st nid J F) ((Gg Z.cJ.st (Z.CO _ _ _) (Z.oF _) [] m L B hm).go Z.i6 Z.zO Z.jP h.a h.I q) λf C I bu ob1 P1 E S Y y G1=>by
  rw [E.2.1]at Y
  rw [E.2.2]at y
  rw [E.1]at S
  cases S
  exact k _ ⟨H.bN,F,P1,Y,y,h.G.kC H.bN Z.qt G1⟩
theorem eX.gq(Z:qc g n A env L j l)(H:eX g D l nid J env j vs ob s)(B:yH e am pos.line env=re bn)(a:cM m L e=M)(q:bB (ba J n) J m vs ob λY v o=>v=vs'∧o=aN)(k:∀C,eX g D l nid J env j vs' aN C->R .next C):ca (cr pw g.w) A (pM (.Expr e pos) env) R a9 s:=
 H.ex.elim λF h=>h.elim λP h=>FN (EP.bJ (g:=g.st nid J F) ((Z.kj m L e a).1.go Z.i6 Z.jP h.a h.I q) λv i r b c d E I S t f=>by
  rw [E.1]at I
  rw [E.2]at S
  exact k _ ⟨H.bN,F,d,I,S,h.G.kC H.bN Z.qt f.eP⟩) Z.i6.Cz B
theorem NW(B:cI g)(I:aS g P ob s)(ha:fv a=M)(f:aY g.az k=O (b,d))(hc:iO g.Φ k=O tab)(hf:sS k (aW a)=M)(h1:aW a≠1)
  (cG:aY g.Φ k=O cs) (hx:aG cs (aW a)=am) (tM:∀H,aY ob k=O H->aG H (aW a)=am) (tW:aG tab (aW a)=am) (r:ar g.w g.az P v p)
  (h:∀s',aS (g.ic k (aW a) p v) P ob s'->(∀j,bW g j P s P s')->Q () s'):ca (cr pw g.w) A (setAttr (.ref b) a v) Q E s:=by
 have e1:=(f7 ha).1
 refine rF (y5 I hc f) λY ox od Y Y S hP Y=>dk (I.ah k b d f) λH jn hU tT=>?_
 have jB:=t8 hc
 have C:=zA jB.2 g.w.params
 have y:=C.jj _ hf
 rw [e1]at y
 cases hU with
 |gD _ _ ht=>exact jf (ht.symm.trans jB.1)
 |cD _ _ jA=>exact aH (jA.symm.trans jB.2)
 |ie DT o1 m1 _ jA j1 j2 j3 j4 j5 j6 j7 j8 j9=>
  refine Ef (I.oU B) S.vf S.cD j5 j9 (ED _) C.sa C.bK C.a8 y λh' tk nR fq=>?_
  have k1:∀Z o,Z≠d->s.heap.get? Z=O o->h'.get? Z=O o:=λZ o hb' e=>fq.extBut Z o hb' e
  refine h _ (I.ic f hc hf cG h1 hx tM tW r j5 (eR e1 nR) k1) λj=>⟨PM.le.bQ P,λZ o e ni=>k1 Z o (λq=>ni (q▸(dC k b f))) e,λZ e q=>?_,λY Y e=>.inl e⟩
  by_cases q':Z=d
  ·exact F7 nR.ns (q'▸q)
  ·exact (lJ.mp e).elim λo w=>aH (q.symm.trans (k1 Z o q' w))
theorem abe(B:cI g)(I:aS g P ob s)(ha:fv a=M)(cm:aY g.az k=O (b,d))(hc:iO g.Φ k=O tab)(hf:sS k (aW a)=M)
  (hx:dF g.Φ k (aW a)=am) (hn:aY ob k=O Z) (tW:aG tab (aW a)=am)
  (h:∀s',aS g P (kn ob k (aK Z (aW a) i)) s'->(∀j,bW g j P s P s')->Q () s'):ca (cr pw g.w) A (setAttr (.ref b) a (.int i t)) Q E s:=by
 have e1:=(f7 ha).1
 refine rF (y5 I hc cm) λY ox od Y Y S hP Y=>dk (I.ah k b d cm) λyd jn hU tT=>?_
 rw [←ii (hn.symm.trans jn)]at hU tT
 have H:=t8 hc
 have C:=zA H.2 g.w.params
 have tL:=C.jj _ hf
 rw [e1]at tL
 cases hU with
 |gD _ _ ht=>exact jf (ht.symm.trans H.1)
 |cD _ _ jA=>exact aH (jA.symm.trans H.2)
 |ie DT o1 m1 _ jA j1 j2 j3 j4 j5 j6 j7 j8 j9=>
  rw [ii (jA.symm.trans H.2)]at j8
  refine Ef (I.oU B) S.vf S.cD j5 j9 (ED _) C.sa C.bK C.a8 tL λh' tk nR fq=>?_
  have nx:∀{y p},dF g.Φ k y=O p->aZ y≠a:=λe q=>aH (hx.symm.trans ((kM (q.trans e1.symm))▸e))
  have I3:=I.zj (R:=tk) (E:=aK Z (aW a) i) cm hn (λb' o hb' e=>fq.extBut b' o hb' e) (.ie tab o1 _ H.1 H.2 j1 j2 j3 j4 nR (λy p e=>aQ (j6 y p e) λv hv rZ=>(ay v hv ((f0 (nx e)).trans rZ))) (λy i' e=>?_) (λy f e=>(f0 λq=>aH (tW.symm.trans ((kM (q.trans e1.symm))▸e))).trans (j8 y f e)) λy hy=>?_) λy p e=>eR (gg ..) (eR (f0 (c:=aW a=y) λq=>nx e (q▸e1) ..) (tT y p e))
  ·exact h _ I3.1 I3.2
  ·rw [gg]at e
   by_cases q:aW a=y
   ·rw [jp q]at e
    exact ⟨t,(jp (q▸e1)).trans (ii e▸N)⟩
   ·rw [f0 q]at e
    exact (j7 y i' e).elim λt' AA=>⟨t',(f0 λe'=>q (kM (e1.trans e'.symm))).trans AA⟩
  ·by_cases Am:y=a
   ·rw [Am,←e1];exact LM hf
   ·rw [f0 Am]at hy;exact j9 y hy
end
end
section
open PySem.Builtin PySem.Builtin.ObjectAttr
theorem HB{B m:MX}{x:X}{A:na}{C:sB}(h:fQ (.eH B x m) A C=M):∃o a p e pos,C=.Assign [.Attribute o a p] e pos∧fv a=M∧aW a=x∧cM B A o=M∧cM m A e=M:=
 C6 h λE F H I J L=>cC (kl E) λt v p q=>by
  subst q
  refine cC (dH F) λb y D q=>?_
  have q:t=.Attribute b y D:=q
  subst q
  exact ⟨b,y,D,v,p,N,H,AC I,J,L⟩
theorem EF(e:kt)(o:kt)(a:f8)(p:KF)(l:X)(env:ln):yH e (O (.Attribute o a p)) l env=re bn:=by cases e<;>rfl
section
variable{g:Gh}{n:X}{L:na}{C:PM}{l:ce}{nid:W (be×be)}{c w:bA}{env:ln}{J:be->Prop}{E:av}{B:ai}{s:ce}{A:pc}{R:Flow->ce->Prop}
theorem B8{k x:X}{p:PV}{v:bm}{H:W (X×PV)}{F:X->X->im bm}(D:aY c k=O H):(g.st nid c F).ic k x p v=g.st nid (kn c k (H++[(x,p)])) (λj y=>if j=k∧y=x then O v else F j y):=by
 refine (?_:({g with az:=g.az++nid,Φ:=kn c k (((aY c k).getD [])++[(x,p)]),F:=_}:Gh)=_)
 refine eR D ?_
 rfl
structure Oz(c:bA)(B:ai)(k x:X)(p:PV)(w:bA)(tab:W (X×X))(cs:W (X×PV)):Prop where
 QV:iO c k=O tab
 jj:sS k x=M
 ne:x≠1
 eY:aY c k=O cs
 bN:aG cs x=am
 iE:∀nums,aY B k=O nums->aG nums x=am
 Rb:aG tab x=am
 eq:kn c k (cs++[(x,p)])=w
theorem eX.ic(Z:qc g n A env L J l)(H:eX g C l nid c env J E B s){st:sB}{x:X}{m D:MX}{p:PV}{k:X}{I:W (X×X)}{cs:W (X×PV)}(S:fQ (.eH D x m) L st=M)
  (q:bB (ba c n) c m E B λv U o=>v=p∧U=E∧o=B) (qo:bB (ba c n) c D E B λv U o=>v=.ah k∧U=E∧o=B) (f:Oz c B k x p w I cs) (Y:∀s',eX g C l nid w env J E B s'->R .next s'):ca (cr pw g.w) A (pM st env) R a9 s:=by
 refine H.ex.elim λF h=>h.elim λP h=>l_ (HB S) λo a p' e pos es ha i ho he=>eR es (FK (EP.bJ (g:=g.st nid c F) ((Z.kj m L e he).1.go Z.i6 Z.jP h.a h.I q) λv s1 r bu ob1 P1 t a1 I1 x1 G1=>?_) (EF ..))
 rw [t.2.1]at a1
 rw [t.2.2]at I1
 rw [t.1]at x1
 refine EP.bJ (g:=g.st nid c F) ((Z.kj D L o ho).1.go Z.i6 Z.jP a1 I1 qo) λov s2 r2 cO cf P2 q2 a2 I2 x2 G2=>?_
 rw [q2.2.1]at a2
 rw [q2.2.2]at I2
 rw [q2.1]at x2
 refine eD x2.I λb d eb cm=>eR eb ?_
 rw [←f.eq]at Y
 rw [←i]at f Y
 refine NW (g:=g.st nid c F) Z.cJ.st I2 ha cm f.QV f.jj f.ne f.eY f.bN f.iE f.Rb (x1.bU G2.le) λs3 I3 G3=>Y s3 ⟨H.bN,λj y=>if j=k∧y=aW a then O v else F j y,P2,?_,?_,h.G.kC H.bN Z.qt (G1.bD (G2.bD (G3 _))).eP⟩
 ·exact B8 (x:=aW a) f.eY▸(a2.cv (G3 _)).ic (g:=g.st nid c F) (k:=k) (x:=aW a) (p:=p) (v:=v)
 ·exact B8 (x:=aW a) f.eY▸I3
theorem eX.agK(Z:qc g n A env L J l)(H:eX g C l nid c env J E B s){st:sB}{x:X}{m U:MX}{i:al}{k:X}{I:W (X×X)}{D:W (X×al)}(Y:fQ (.eH U x m) L st=M)
  (q:bB (ba c n) c m E B λv f o=>v=.ab i∧f=E∧o=B) (qo:bB (ba c n) c U E B λv f o=>v=.ah k∧f=E∧o=B) (hc:iO c k=O I) (hf:sS k x=M) (hx:dF c k x=am) (j:aY B k=O D) (S:aG I x=am)
  (kk:∀s',eX g C l nid c env J E (kn B k (aK D x i)) s'->R .next s'):ca (cr pw g.w) A (pM st env) R a9 s:=by
 refine H.ex.elim λF h=>h.elim λP h=>l_ (HB Y) λo a p' e pos es ha y ho he=>eR es (FK (EP.bJ (g:=g.st nid c F) ((Z.kj m L e he).1.go Z.i6 Z.jP h.a h.I q) λv s1 r bu ob1 P1 q1 a1 I1 x1 G1=>?_) (EF ..))
 rw [q1.2.1]at a1
 rw [q1.2.2]at I1
 rw [q1.1]at x1
 refine EP.bJ (g:=g.st nid c F) ((Z.kj U L o ho).1.go Z.i6 Z.jP a1 I1 qo) λov s2 r2 cO cf P2 q2 a2 I2 x2 G2=>?_
 rw [q2.2.1]at a2
 rw [q2.2.2]at I2
 rw [q2.1]at x2
 refine eD x2.I λb d eb cm=>(show∃t,v=.int i t from x1.I).elim λt ev=>eR eb (eR ev ?_)
 rw [←y]at hf hx S kk
 exact abe (g:=g.st nid c F) Z.cJ.st I2 ha cm hc hf hx j S λs3 I3 G3=>kk s3 ⟨H.bN,F,P2,a2.cv (G3 _),I3,h.G.kC H.bN Z.qt (G1.bD (G2.bD (G3 _))).eP⟩
theorem eX.Hj(Z:qc g n A env L J l)(H:eX g C l nid c env J E B s){st:sB}{x:X}{m t:MX}{p:PV}{k j:X}{tab:W (X×X)}{cs I:W (X×PV)}(mA:fQ (.eH t x m) L st=M)
  (q:oR (ba c n) c M m E B λv v' o=>v=.aX p∧v'=E∧o=B) (no:jt E) (h2:(g.az++nid).length=j) (h3:c.length=j) (h4:B.length=j) (t1:aG I 1=O .bG) (t2:aG I 2=O p) (t3:∀(x:X) p',aG I (x+2)=O p'->lT p'=M)
  (qo:bB (ba (c++[I]) n) (c++[I]) t E (B++[[(0,0)]]) λv v' o=>v=.ah k∧v'=E∧o=B++[[(0,0)]]) (f:Oz (c++[I]) (B++[[(0,0)]]) k x (.ah j) w tab cs) (kk:∀D s',eX g C l (nid++[(D,D)]) w env J E (B++[[(0,0)]]) s'->R .next s'):ca (cr pw g.w) A (pM st env) R a9 s:=by
 refine H.ex.elim λF h=>h.elim λP h=>l_ (HB mA) λo a p' e pos es ha AK ho he=>eR es (FK (ss ((sv (g:=g.st nid c F) (H:=M) Z.cJ.st (Z.oF _) Z.kj he).go Z.i6 Z.jP h.a h.I q) (λv s1 hv=>rF hv λsl bu ob1 P1 q1 r I1 G1=>?_) λY Y f=>f) (EF ..))
 rw [q1.2.1,q1.1]at r
 rw [q1.2.2]at I1
 refine dk r λD ev U O1=>?_
 have U:=U.fN (C:=J) λb h=>.inl h
 have S:∀q∈nid++[(D,D)],l.heap.get? q.2=am:=λq hq=>(pI.mp hq).elim (H.bN q) λh=>(IR.mp h)▸(BF λq=>O1.nb (Z.qt D q))
 have T:=ad2 (g:=g.st nid c F) (A:=I) U I1 O1 no (λx e=>(U.cj x D e).2.2.elim λv hv=>O1.eY.tb hv) h2 h3 h4 t1 t2 t3
 rw [show(g.st nid c F).gc (D,D) I=g.st (nid++[(D,D)]) (c++[I]) F by unfold Gh.gc Gh.st;rw [qU]]at T
 refine EP.bJ (g:=g.st (nid++[(D,D)]) (c++[I]) F) ((Z.kj t L o ho).1.go Z.i6 Z.jP T.a T.I qo) λov s3 r3 mC iI P3 q3 a3 I3 x3 G3=>?_
 rw [q3.2.1]at a3
 rw [q3.2.2]at I3
 rw [q3.1]at x3
 refine eD x3.I λb d eb cm=>eR eb (eR ev ?_)
 rw [←f.eq]at kk
 rw [←AK]at f kk
 refine NW (g:=g.st (nid++[(D,D)]) (c++[I]) F) Z.cJ.st I3 ha cm f.QV f.jj f.ne f.eY f.bN f.iE f.Rb (T.r.bU G3.le) λs4 I4 G4=>kk D s4 ⟨S,λi y=>if i=k∧y=aW a then O (.ref D)else F i y,P3,?_,?_,(h.G.kC H.bN Z.qt G1.eP).kC S Z.qt (G3.bD (G4 _)).eP⟩
 ·exact B8 (x:=aW a) f.eY▸(a3.cv (G4 _)).ic (g:=g.st (nid++[(D,D)]) (c++[I]) F) (k:=k) (x:=aW a) (p:=.ah j) (v:=.ref D)
 ·exact B8 (x:=aW a) f.eY▸I4
theorem eX.zC(H:eX g C l (nid++[(D,D)]) c env J E (B++[S]) s)(Y:jt E)(d:(g.az++nid).length=k)(f:B.length=k)(U:aY c k=O m)(r:dv c k=M)(t:aG S 0=O i)(hp:aG m (i.toNat+2)=O p)
  (c1:∀j,j<k->dv w j=dv c j) (c2:∀j,j<k->dv c j=M->aY w j=aY c j) (c3:∀j y q,dF w j y=O q->(dF c j y=O q∧ly k q=M)∨(dF c j y=O (.ah k)∧q=p))
  (hv:∀x q,aG E x=O (.ax q)->ly k q=M):eX g C l nid w env J E B s:=
 H.ex.elim λF h=>h.elim λP h=>by
  have a:=h.a
  have I:=h.I
  rw [show g.st (nid++[(D,D)]) c F={g.st nid w F with az:=(g.st nid w F).az++[(D,D)],Φ:=c} by unfold Gh.st;rw [qU]]at a I
  exact (Internal.zC (g:=g.st nid w F) a I Y d f U r t hp c1 c2 c3 hv).elim λP' Z=>⟨λq hq=>H.bN q (List.mem_append_left _ hq),F,P',Z.a,Z.I,h.G.le.bD Z.le,h.G.cH,h.G.bR,λb o e=>(Z.bN b o e).elim (h.G.bN b o) λh=>.inr λq=>q (h▸H.bN (D,D) (List.mem_append_right _ (IR.mpr N)))⟩
end
end
section
open PySem.Builtin PySem.Builtin.ObjectAttr
section
variable{g:Gh}{n:X}
theorem aS.vf{P:PM}{E:ai}{s:ce}{k:X}{C:W (X×X)}{x d:be}{D:li}{H:X}(I:aS g P E s)(L:oj k=O C)(R:g.az.length=k)(F:g.Φ.length=k)(S:E.length=k)(U:∀b o,s.heap.get? b=O o->D.get? b=O o)
  (Z:D.get? x=O (uG (gT k) d)) (a:D.get? d=O wt) (c:s.heap.get? x=am) (h:s.heap.get? d=am) (j:d≠x):aS (g.st [(x,d)] (g.Φ++[[]]) g.F) (P.cS x (uG (gT k) d)) (E++[[]]) {s with heap:=D,toks:=H}:=by
 have A:dv (g.gc (x,d) []).Φ k=bn:=by unfold dv;rw [G8 F];rfl
 have B:∀y,dF (g.gc (x,d) []).Φ k y=am:=λy=>by unfold dF;rw [A,G8 F];rfl
 have J:=I.iJ h
 refine (I.g8 (bq.cS (t:=H) I.ag U Z c)).gc R F S ((PM.lP j).trans J.1) J.2 ?_ B
 exact .ie C _ (λY=>am) A L (PM.ir ..) N N N ⟨_,#[],_,a,N,λe l=>nw l (Array.not_mem_empty _),(by unfold UniqKeys;exact .nil),λY=>N⟩ (λy p e=>aH ((B y).symm.trans e)) (λy i e=>aH e) (λy f Y=>N) λy m=>nw N m
theorem OA(B:cI g)(hC:∀nid Φ F,j' (g.st nid Φ F) n)(So:∀i,iY g.w i){A:pc}{P:PM}{l:ai}{s:ce}{k:X}{m:W (X×X)}{J:be}{fd:Bk}{w:sB}{L:W f8}{C:W bm}{us:W PV}{vs:av}{Q:bm->ce->Prop}{E:bm->ce->Prop}
  (R:eW A (n+2)) (I:aS g P l s) (hk:oj k=O m) (h1:g.az.length=k) (h2:g.Φ.length=k) (h3:l.length=k) (hm:BM (K g.w.params) (gT k)=M) (hi:Wp (K g.w.params) (.ref (gT k)) "__init__" =O (O (.ref J))) (y:typeIn (K g.w.params) (.ref J)=O (.type "function"))
  (D:z8 (K g.w.params) J fd w L) (r:bH g.w g.az P C us) (hz:tB (L.map aW) (.ah k::us)=O vs)
  (h:∀A' env Z x d H,qc g n A' env (cR w) Z s->eX g P s [(x,d)] (g.Φ++[[]]) env Z vs (l++[[]]) H->
   ca (cr pw g.w) A' (uy (lR w) env) (λf s'=>f=.next∧Q (.ref x) s') a9 H):ca (cr pw g.w) A (po (.ref (gT k)) C) Q E s:=by
 have a:=I.oU B
 refine yJ (make_core (makes_of a hm) (looks_findIn a hi) (λself=>bind_fn a self y) (.inl N) ?_)
 have w1:(Code.builtin "type.__call__" ⟨.ref (gT k)::C,[]⟩).weight=1:=by kernel_rfl
 have w2:(Code.builtin "type.__call__" ⟨.ref (gT k)::C,[]⟩).cUnits=1:=by kernel_rfl
 have u1:(A.under (.builtin "type.__call__" ⟨.ref (gT k)::C,[]⟩)).handled=A.handled:=N
 have u2:(A.under (.builtin "type.__call__" ⟨.ref (gT k)::C,[]⟩)).depth≤A.depth+1:=qI (nY w1) _
 have u3:(A.under (.builtin "type.__call__" ⟨.ref (gT k)::C,[]⟩)).units=A.units+1:=lc (A.units+·) w2
 generalize A.under (.builtin "type.__call__" ⟨.ref (gT k)::C,[]⟩)=A1 at u1 u2 u3⊢
 refine (?_:mK _ _ _ _ {s with heap:=(s.heap.push wt).push (uG (gT k) s.heap.objs.size),toks:=s.toks})
 have S:∀b o,s.heap.get? b=O o->((s.heap.push wt).push (uG (gT k) s.heap.objs.size)).get? b=O o:=λb o e=>tz _ (tz _ e)
 have c:((s.heap.push wt).push (uG (gT k) s.heap.objs.size)).get? (s.heap.objs.size+1)=O (uG (gT k) s.heap.objs.size):=by heap_get
 have hd:((s.heap.push wt).push (uG (gT k) s.heap.objs.size)).get? s.heap.objs.size=O wt:=by heap_get
 revert S c hd
 generalize (s.heap.push wt).push (uG (gT k) s.heap.objs.size)=Jj
 intro S c hd
 have nx:s.heap.get? (s.heap.objs.size+1)=am:=BV (Fe _)
 have nd:s.heap.get? s.heap.objs.size=am:=kJ _
 have XX:=bq.cS (t:=s.toks) I.ag S c nx
 have U:∀b,s.heap.get? b≠am->Jj.get? b≠am:=λb Z q=>Z (nV S q)
 refine Hy (g:=g.st [(s.heap.objs.size+1,s.heap.objs.size)] (g.Φ++[[]]) g.F) B.st (by have:=R.2;exact L4 0x17782ec2186b240bf38 N u2 this.1) (I.vf (H:=s.toks) hk h1 h2 h3 S c hd nx nd (PP (uz _))) D (.bg (.ah (d:=s.heap.objs.size) (h1▸t5)) (r.up (λj q e=>q0 e) XX.le)) hz λenv H F Pv ac I3 X3=>?_
 refine ss (h (A1.deeper env) env _ _ _ H ⟨B,F,Pv,(bt (u1.trans R.1) ?_ ?_),U,hC,So⟩ ⟨λq hq=>IR.mp hq▸nd,g.F,_,ac,I3,XX.ew.bD ((X3.ew (g:=g)).cJ U)⟩) (λf s' hf=>hf.1▸⟨N,hf.2⟩) λY Y f=>f
 ·have:=R.2;refine (?_:A1.depth+1+n<_);exact L4 0x1761d05f82ec2186b240bf38 N u2 this.1
 ·have:=R.2;refine (?_:A1.units+3+3*n+12<_);exact L4 0x17611c1e116a218e0bb08e0f08830d47260bf38 N u3 this.2
end
end
@[reducible]noncomputable def T(x:f8):PV:=.ae (.aA (aW x))
@[reducible]noncomputable def Rw:=W (W al)
@[reducible]noncomputable def fR(l:Rw):PV:=.aj (dE l)
inductive gE|cS|qd|jM
inductive lX|fL|no|l7|ak
inductive i_|jx|fL|no|l7|ak
inductive oH|xD|or|iC|mm
inductive l8|lt|le|eq
noncomputable def gE.uS:gE->PV
 |.cS=>T "union" |.qd=>T "meet" |.jM=>T "minus"
noncomputable def lX.pv:lX->PV
 |.fL=>T "some" |.no=>T "no" |.l7=>T "lone" |.ak=>T "one"
noncomputable def l8.uS:l8->PV
 |.lt=>T "lt" |.le=>T "le" |.eq=>T "eq"
noncomputable def ad3(A:gE)(a b:Rw):Rw:=match A with
 |.cS=>fb (e_ (a++b) [])
 |.qd=>a.filter λr=>ci (r∈b)
 |.jM=>a.filter λr=>!ci (r∈b)
noncomputable def bS(k:lX)(n:X):an:=match k with
 |.fL=>ci (0<n)
 |.no=>ci (n=0)
 |.l7=>ci (n<2)
 |.ak=>ci (n=1)
theorem sb{B:PV->W PV->ai->(W PV->ai->Prop)->Prop}{D:Type}{f:D->PV}{g:D->W PV}:∀{l:W D} {A:W PV} {Q:W PV->ai->Prop},(∀a∈l,∀A R,R (A++g a) C->B (f a) A C R)->Q (A++l.flatMap g) C->iq B (l.map f) A C Q:=λ{l}=>no_implicit_lambda% (cB l (@λA Q Y h=>by
  have h:Q (A++[]) C:=h
  rw [SZ]at h
  exact h) λa l F {A} {Q} E h=>by
  refine (?_:B (f a) A C λA C=>iq B (l.map f) A C Q)
  refine E a (wf ..) A _ (F (λb H=>E b (wv _ H)) ?_)
  simpa [qU] using h)
theorem iW{A:PV->W PV->ai->(W PV->ai->Prop)->Prop}{C:Type}{f:C->PV}(g:C->W PV){l:W C}{Q:W PV->ai->Prop}(E:∀a∈l,∀B R,R (B++g a) D->A (f a) B D R)(h:Q (l.flatMap g) D):iq A (l.map f) [] D Q:=
 sb E (by simpa using h)
@[reducible]noncomputable def rv(r:W al):PV:=.af (r.map .ab)
theorem pB(l:Rw):dE l=l.map rv:=N
theorem LN:∀(r:W al),jF (r.map .ab)=O (r.map .ab):=λr=>cB r N λa r A=>by
  refine (?_:(jF (r.map PV.ab)).map (ia.ab a::·)=_)
  rw [A];rfl
theorem NX:∀{r t:W al},r.map ia.ab=t.map ia.ab->r=t
 |[],[],_=>N
 |[],_::_,h=>by cases h
 |_::_,[],h=>by cases h
 |a::r,b::t,h=>by
  obtain ⟨A,B⟩:=Fv h
  exact eR (ia.ab.inj A) (eR (NX B) N)
theorem OB(r t:W al):md (rv r) (rv t)=O (ci (r=t)):=by
 refine (?_:o2 (jF (r.map PV.ab)) (jF (t.map PV.ab)) (λu v=>ci (u=v))=_)
 refine eR (LN ..) (eR (LN ..) ?_)
 unfold o2
 dsimp only
 congr 1
 by_cases h:r=t
 ·subst h;simp
 ·exact eR (EQ h) (eR (EQ (λq=>h (NX q))) N)
theorem abf(r:W al):∀(l:Rw),mf (rv r) (dE l)=O (ci (r∈l)):=λl=>cB l N λt l A=>by
  refine (?_:o2 (md (rv t) (rv r)) (mf (rv r) (dE l)) (λp q=>p||q)=_)
  refine eR (OB ..) (eR (A ..) ?_)
  unfold o2
  dsimp only
  by_cases h:t=r
  ·subst h;simp
  ·have B:¬r=t:=λq=>h q.symm
   simp [h,B]
theorem Ky{A:Type}(p:A->an)(f:A->PV):∀(l:W A),(l.flatMap λa=>bif p a then [f a]else [])=(l.filter p).map f:=λl=>cB l N λa l B=>by
  refine eR pP (eR sR (eR (B) ?_))
  cases p a<;>simp
theorem Ek(r:W al)(b:Rw):p_ .In (rv r) (fR b)=O (ci (r∈b)):=abf r b
theorem We{D:bA}{n:X}{C:ai}{Q:PV->ai->Prop}{a b:Rw}(E:a.length≤100)(h:Q (fR (a.filter λr=>ci (r∈b)==M)) C):
  aR D (n+1) 628 [T "&",fR a,fR b] C Q:=by
 refine iW (f:=rv) (λr=>bif(ci (r∈b)==M)then [rv r]else []) (λr F A R B=>?_) ?_
 ·conv=>whnf
  refine eR (Ek ..) ?_
  revert B
  generalize ci (r∈b)=c
  intro B
  cases c
  ·conv=>whnf
   first|exact ⟨(λh=>nomatch h),B⟩|exact (SZ A▸(show R (A++[]) C from B))
  ·conv=>whnf
   first|exact ⟨(λh=>nomatch h),B⟩|exact (List.append_nil A▸(show R (A++[]) C from B))
 ·refine eR (Ky ..) ⟨?_,h⟩
  exact eR (sw ..) (io (pQ ..) (io E (by decide)))
theorem Vh{D:bA}{n:X}{C:ai}{Q:PV->ai->Prop}{a b:Rw}(E:a.length≤100)(h:Q (fR (a.filter λr=>ci (r∈b)==bn)) C):
  aR D (n+1) 628 [T "-",fR a,fR b] C Q:=by
 refine iW (f:=rv) (λr=>bif(ci (r∈b)==bn)then [rv r]else []) (λr F A R B=>?_) ?_
 ·conv=>whnf
  refine eR (Ek ..) ?_
  revert B
  generalize ci (r∈b)=c
  intro B
  cases c
  ·conv=>whnf
   first|exact ⟨(λh=>nomatch h),B⟩|exact (List.append_nil A▸(show R (A++[]) C from B))
  ·conv=>whnf
   first|exact ⟨(λh=>nomatch h),B⟩|exact (SZ A▸(show R (A++[]) C from B))
 ·refine eR (Ky ..) ⟨?_,h⟩
  exact eR (sw ..) (io (pQ ..) (io E (by decide)))
theorem Lb:∀(r:W al),js (r.map .ab)=O r:=λr=>cB r N λa r A=>by
  refine (?_:(js (r.map PV.ab)).map (a::·)=_)
  rw [A];rfl
theorem Un:∀(l:Rw),j0 (dE l)=O l:=λl=>cB l N λr l A=>by
  refine (?_:o2 (zv (rv r)) (j0 (dE l)) (λa b=>a::b)=_)
  exact eR (A) (eR (show zv (rv r)=O r from Lb r) N)
theorem A2(B:i5 l=M):pR (fR l)=O (fR (fb (e_ l []))):=by
 refine (?_:(j0 (dE l)).bind (λA=>gd (i5 A) (O (PV.aj (dE (fb (e_ A []))))))=_)
 refine eR (Un ..) (?_:gd (i5 l) _=_)
 exact eR (B ..) N
theorem abg(h:a.length+b.length≤4096):ko .Add (fR a) (fR b)=O (fR (a++b)):=by
 refine (?_:gd (u8 ((dE a).length+(dE b).length) 4096) (O (PV.aj (dE a++dE b)))=_)
 rw [pB,pB,sw,sw,qY h,←uk];rfl
noncomputable def U1(l:Rw):Prop:=l.length≤60∧∀r∈l,∃a,r=[a]∧pT a=M
theorem U1.i5(h:U1 l):i5 l=M:=by
 unfold Internal.i5
 refine eR (qY h.1 ..) (eR (Nn ..) (eR (aag ..) ?_))
 left
 rw [Do]
 intro r A
 obtain ⟨a,rfl,B⟩:=h.2 r A
 exact B
theorem U1.bO(h:U1 (a++b)):a.length+b.length≤60:=by have:=h.1;rwa [xz]at this
theorem Xw(A:U1 (a++b))(h:Q (fR (fb (e_ (a++b) []))) B):
  aR C (n+1) 628 [T "+",fR a,fR b] B Q:=by
 conv=>(whnf;try dsimp only)
 refine eR (abg (io A.bO (by decide))) ?_
 conv=>(whnf;try dsimp only)
 exact eR (A2 A.i5) h
noncomputable def gE.jw:gE->PV
 |.cS=>T "+" |.qd=>T "&" |.jM=>T "-"
theorem abh(A:gE)(B:U1 (a++b))(h:Q (fR (ad3 A a b)) D):aR E (n+1) 628 [A.jw,fR a,fR b] D Q:=by
 have C:a.length≤100:=by have:=B.bO;exact L2 0x8dc106ea0738 N this
 cases A with
 |cS=>exact Xw B h
 |qd=>
  refine We C ?_
  have e:(λr=>ci (r∈b)==M)=λr=>ci (r∈b):=by funext r;simp
  rw [e];exact h
 |jM=>
  refine Vh C ?_
  have e:(λr=>ci (r∈b)==bn)=λr=>!ci (r∈b):=by funext r;simp
  rw [e];exact h
theorem B9{A:bA}{n k:X}{b:al}{Q:PV->ai->Prop}(m:lX)(h:Q (.aJ (bS m k)) B):aR A (n+1) 635 [m.pv,.ab k,.ab b] B Q:=by
 cases m<;>
 ·conv=>(whnf;try dsimp only)
  first
   |(have e:ci ((0:al)<(k:al))=ci (0<k):=(by simp);rw [show bS .fL k=ci (0<k) from N,←e]at h;exact h)
   |(have e:ci ((k:al)=0)=ci (k=0):=(by simp);rw [show bS .no k=ci (k=0) from N,←e]at h;exact h)
   |(have e:ci ((k:al)<2)=ci (k<2):=lM.mpr (pD (m:=2));rw [show bS .l7 k=ci (k<2) from N,←e]at h;exact h)
   |(have e:ci ((k:al)=1)=ci (k=1):=lM.mpr (wu (n:=1));rw [show bS .ak k=ci (k=1) from N,←e]at h;exact h)
@[reducible]noncomputable def At:=W al
@[reducible]noncomputable def ak(a:al):W al:=[a]
@[reducible]noncomputable def uv(l:At):PV:=fR (l.map ak)
@[reducible]noncomputable def vj(p:al×al):W al:=[p.1,p.2]
@[reducible]noncomputable def oZ(l:W (al×al)):PV:=fR (l.map vj)
noncomputable def gv(l:At):At:=[0,1,2].filter λx=>ci (x∈l)
noncomputable def bw(l:At):Prop:=gv l=l
theorem bw.ee(h:bw l)(A:a∈l):a=0∨a=1∨a=2:=by
 rw [←h]at A
 simpa using((yP.mp A).1)
theorem bw.bO(h:bw l):l.length≤3:=eL h (pQ _ [0,1,2])
theorem NY(h:∀a∈l,a=0∨a=1∨a=2):a∈gv l↔a∈l:=by
 unfold gv
 rw [yP,yr]
 refine ⟨λh=>h.2,λA=>⟨?_,A⟩⟩
 rcases h a A with rfl|rfl|rfl<;>simp
theorem bw.gv(l:At):bw (gv l):=by
 unfold bw Internal.gv
 refine Np λx A=>?_
 by_cases h:x∈l
 ·rw [FB h,yr,yP]
  exact ⟨A,FB h⟩
 ·rw [EQ h,aah,yP]
  exact λq=>h (ut q.2)
theorem Vi(l:At):((gv l).map ak).Pairwise (λx y=>dZ x y=M):=by
 have h:(([0,1,2]:At).map ak).Pairwise (λx y=>dZ x y=M):=by decide
 exact h.sublist ((BN).map ak)
theorem bw.pX(h:bw l)(p:al->an):bw (l.filter p):=by
 unfold bw Internal.gv
 have e:([0,1,2]:At).filter (λx=>ci (x∈l.filter p))=([0,1,2]:At).filter λx=>p x&&ci (x∈l):=by
  refine Np λx Y=>?_
  by_cases A:x∈l<;>cases B:p x<;>simp [A,B]
 refine eR e (eL aai (?_:(Internal.gv l).filter p=_))
 exact eR h N
theorem Xx:∀{A q:W (W al)} {r:W al},r∈e_ A q↔r∈A∨r∈q:=λ{A}=>no_implicit_lambda% (cB A (@λq r=>⟨.inr,λh=>h.elim (λh=>nomatch h) id⟩) λa A C {q} {r}=>by
  by_cases B:a∈q
  ·rw [AW B,C,wl]
   constructor
   ·rintro (h|h)
    ·exact .inl (.inr h)
    ·exact .inr h
   ·rintro ((rfl|h)|h)
    ·exact .inr B
    ·exact .inl h
    ·exact .inr h
  ·rw [ye B,C,pI,IR,wl]
   constructor
   ·rintro (h|h|h)
    ·exact .inl (.inr h)
    ·exact .inr h
    ·exact .inl (.inl h)
   ·rintro ((h|h)|h)
    ·exact .inr (.inr h)
    ·exact .inl h
    ·exact .inr (.inl h))
theorem OC(h:ak a=ak b):a=b:=(Fv h).1
theorem Xy{l:W al}:l.Nodup->(l.map ak).Nodup:=λh=>by
 rw [List.nodup_iff_pairwise_ne]at*
 rw [Nq]
 exact h.imp λA e=>A (OC e)
theorem sZ{l:At}{a:al}:ak a∈l.map ak↔a∈l:=by
 rw [No]
 exact ⟨λ⟨b,A,e⟩=>OC e▸A,λh=>⟨a,h,N⟩⟩
theorem EG{l:At}(h:∀a∈l,a=0∨a=1∨a=2):fb (e_ (l.map ak) [])=(gv l).map ak:=by
 have C:(e_ (l.map ak) []).Nodup:=Ks sy
 refine AZ (yf C) (Vi l) ((vQ _).trans ?_)
 refine (List.perm_ext_iff_of_nodup C (Xy ?_)).mpr λr=>?_
 ·exact List.Nodup.sublist BN (by decide:([0,1,2]:List Int).Nodup)
 ·constructor
  ·intro A
   rcases LI A with A|A
   ·obtain ⟨a,B,rfl⟩:=No.mp A
    exact sZ.mpr ((NY h).mpr B)
   ·cases A
  ·intro A
   obtain ⟨a,B,rfl⟩:=No.mp A
   exact Xx.mpr (.inl (sZ.mpr ((NY h).mp B)))
noncomputable def rn(A:gE)(a b:At):At:=match A with
 |.cS=>gv (a++b)
 |.qd=>a.filter λr=>ci (r∈b)
 |.jM=>a.filter λr=>!ci (r∈b)
set_option genInjectivity false in
set_option genCtorIdx false in
mutual
inductive OE where
 |gG (b:an)
 |aa (p:PS)
 |bj (op:gE) (a b:OE)
 |tD (a:OE)
 |nj (x:PS) (dom:OE) (f:OF)
 |oh (c:OF) (a b:OE)
inductive OF where
 |jV (tJ:an) (a b:OF)
 |iC (a b:OF)
 |mm (a b:OF)
 |d3 (a:OF)
 |ja (a b:OE)
 |eJ (a b:OE)
 |jb (k:lX) (e:OE)
 |w7 (k:lX) (x y:PS) (dom:OE) (f:OF)
 |h_ (iH:an) (x:PS) (dom:OE) (f:OF)
 |iL (iH:an) (x y:PS) (dom:OE) (f:OF)
 |ao (s:l8) (i j:ON)
inductive ON where
 |iE (k:al)
 |kf (e:OE)
 |lg (i j:ON)
 |lh (x:PS) (dom:OE) (i:ON)
end
noncomputable def fj(x:PS)(d:PV):PV:=.af [.ae x,d]
mutual
noncomputable def OE.pv:OE->PV
 |.gG b=>.af [T "rel",.ab (bif b then 1 else 0)]
 |.aa p=>.af [T "var",.ae p]
 |.bj B a b=>.af [B.uS,a.pv,b.pv]
 |.tD a=>.af [T "join",a.pv,.af [T "rel",.ab 2]]
 |.nj x A f=>.af [T "comp",.af [fj x A.pv],f.pv]
 |.oh c a b=>.af [T "either",c.pv,a.pv,b.pv]
noncomputable def OF.pv:OF->PV
 |.jV C a b=>.af [bif C then T "and" else T "or",.af [a.pv,b.pv]]
 |.iC a b=>.af [T "implies",a.pv,b.pv]
 |.mm a b=>.af [T "iff",a.pv,b.pv]
 |.d3 a=>.af [T "not",a.pv]
 |.ja a b=>.af [T "in",a.pv,b.pv]
 |.eJ a b=>.af [T "same",a.pv,b.pv]
 |.jb k e=>.af [k.pv,e.pv]
 |.w7 k x y A f=>.af [k.pv,.af [T "comp",.af [fj x A.pv,fj y A.pv],f.pv]]
 |.h_ B x A f=>.af [bif B then T "all" else T "exists",.af [fj x A.pv],f.pv]
 |.iL B x y A f=>.af [bif B then T "all" else T "exists",.af [fj x A.pv,fj y A.pv],f.pv]
 |.ao s i j=>.af [s.uS,i.pv,j.pv]
noncomputable def ON.pv:ON->PV
 |.iE k=>.af [T "num",.ab k]
 |.kf e=>.af [T "count",e.pv]
 |.lg i j=>.af [T "plus",i.pv,j.pv]
 |.lh x A i=>.af [T "sum",.af [fj x A.pv],i.pv]
end
set_option genInjectivity false in
structure Wd where
 a:At
 b:At
 f:W (al×al)
noncomputable def Wd.pv(w:Wd):PV:=.aj [uv w.a,uv w.b,oZ w.f]
structure Wd.Ok(w:Wd):Prop where
 a:bw w.a
 b:bw w.b
 f:w.f.length≤9∧∀p∈w.f,p.2=0∨p.2=1∨p.2=2
@[reducible]noncomputable def bx:=W (PS×al)
noncomputable def bx.pv(r:bx):PV:=.a8 (r.map λp=>(p.1,rv (ak p.2)))
noncomputable def bb(l:bx)(x:PS)(v:al):bx:=lr [(x,v)] (λp r A=>bif ci (p.1=x)then(p.1,v)::r else p::A) l
noncomputable def fT(l:bx)(x:PS):im al:=lr am (λp _ A=>bif ci (p.1=x)then O p.2 else A) l
noncomputable def tp(f:W (al×al))(l:At):At:=gv (l.flatMap λx=>f.filterMap λp=>bif ci (x=p.1)then O p.2 else am)
noncomputable def Ic:(OE->(Wd->bx->At))×(OF->(Wd->bx->an))×(ON->(Wd->bx->al)):=
 (λR S U Y Z h l m n t A B C D E F H I J L P=>(@OE.rec (λ_=>(Wd->bx->At)) (λ_=>(Wd->bx->an)) (λ_=>(Wd->bx->al)) R S U Y Z h l m n t A B C D E F H I J L P,@OF.rec (λ_=>(Wd->bx->At)) (λ_=>(Wd->bx->an)) (λ_=>(Wd->bx->al)) R S U Y Z h l m n t A B C D E F H I J L P,@ON.rec (λ_=>(Wd->bx->At)) (λ_=>(Wd->bx->an)) (λ_=>(Wd->bx->al)) R S U Y Z h l m n t A B C D E F H I J L P))
  (λb w _=>bif b then w.b else w.a)
  (λp w r=>match fT r p with|some v=>[v]|none=>[])
  (λop _ _ a b w r=>rn op (a w r) (b w r))
  (λ_ a w r=>tp w.f (a w r))
  (λx _ _ d f w r=>gv ((d w r).filter λa=>f w (bb r x a)))
  (λ_ _ _ c a b w r=>bif c w r then a w r else b w r)
  (λo _ _ a b w r=>bif o then a w r&&b w r else a w r||b w r)
  (λ_ _ a b w r=>b w r||!a w r)
  (λ_ _ a b w r=>a w r==b w r)
  (λ_ a w r=>!a w r)
  (λ_ _ a b w r=>(a w r).all λx=>ci (x∈b w r))
  (λ_ _ a b w r=>ci (a w r=b w r))
  (λk _ e w r=>bS k (e w r).length)
  (λk x y _ _ d f w r=>bS k (((d w r).flatMap λa=>((d w (bb r x a)).filter λb=>f w (bb (bb r x a) y b)).map λb=>(a,b)).length))
  (λo x _ _ d f w r=>bif o then(d w r).all λa=>f w (bb r x a)else(d w r).any λa=>f w (bb r x a))
  (λo x y _ _ d f w r=>bif o then(d w r).all λa=>(d w (bb r x a)).all λb=>f w (bb (bb r x a) y b)else(d w r).any λa=>(d w (bb r x a)).any λb=>f w (bb (bb r x a) y b))
  (λs _ _ i j w r=>match s with|.lt=>ci (i w r<j w r)|.le=>ci (i w r≤j w r)|.eq=>ci (i w r=j w r))
  (λk w _=>k)
  (λ_ e w r=>(e w r).length)
  (λ_ _ i j w r=>i w r+j w r)
  (λx _ _ d i w r=>((d w r).map λa=>i w (bb r x a)).sum)
noncomputable def OE.aw(w:Wd)(e:OE):bx->At:=(Ic).1 e w
noncomputable def OF.aw(w:Wd)(e:OF):bx->an:=(Ic).2.1 e w
noncomputable def ON.aw(w:Wd)(e:ON):bx->al:=(Ic).2.2 e w
noncomputable def Ie:(OE->X)×(OF->X)×(ON->X):=
 (λR S U Y Z h l m n o A B C D E F H I J L P=>(@OE.rec (λ_=>X) (λ_=>X) (λ_=>X) R S U Y Z h l m n o A B C D E F H I J L P,@OF.rec (λ_=>X) (λ_=>X) (λ_=>X) R S U Y Z h l m n o A B C D E F H I J L P,@ON.rec (λ_=>X) (λ_=>X) (λ_=>X) R S U Y Z h l m n o A B C D E F H I J L P))
  (λ_=>1)
  (λ_=>1)
  (λ_ _ _ a b=>2+wT a b)
  (λ_ a=>3+a)
  (λ_ _ _ d f=>3+wT d f)
  (λ_ _ _ c a b=>2+wT c (wT a b))
  (λ_ _ _ a b=>1+wT a b)
  (λ_ _ a b=>1+wT a b)
  (λ_ _ a b=>1+wT a b)
  (λ_ a=>1+a)
  (λ_ _ a b=>2+wT a b)
  (λ_ _ a b=>2+wT a b)
  (λ_ _ e=>2+e)
  (λ_ _ _ _ _ d f=>5+wT d f)
  (λ_ _ _ _ d f=>3+wT d f)
  (λ_ _ _ _ _ d f=>3+wT d f)
  (λ_ _ _ i j=>1+wT i j)
  (λ_=>1)
  (λ_ e=>1+e)
  (λ_ _ i j=>1+wT i j)
  (λ_ _ _ d i=>3+wT d i)
noncomputable def OE.h:OE->X:=(Ie).1
noncomputable def OF.h:OF->X:=(Ie).2.1
noncomputable def ON.h:ON->X:=(Ie).2.2
mutual
theorem OE.ok(A:w.Ok):∀(e:OE) (r:bx),(∀x v,fT r x=O v->v=0∨v=1∨v=2)->bw (e.aw w r)
 |.gG b,r,_=>by cases b;exact A.a;exact A.b
 |.aa p,r,h=>by
  refine (?_:bw (match fT r p with|some v=>[v]|none=>[]))
  cases e:fT r p with
  |some v=>rcases h p v e with rfl|rfl|rfl<;>(unfold bw;decide)
  |none=>unfold bw;decide
 |.bj B a b,r,h=>by
  cases B with
  |cS=>exact bw.gv _
  |qd=>exact (OE.ok A a r h).pX _
  |jM=>exact (OE.ok A a r h).pX _
 |.tD a,r,h=>bw.gv _
 |.nj x C f,r,h=>bw.gv _
 |.oh c a b,r,h=>by
  refine (?_:bw (bif c.aw w r then a.aw w r else b.aw w r))
  cases c.aw w r
  ·exact OE.ok A b r h
  ·exact OE.ok A a r h
end
theorem bw.U1(C:bw a)(E:bw b):U1 (a.map ak++b.map ak):=by
 have F:=E.bO
 refine ⟨eR (xz ..) (eR (sw ..) (eR (sw ..) (L2 0x41ba81ce091c9238 N C.bO F))),λr A=>?_⟩
 have B:∀{l:At},bw l->r∈l.map ak->∃a,r=[a]∧pT a=M:=λ{l} H A=>by
  refine aQ (No.mp A) λa C D=>?_
  subst D
  refine ⟨a,N,?_⟩
  rcases H.ee C with rfl|rfl|rfl<;>decide
 rcases pI.mp A with A|A
 ·exact B C A
 ·exact B E A
theorem Lc(p:al->an)(q:W al->an)(h:∀a,q (ak a)=p a):∀(l:At),(l.map ak).filter q=(l.filter p).map ak:=λl=>cB l N λa l A=>by
  refine eR (UV ..) (eR (sR ..) (eR (sR ..) (eR (h ..) (eR (A ..) ?_))))
  cases p a<;>rfl
theorem NZ(B:gE)(D:bw a)(E:bw b)(h:Q (uv (rn B a b)) C):aR F (n+1) 628 [B.jw,uv a,uv b] C Q:=by
 refine abh B (D.U1 E) ?_
 cases B with
 |cS=>
  have e:fb (e_ (a.map ak++b.map ak) [])=(gv (a++b)).map ak:=by
   refine eL uk (EG λx A=>?_)
   rcases pI.mp A with A|A
   ·exact D.ee A
   ·exact E.ee A
  refine (?_:Q (fR (fb (e_ (a.map ak++b.map ak) []))) C)
  rw [e];exact h
 |qd=>
  refine (?_:Q (fR ((a.map ak).filter λr=>ci (r∈b.map ak))) C)
  rw [Lc (λx=>ci (x∈b)) _ (λx=>by
   by_cases A:x∈b
   ·rw [FB A,FB (sZ.mpr A)]
   ·rw [EQ A,EQ λq=>A (sZ.mp q)])]
  exact h
 |jM=>
  refine (?_:Q (fR ((a.map ak).filter λr=>!ci (r∈b.map ak))) C)
  rw [Lc (λx=>!ci (x∈b)) _ (λx=>by
   by_cases A:x∈b
   ·rw [FB A,FB (sZ.mpr A)]
   ·rw [EQ A,EQ λq=>A (sZ.mp q)])]
  exact h
theorem k_(l:At):uv l=.aj (l.map λa=>rv (ak a)):=by
 refine (?_:PV.aj ((l.map ak).map rv)=_)
 rw [mL];rfl
theorem O9(l:W (al×al)):oZ l=.aj (l.map λp=>rv (vj p)):=by
 refine (?_:PV.aj ((l.map vj).map rv)=_)
 rw [mL];rfl
theorem Kz{A B:Type}{k:X}{g:A->W B}:∀(l:W A),(∀a,(g a).length≤k)->(l.flatMap g).length≤l.length*k:=λl=>cB l (λY=>by simp) λa l C h=>eR (pP ..) (eR (xz ..) (eR (Da ..) (eR (yG ..) (io (yl (h a) (C h)) (nY (Nat.add_comm ..))))))
theorem LO{n:X}{Q:PV->ai->Prop}{f:W (al×al)}(S:bw l)(F:f.length≤9∧∀p∈f,p.2=0∨p.2=1∨p.2=2)(h:Q (uv (tp f l)) I):aR y (n+1) 623 [uv l,oZ f] I Q:=by
 refine eR (k_ ..) (eR (O9 ..) (iW (f:=λa=>rv (ak a)) (λa=>(f.filterMap λp=>bif ci (a=p.1)then O p.2 else am).map λb=>rv (ak b)) (λa J C R D=>?_) ?_))
 ·refine sb (f:=λp=>rv (vj p)) (g:=λp=>bif ci (a=p.1)then [rv (ak p.2)]else []) (λp P C R D=>?_) ?_
  ·conv=>(whnf;try dsimp only)
   revert D
   generalize ci (a=p.1)=c
   intro D
   cases c
   ·exact (SZ C▸(show R (C++[]) I from D))
   ·exact ⟨(λh=>nomatch h),D⟩
  ·have e:(f.flatMap λp=>bif ci (a=p.1)then [rv (ak p.2)]else [])=(f.filterMap λp=>bif ci (a=p.1)then O p.2 else am).map λb=>rv (ak b):=by
    clear D F h
    induction f with
    |nil=>rfl
    |cons p f U=>
     refine eR (pP ..) (eR (BH ..) (eR (U ..) ?_))
     cases ci (a=p.1)<;>rfl
   exact eR (e ..) D
 ·have e:(l.flatMap λa=>(f.filterMap λp=>bif ci (a=p.1)then O p.2 else am).map λb=>rv (ak b))=(l.flatMap λa=>f.filterMap λp=>bif ci (a=p.1)then O p.2 else am).map λb=>rv (ak b):=eR (FU ..) N
  refine eR (e ..) ?_
  generalize H:(l.flatMap λa=>f.filterMap λp=>bif ci (a=p.1)then O p.2 else am)=L
  have A:∀b∈L,b=0∨b=1∨b=2:=λb E=>by
   rw [←H,FV]at E
   obtain ⟨a,_,E⟩:=E
   exact aQ (Zy.mp E) λp P e=>bE (z:=bif ci (a=p.1)then O p.2 else am) (i:=λz=>z=O b->_) N (λY e=>ii e▸F.2 p P) (λY e=>nomatch e) e
  have B:L.length≤27:=eL (H ..) (io (Kz (k:=9) _ λa=>io (ZC ..) F.1) (afO S.bO))
  refine ⟨eR (sw ..) (io B (by decide)),?_⟩
  have Z:U1 (L.map ak):=⟨eR (sw ..) (L1 0x83753041d618 N B),λr j=>by
   obtain ⟨a,J,rfl⟩:=No.mp j
   refine ⟨a,N,?_⟩
   rcases A a J with rfl|rfl|rfl<;>decide⟩
  have o:PV.aj (L.map λb=>rv (ak b))=fR (L.map ak):=by
   refine (?_:_=PV.aj ((L.map ak).map rv))
   rw [mL];rfl
  refine eR (o ..) ?_
  conv=>(whnf;try dsimp only)
  refine eR (A2 Z.i5 ..) (eR (EG A ..) ?_)
  conv=>(whnf;try dsimp only)
  exact eL (H ..) h
theorem t6:∀(r:bx) (x y:PS) (v:al),fT (bb r x v) y=if x=y then O v else fT r y:=λr=>gV r (λx y v=>by
  by_cases h:x=y
  ·exact (cT h).trans (jp h).symm
  ·exact (cF h).trans (f0 h).symm) λk u r B x y v=>by
  refine bE (z:=bb ((k,u)::r) x v) N (λA=>?_) λA=>?_
  ·have A:=ut A
   by_cases h:k=y
   ·exact (cT h).trans (jp (A.symm.trans h)).symm
   ·exact (cF h).trans ((f0 λe=>h (A.trans e)).trans (cF h)).symm
  ·by_cases h:k=y
   ·exact (cT h).trans ((f0 λe=>Nf A (h.trans e.symm)).trans (cT h)).symm
   ·exact (cF h).trans ((B x y v).trans (lc (λz=>if x=y then O v else z) (cF (x:=O u) (y:=fT r y) h).symm))
noncomputable def iM(r:bx):W PS:=r.map (·.1)
theorem EH:∀(r:bx) (x:PS) (v:al),iM (bb r x v)=if x∈iM r then iM r else iM r++[x]:=λr=>gV r (λx v=>(f0 (c:=x∈iM []) sI).symm) λk u r C x v=>by
  refine bE (z:=bb ((k,u)::r) x v) N (λA=>?_) λA=>?_
  ·exact (jp (c:=x∈iM ((k,u)::r)) (ut A▸wf ..)).symm
  ·have E:=C x v
   have A:=Nf A
   refine (?_:k::iM (bb r x v)=_)
   refine eR E ?_
   have D:¬x=k:=λq=>A q.symm
   refine (?_:(k::if x∈iM r then iM r else iM r++[x])=if x∈k::iM r then k::iM r else(k::iM r)++[x])
   by_cases B:x∈iM r
   ·rw [jp B,jp (wv _ B)]
   ·rw [f0 B,f0 (by rw [wl,wj];exact ⟨D,B⟩)];rfl
structure iN(r:bx):Prop where
 mX:(iM r).Nodup
 ax:∀x v,fT r x=O v->v=0∨v=1∨v=2
 c_:r.length≤1000
theorem iN.aK(h:iN r)(C:v=0∨v=1∨v=2)(A:r.length≤999):iN (bb r x v):=by
 refine ⟨?_,λy u e=>?_,?_⟩
 ·refine eR (EH ..) ?_
  split
  ·exact h.mX
  ·rename_i D
   refine yv.mpr ⟨h.mX,by simp,?_⟩
   intro a E b B e
   rw [IR]at B
   subst B;subst e
   exact D E
 ·rw [t6]at e
  split at e
  ·cases e;exact C
  ·exact h.ax y u e
 ·have e:(bb r x v).length=(iM (bb r x v)).length:=(sw ..).symm
  refine eR (e ..) (eR (EH ..) ?_)
  split
  ·exact eR (sw ..) (L1 0x20dc370dcfc10771def8 N A)
  ·exact eR (xz ..) (eR (i:=λz=>z+1≤1000) (sw ..) (v7 A))
theorem abi:∀(r:bx) (x:PS),gk (r.map λp=>(p.1,rv (ak p.2))) x=(fT r x).map λa=>rv (ak a):=λr=>gV r (λY=>N) λk u r A x=>by
  by_cases h:k=x
  ·exact (cT h).trans (lc (Option.map λa=>rv (ak a)) (cT (x:=O u) (y:=fT r x) h)).symm
  ·exact (cF h).trans ((A x).trans (lc (Option.map λa=>rv (ak a)) (cF (x:=O u) (y:=fT r x) h)).symm)
theorem acV:∀(r:bx) (x:PS) (a:al),fE (r.map λp=>(p.1,rv (ak p.2))) x (rv (ak a))=(bb r x a).map λp=>(p.1,rv (ak p.2)):=λr=>gV r (λY Y=>N) λk u r A x a=>by
  by_cases h:k=x
  ·exact (cT h).trans (lc (mM λp:PS×al=>(p.1,rv (ak p.2))) (cT (x:=(k,a)::r) (y:=(k,u)::bb r x a) h)).symm
  ·exact (cF h).trans ((lc (List.cons (k,rv (ak u))) (A x a)).trans (lc (mM λp:PS×al=>(p.1,rv (ak p.2))) (cF (x:=(k,a)::r) (y:=(k,u)::bb r x a) h)).symm)
theorem Vj:∀(l:W (PS×PV)) (d:W (PS×PV)) (A:W PV),((d++l).map (·.1)).Nodup->jG ((l.map λp=>PV.af [.ae p.1,p.2])++A) d=jG A (d++l):=λl=>gV l (λd A Y=>by simp) λk v l C d A h=>by
  refine (?_:jG ((l.map λp=>PV.af [.ae p.1,p.2])++A) (fE d k v)=_)
  have B:k∉d.map (·.1):=by
   rw [uk,yv]at h
   exact λE=>h.2.2 k E k (by simp) N
  have e:∀(d:W (PS×PV)),k∉d.map (·.1)->fE d k v=d++[(k,v)]:=by
   intro d
   induction d with
   |nil=>intro _;rfl
   |cons a d F=>
    obtain ⟨D,u⟩:=a
    intro B
    rw [UV,wl,wj]at B
    have:¬D=k:=λq=>B.1 q.symm
    exact (cF this).trans (lc (List.cons (D,u)) (F B.2))
  refine eR (e d B) ?_
  have:=C (d++[(k,v)]) A (by simpa using h)
  simpa using this
@[reducible]noncomputable def gn(A:W al)(r:bx):PV:=.af [rv A,bx.pv r]
theorem sk{r:bx}(A:iN r)(x:PS)(a:al):ko .Add (.aj (mM (λp=>PV.af [PV.ae p.1,p.2]) (mM (λp=>(p.1,rv (ak p.2))) r))) (.aj [PV.af [PV.ae x,rv (ak a)]])=
  O (.aj ((mM (λp=>PV.af [PV.ae p.1,p.2]) (mM (λp=>(p.1,rv (ak p.2))) r))++[PV.af [PV.ae x,rv (ak a)]])):=by
 refine (?_:gd (u8 ((mM (λp=>PV.af [PV.ae p.1,p.2]) (mM (λp=>(p.1,rv (ak p.2))) r)).length+1) 4096) (_)=_)
 exact eR (qY (by rw [sw,sw];exact L1 0x8b0bf041b86e1b9f8 N A.c_)) N
theorem sf{r:bx}(A:iN r)(x:PS)(a:al):oQ q8 [.aj ((mM (λp=>PV.af [PV.ae p.1,p.2]) (mM (λp=>(p.1,rv (ak p.2))) r))++[PV.af [PV.ae x,rv (ak a)]])]=O (bx.pv (bb r x a)):=by
 refine (?_:(jG _ []).map PV.a8=_)
 refine eR (Vj _ [] _ (by simpa [iM,Function.comp_def] using A.mX)) (?_:(O (fE ([]++mM (λp=>(p.1,rv (ak p.2))) r) x (rv (ak a)))).map PV.a8=_)
 refine eR (qX ..) (eR (acV ..) ?_)
 rfl
theorem kI{A B:Type}(g:A->B):∀(l:W A),(l.flatMap λa=>[g a])=l.map g:=λl=>cB l N λa l C=>by rw [pP,C];rfl
theorem Gk(B:iN r)(C:bw D)(E:∀K:PV->ai->Prop,K (uv D) A->aR F n 667 [d,bx.pv r,w] A K)
  (h:Q (.aj (D.map λa=>gn (ak a) (bb r x a))) A):aR F (n+1) 662 [.af [fj x d],bx.pv r,w] A Q:=by
 refine λY=>E _ ?_
 refine eR (k_ ..) (sb (f:=λa=>rv (ak a)) (g:=λa=>[gn (ak a) (bb r x a)]) (λa J H R I=>?_) ?_)
 ·conv=>(whnf;try dsimp only)
  refine eR (sk B ..) ?_
  conv=>(whnf;try dsimp only)
  exact eR (sf B ..) ⟨(λh=>nomatch h),I⟩
 ·refine eR (kI ..) ⟨?_,?_⟩
  ·exact eR (qX ..) (eR (sw ..) (io C.bO (by decide)))
  ·exact h
theorem N0{I:bA}{n:X}{C:ai}{Q:PV->ai->Prop}{d w:PV}{x y:PS}{r:bx}{D:At}{A:al->At}(J:iN r)(Z:r.length≤998)(L:bw D)(P:∀a∈D,bw (A a))(j:∀K:PV->ai->Prop,K (uv D) C->aR I n 667 [d,bx.pv r,w] C K)
  (S:∀a∈D,∀K:PV->ai->Prop,K (uv (A a)) C->aR I n 667 [d,bx.pv (bb r x a),w] C K)
  (h:Q (.aj (D.flatMap λa=>(A a).map λb=>gn [a,b] (bb (bb r x a) y b))) C):aR I (n+1) 662 [.af [fj x d,fj y d],bx.pv r,w] C Q:=by
 refine λY=>j _ ?_
 refine eR (k_ ..) (sb (f:=λa=>rv (ak a)) (g:=λa=>[gn (ak a) (bb r x a)]) (λa B E R F=>?_) ?_)
 ·conv=>(whnf;try dsimp only)
  refine eR (sk J ..) ?_
  conv=>(whnf;try dsimp only)
  exact eR (sf J ..) ⟨(λh=>nomatch h),F⟩
 ·refine eR (kI ..) ⟨?_,?_⟩
  ·exact eR (qX ..) (eR (sw ..) (io L.bO (by decide)))
  ·refine iW (f:=λa=>gn (ak a) (bb r x a)) (λa=>(A a).map λb=>gn [a,b] (bb (bb r x a) y b)) (λa B E R F=>?_) ?_
   ·refine λY=>S a B _ ?_
    rw [k_]
    conv=>(whnf;try dsimp only)
    have H:iN (bb r x a):=J.aK (L.ee B) (L1 0x83b8ef7c10761def8 N Z)
    refine sb (f:=λb=>rv (ak b)) (g:=λb=>[gn [a,b] (bb (bb r x a) y b)]) (λb o E R F=>?_) ?_
    ·conv=>(whnf;try dsimp only)
     refine eR (sk H ..) ?_
     conv=>(whnf;try dsimp only)
     exact eR (sf H ..) ⟨(λh=>nomatch h),F⟩
    ·exact eR (kI ..) F
   ·refine ⟨?_,?_⟩
    ·have U:=Kz (k:=3) (g:=λa=>if a∈D then(A a).map λb=>gn [a,b] (bb (bb r x a) y b)else []) D λa=>by
      split
      ·rename_i B
       exact eR (sw ..) ((P a B).bO)
      ·exact Gc _
     have e:(D.flatMap λa=>if a∈D then(A a).map λb=>gn [a,b] (bb (bb r x a) y b)else [])=D.flatMap λa=>(A a).map λb=>gn [a,b] (bb (bb r x a) y b):=by
      simp only [List.flatMap]
      congr 1
      exact List.map_congr_left λa B=>jp B
     rw [e]at U
     refine io U (?_:D.length*3≤4096)
     exact afP L.bO
    ·exact h
noncomputable def Ig:(OE->(PS->Prop)->Prop)×(OF->(PS->Prop)->Prop)×(ON->(PS->Prop)->Prop):=
 (λR S U Y Z h l m n o A B C D E F H I J L P=>(@OE.rec (λ_=>(PS->Prop)->Prop) (λ_=>(PS->Prop)->Prop) (λ_=>(PS->Prop)->Prop) R S U Y Z h l m n o A B C D E F H I J L P,@OF.rec (λ_=>(PS->Prop)->Prop) (λ_=>(PS->Prop)->Prop) (λ_=>(PS->Prop)->Prop) R S U Y Z h l m n o A B C D E F H I J L P,@ON.rec (λ_=>(PS->Prop)->Prop) (λ_=>(PS->Prop)->Prop) (λ_=>(PS->Prop)->Prop) R S U Y Z h l m n o A B C D E F H I J L P))
  (λ_ _=>WF)
  (λp s=>s p)
  (λ_ _ _ a b s=>a s∧b s)
  (λ_ a s=>a s)
  (λx _ _ d f s=>d s∧f λp=>p=x∨s p)
  (λ_ _ _ c a b s=>c s∧a s∧b s)
  (λ_ _ _ a b s=>a s∧b s)
  (λ_ _ a b s=>a s∧b s)
  (λ_ _ a b s=>a s∧b s)
  (λ_ a s=>a s)
  (λ_ _ a b s=>a s∧b s)
  (λ_ _ a b s=>a s∧b s)
  (λ_ _ e s=>e s)
  (λ_ x y _ _ d f s=>d s∧f λp=>p=y∨p=x∨s p)
  (λ_ x _ _ d f s=>d s∧f λp=>p=x∨s p)
  (λ_ x y _ _ d f s=>d s∧f λp=>p=y∨p=x∨s p)
  (λ_ _ _ i j s=>i s∧j s)
  (λ_ _=>WF)
  (λ_ e s=>e s)
  (λ_ _ i j s=>i s∧j s)
  (λx _ _ d i s=>d s∧i λp=>p=x∨s p)
noncomputable def OE.sc:OE->(PS->Prop)->Prop:=(Ig).1
noncomputable def OF.sc:OF->(PS->Prop)->Prop:=(Ig).2.1
noncomputable def ON.sc:ON->(PS->Prop)->Prop:=(Ig).2.2
mutual
theorem OE.c8:∀{e:OE} {s t:PS->Prop},(∀p,s p->t p)->e.sc s->e.sc t
 |.gG _,_,_,_,_=>tt
 |.aa p,_,_,h,k=>h p k
 |.bj _ a b,_,_,h,k=>⟨OE.c8 h k.1,OE.c8 h k.2⟩
 |.tD a,_,_,h,k=>OE.c8 (e:=a) h k
 |.nj x A f,_,_,h,k=>⟨OE.c8 h k.1,OF.c8 (λp=>wx id (h p)) k.2⟩
 |.oh c a b,_,_,h,k=>⟨OF.c8 h k.1,OE.c8 h k.2.1,OE.c8 h k.2.2⟩
theorem OF.c8:∀{e:OF} {s t:PS->Prop},(∀p,s p->t p)->e.sc s->e.sc t
 |.jV _ a b,_,_,h,k=>⟨OF.c8 h k.1,OF.c8 h k.2⟩
 |.iC a b,_,_,h,k=>⟨OF.c8 h k.1,OF.c8 h k.2⟩
 |.mm a b,_,_,h,k=>⟨OF.c8 h k.1,OF.c8 h k.2⟩
 |.d3 a,_,_,h,k=>OF.c8 (e:=a) h k
 |.ja a b,_,_,h,k=>⟨OE.c8 h k.1,OE.c8 h k.2⟩
 |.eJ a b,_,_,h,k=>⟨OE.c8 h k.1,OE.c8 h k.2⟩
 |.jb _ e,_,_,h,k=>OE.c8 (e:=e) h k
 |.w7 _ x y A f,_,_,h,k=>⟨OE.c8 h k.1,OF.c8 (λp=>wx id (wx id (h p))) k.2⟩
 |.h_ _ x A f,_,_,h,k=>⟨OE.c8 h k.1,OF.c8 (λp=>wx id (h p)) k.2⟩
 |.iL _ x y A f,_,_,h,k=>⟨OE.c8 h k.1,OF.c8 (λp=>wx id (wx id (h p))) k.2⟩
 |.ao _ i j,_,_,h,k=>⟨ON.c8 h k.1,ON.c8 h k.2⟩
theorem ON.c8:∀{e:ON} {s t:PS->Prop},(∀p,s p->t p)->e.sc s->e.sc t
 |.iE _,_,_,_,_=>tt
 |.kf e,_,_,h,k=>OE.c8 (e:=e) h k
 |.lg i j,_,_,h,k=>⟨ON.c8 h k.1,ON.c8 h k.2⟩
 |.lh x A i,_,_,h,k=>⟨OE.c8 h k.1,ON.c8 (λp=>wx id (h p)) k.2⟩
end
noncomputable def Bd(r:bx)(p:PS):Prop:=∃v,fT r p=O v
theorem Bd.aK:∀p,p=x∨Bd r p->Bd (bb r x v) p:=λp h=>by
 unfold Bd
 refine eR (t6 ..) ?_
 split
 ·exact ⟨v,N⟩
 ·rename_i A
  rcases h with h|h
  ·exact nw h.symm A
  ·exact h
theorem qe(r:bx)(x:PS)(v:al):(bb r x v).length≤r.length+1:=by
 have e:∀(r:bx),r.length=(iM r).length:=λr=>by simp [iM]
 refine eR (e (bb r x v) ..) (eR (EH ..) (eR (e r ..) ?_))
 split
 ·exact L1 4243224 N
 ·simp
section
variable{j:bA}{w:Wd}{i:ai}
theorem abj(b:an)(h:Q (uv (bif b then w.b else w.a)) i):aR j (n+1) 667 [(OE.gG b).pv,bx.pv r,w.pv] i Q:=by
 cases b<;>(conv=>whnf)<;>exact h
theorem abk(e:fT r p=O v)(h:Q (uv [v]) i):aR j (n+1) 667 [(OE.aa p).pv,bx.pv r,w.pv] i Q:=by
 conv=>(whnf;try dsimp only)
 have A:eN (bx.pv r) (.ae p)=O (rv (ak v)):=by
  refine (?_:gk _ p=_)
  rw [abi,e];rfl
 exact eR A h
theorem abl(B:gE)(E:bw x)(F:bw y)(C:∀K:PV->ai->Prop,K (uv x) i->aR j (n+1) 667 [a.pv,bx.pv r,w.pv] i K)(D:∀K:PV->ai->Prop,K (uv y) i->aR j (n+1) 667 [b.pv,bx.pv r,w.pv] i K)
  (h:Q (uv (rn B x y)) i):aR j (n+2) 667 [(OE.bj B a b).pv,bx.pv r,w.pv] i Q:=by
 have A:aR j (n+1) 628 [B.jw,uv x,uv y] i Q:=NZ B E F h
 revert A C D
 refine (?_:_->_->_->aR j ((n+1)+1) 667 _ i Q)
 generalize n+1=m
 intro C D A
 cases B<;>
 ·exact λY=>C _ λY=>D _ λY=>A
theorem Xz(D:w.Ok)(E:bw x)(C:∀K:PV->ai->Prop,K (uv x) i->aR j (n+1) 667 [a.pv,bx.pv r,w.pv] i K)
  (h:Q (uv (tp w.f x)) i):aR j (n+2) 667 [(OE.tD a).pv,bx.pv r,w.pv] i Q:=by
 have A:aR j (n+1) 623 [uv x,oZ w.f] i Q:=LO E D.f h
 have B:∀K:PV->ai->Prop,K (oZ w.f) i->aR j (n+1) 667 [.af [T "rel",.ab 2],bx.pv r,w.pv] i K:=λK F=>F
 revert A C B
 refine (?_:_->_->_->aR j ((n+1)+1) 667 _ i Q)
 generalize n+1=m
 exact λC A B Y=>C _ λY=>B _ λY=>A
theorem Vk(B:∀K:PV->ai->Prop,K (.aJ A) i->aR j n 677 [c.pv,bx.pv r,w.pv] i K)(C:A=M->∀K:PV->ai->Prop,K (uv x) i->aR j n 667 [a.pv,bx.pv r,w.pv] i K)(D:A=bn->∀K:PV->ai->Prop,K (uv x) i->aR j n 667 [b.pv,bx.pv r,w.pv] i K)
  (h:Q (uv x) i):aR j (n+1) 667 [(OE.oh c a b).pv,bx.pv r,w.pv] i Q:=by
 refine λY=>B _ ?_
 cases A
 ·exact λY=>D N _ h
 ·exact λY=>C N _ h
noncomputable def kU(c:an)(v:PV):W PV:=bif c then [v]else []
theorem vV{A:Type}(p:A->an)(f:A->PV):∀(l:W A),(l.flatMap λa=>kU (p a) (f a))=(l.filter p).map f:=λl=>cB l N λa l B=>by
  refine eR pP (eR sR (eR (B) ?_))
  unfold kU
  cases p a<;>simp
theorem XA(J:iN r)(C:bw D)(L:∀K:PV->ai->Prop,K (uv D) i->aR j n 667 [d.pv,bx.pv r,w.pv] i K)(E:∀a∈D,∀K:PV->ai->Prop,K (.aJ (p a)) i->aR j (n+1) 677 [f.pv,bx.pv (bb r x a),w.pv] i K)
  (h:Q (uv (gv (D.filter p))) i):aR j (n+2) 667 [(OE.nj x d f).pv,bx.pv r,w.pv] i Q:=by
 have F:∀K:PV->ai->Prop,K (.aj (D.map λa=>gn (ak a) (bb r x a))) i->aR j (n+1) 662 [.af [fj x d.pv],bx.pv r,w.pv] i K:=λK=>Gk J C L
 revert F E
 refine (?_:_->_->aR j ((n+1)+1) 667 _ i Q)
 generalize n+1=m
 refine λE F Y=>F _ ?_
 refine iW (f:=λa=>gn (ak a) (bb r x a)) (λa=>kU (p a) (rv (ak a))) (λa H A R B=>?_) ?_
 ·refine λY=>E a H _ ?_
  revert B
  generalize p a=c
  intro B
  cases c
  ·exact (SZ A▸(show R (A++[]) i from B))
  ·exact ⟨(λh=>nomatch h),B⟩
 ·refine eR (vV p (λa=>rv (ak a)) ..) ⟨eR (sw ..) (io (io (pQ ..) C.bO) (by decide)),eL (k_ ..) ?_⟩
  conv=>(whnf;try dsimp only)
  have I:=(C.pX p)
  exact eR (A2 (U1.i5 (by have:=I.U1 (show bw [] by unfold bw;decide);simpa using this)) ..) (eR (EG (λa H=>I.ee H) ..) h)
end
section
variable{l:bA}{w:Wd}{j:ai}{n:X}{r:bx}{Q:PV->ai->Prop}
@[reducible]noncomputable def qf(l:bA)(n:X)(f:OF)(r:bx)(w:Wd)(j:ai)(c:an):Prop:=∀K:PV->ai->Prop,K (.aJ c) j->aR l n 677 [f.pv,bx.pv r,w.pv] j K
@[reducible]noncomputable def qu(l:bA)(n:X)(e:OE)(r:bx)(w:Wd)(j:ai)(x:At):Prop:=∀K:PV->ai->Prop,K (uv x) j->aR l n 667 [e.pv,bx.pv r,w.pv] j K
@[reducible]noncomputable def xF(l:bA)(n:X)(i:ON)(r:bx)(w:Wd)(j:ai)(x:al):Prop:=∀K:PV->ai->Prop,K (.ab x) j->aR l n 672 [i.pv,bx.pv r,w.pv] j K
theorem XB(A:qf l n a r w j c)(h:Q (.aJ (!c)) j):aR l (n+1) 677 [(OF.d3 a).pv,bx.pv r,w.pv] j Q:=λY=>A _ h
theorem XC(A:qf l n a r w j c)(B:qf l n b r w j d)(h:Q (.aJ (d||!c)) j):aR l (n+1) 677 [(OF.iC a b).pv,bx.pv r,w.pv] j Q:=by
 refine λY=>A _ λY=>B _ ?_
 cases d<;>(conv=>whnf)<;>exact h
theorem XD(A:qf l n a r w j c)(B:qf l n b r w j d)(h:Q (.aJ (c==d)) j):aR l (n+1) 677 [(OF.mm a b).pv,bx.pv r,w.pv] j Q:=λY=>A _ λY=>B _ h
theorem XE(B:qf l n a r w j c)(C:qf l n b r w j d)(h:Q (.aJ (bif A then c&&d else c||d)) j):aR l (n+1) 677 [(OF.jV A a b).pv,bx.pv r,w.pv] j Q:=by
 cases A<;>
 ·refine λY=>B _ ?_
  conv=>(whnf;try dsimp only)
  refine ⟨(λh=>nomatch h),λY=>C _ ?_⟩
  conv=>(whnf;try dsimp only)
  refine ⟨(λh=>nomatch h),(by decide:(2:Nat)≤4096),?_⟩
  cases c<;>cases d<;>(conv=>whnf)<;>exact h
theorem OD:∀(x y:At),tv ((x.map ak).map rv) ((y.map ak).map rv)=if x.length=y.length then O (ci (x=y))else am
 |[],[]=>N
 |[],_::_=>N
 |_::_,[]=>N
 |a::x,b::y=>by
  refine (?_:o2 (md (rv (ak a)) (rv (ak b))) (tv ((x.map ak).map rv) ((y.map ak).map rv)) (λp q=>p&&q)=_)
  refine eR (OB ..) (eR (OD x y ..) ?_)
  by_cases A:x.length=y.length
  ·refine eR (jp A ..) (eR (jp (by simp [A]) ..) ?_)
   unfold o2
   dsimp only
   congr 1
   by_cases B:a=b<;>by_cases C:x=y<;>simp [B,C]
  ·exact eR (f0 A ..) (eR (f0 (by simp [A]) ..) N)
theorem KA(x y:At):p_ .Eq (uv x) (uv y)=O (ci (x=y)):=by
 refine (?_:(bif pi (dE (x.map ak)).length (dE (y.map ak)).length then tv (dE (x.map ak)) (dE (y.map ak))else O bn)=_)
 refine eR (pB ..) (eR (pB ..) (eR (OD ..) ?_))
 simp only [sw]
 by_cases A:x.length=y.length
 ·exact (bT (A▸Bw _)).trans (jp A)
 ·exact (bF (Bool.eq_false_iff.mpr λe=>A (AC e))).trans (lc O (EQ λq=>A (lc Nk q)).symm)
theorem Wf(A:qu l n a r w j x)(B:qu l n b r w j y)(h:Q (.aJ (ci (x=y))) j):aR l (n+1) 677 [(OF.eJ a b).pv,bx.pv r,w.pv] j Q:=by
 refine λY=>A _ λY=>B _ ?_
 conv=>(whnf;try dsimp only)
 exact eR (KA ..) h
end
section
variable{o:bA}{w:Wd}{d:ai}{n:X}{r:bx}{Q:PV->ai->Prop}
theorem aeQ(a:al)(y:At):p_ .In (rv (ak a)) (uv y)=O (ci (a∈y)):=by
 refine (Ek (ak a) (y.map ak)).trans ?_
 congr 1
 by_cases h:a∈y
 ·rw [FB h,FB (sZ.mpr h)]
 ·exact eR (EQ h) (eR (EQ λq=>h (sZ.mp q)) N)
theorem N1(a:al)(y:At):p_ .NotIn (rv (ak a)) (uv y)=O (!ci (a∈y)):=by
 refine (?_:(mf (rv (ak a)) (dE (y.map ak))).map (!·)=_)
 rw [show mf (rv (ak a)) (dE (y.map ak))=O (ci (a∈y)) from aeQ a y];rfl
theorem abm(C:bw x)(D:qu o n a r w d x)(F:qu o n b r w d y)(h:Q (.aJ (x.all λz=>ci (z∈y))) d):aR o (n+1) 677 [(OF.ja a b).pv,bx.pv r,w.pv] d Q:=by
 refine λY=>D _ λY=>F _ ?_
 refine eR (k_ x ..) (iW (f:=λz=>rv (ak z)) (λz=>kU (!ci (z∈y)) (rv (ak z))) (λz I A R B=>?_) ?_)
 ·conv=>(whnf;try dsimp only)
  refine eR (N1 ..) ?_
  revert B
  generalize ci (z∈y)=c
  intro B
  cases c
  ·exact ⟨(λh=>nomatch h),B⟩
  ·exact (SZ A▸(show R (A++[]) d from B))
 ·refine eR (vV (λz=>!ci (z∈y)) (λz=>rv (ak z)) ..) ⟨?_,?_⟩
  ·exact eR (sw ..) (io (pQ ..) (io C.bO (by decide)))
  ·have e:(x.all λz=>ci (z∈y))=(x.filter λz=>!ci (z∈y)).isEmpty:=by
    clear h C D
    induction x with
    |nil=>rfl
    |cons a x H=>
     refine eR pJ (eR sR (eR H ?_))
     cases ci (a∈y)<;>rfl
   rw [e]at h
   cases E:x.filter λz=>!ci (z∈y)with
   |nil=>
    rw [E]at h
    exact h
   |cons z l=>
    rw [E]at h
    exact h
theorem Wg(B:qu o (n+1) e r w d x)(h:Q (.aJ (bS k x.length)) d):aR o (n+2) 677 [(OF.jb k e).pv,bx.pv r,w.pv] d Q:=by
 have A:aR o (n+1) 635 [k.pv,.ab x.length,.ab (-1)] d Q:=B9 k h
 revert A B
 refine (?_:_->_->aR o ((n+1)+1) 677 _ d Q)
 generalize n+1=m
 intro B A
 have e:(((dE (x.map ak)).length:X):al)=(x.length:al):=by rw [pB];simp
 cases k<;>
 ·refine λY=>B _ ?_
  conv=>(whnf;try dsimp only)
  rw [←e]at A
  exact λY=>A
theorem XF(A:xF o n i r w d x)(B:xF o n j r w d y)(h:Q (.aJ (match s with|.lt=>ci (x<y)|.le=>ci (x≤y)|.eq=>ci (x=y))) d):aR o (n+1) 677 [(OF.ao s i j).pv,bx.pv r,w.pv] d Q:=by
 cases s
 ·refine λY=>B _ λY=>A _ ?_
  conv=>(whnf;try dsimp only)
  have e:ci ((0:al)<y-x)=ci (x<y):=lM.mpr Int.sub_pos
  rw [←e]at h;exact h
 ·refine λY=>B _ λY=>A _ ?_
  conv=>(whnf;try dsimp only)
  have e:ci ((-1:al)<y-x)=ci (x≤y):=lM.mpr (show((-1:al)<y-x)↔x≤y from Int.sub_nonneg)
  rw [←e]at h;exact h
 ·refine λY=>B _ λY=>A _ ?_
  conv=>(whnf;try dsimp only)
  have e:ci (y-x=0)=ci (x=y):=lM.mpr (Int.sub_eq_zero.trans eq_comm)
  rw [←e]at h;exact h
theorem XG(h:Q (.ab k) d):aR o (n+1) 672 [(ON.iE k).pv,bx.pv r,w.pv] d Q:=h
theorem Vl(A:qu o n e r w d x)(h:Q (.ab x.length) d):aR o (n+1) 672 [(ON.kf e).pv,bx.pv r,w.pv] d Q:=by
 refine λY=>A _ ?_
 conv=>(whnf;try dsimp only)
 have e:(((dE (x.map ak)).length:X):al)=(x.length:al):=by rw [pB];simp
 rw [←e]at h
 exact h
theorem Wh(A:xF o n i r w d x)(B:xF o n j r w d y)(h:Q (.ab (x+y)) d):aR o (n+1) 672 [(ON.lg i j).pv,bx.pv r,w.pv] d Q:=λY=>A _ λY=>B _ h
end
section
variable{d:bA}{w:Wd}{c:ai}{n:X}{r:bx}{Q:PV->ai->Prop}
theorem Wi{A:Type}(p:A->an):∀(l:W A),lO M (l.map λa=>.aJ (p a))=O (l.filter p).length:=λl=>cB l N λa l B=>by
  refine (?_:(lO M (l.map λa=>PV.aJ (p a))).map (λn=>bif p a==M then n+1 else n)=_)
  refine eR (B) (eR sR ?_)
  cases p a<;>simp
theorem abn{a b:al}(h:Q (.aJ (ci (a=b))) c):aR d (n+1) 635 [T "all",.ab a,.ab b] c Q:=h
theorem LP{A:Type}(p:A->an):∀(l:W A),ci (((l.filter p).length:al)=(l.length:al))=l.all p:=λl=>cB l N λa l B=>by
  refine eR sR (eR pJ (eR Da ?_))
  cases p a
  ·rw [Bool.false_and,aah,f0 (by simp)]
   exact afE (pQ p l)
  ·exact eR (Nn ..) (eL ((B) ..) (eR (jp N ..) (eR (Da ..) (lM.mpr (wu.trans (Nat.succ_inj.trans wu.symm))))))
theorem yk{A:Type}(p:A->an):∀(l:W A),ci (0<(l.filter p).length)=l.any p:=λl=>cB l N λa l B=>by
  refine eR sR (eR ue (eL (B) ?_))
  cases p a<;>simp
theorem Ld{A:Type}(p:A->an)(l:W A):wU wF (.aj (l.map λa=>.aJ (p a))) [.aJ M]=O (.ab (n5 (l.filter p).length)):=by
 refine (?_:(match lO M (l.map λa=>PV.aJ (p a))with|some n=>O (PV.ab (n5 n))|none=>am)=_)
 exact eR (Wi ..) N
theorem Le{C:Type}{A:an}{S:PV}{f:OF}{L:W C}{D:C->PV}{p:C->an}(U:L.length≤1000)(E:∀K:PV->ai->Prop,K (.aj (L.map D)) c->aR d (n+1) 662 [S,bx.pv r,w.pv] c K)
  (F:∀a∈L,∃B H,D a=gn B H∧qf d (n+1) f H w c (p a)) (h:Q (.aJ (bif A then L.all p else L.any p)) c):aR d (n+2) 677 [.af [bif A then T "all" else T "exists",S,f.pv],bx.pv r,w.pv] c Q:=by
 have I:∀K:PV->ai->Prop,K (.aJ (L.all p)) c->aR d (n+1) 635 [T "all",.ab (n5 (L.filter p).length),.ab (L.map λa=>PV.aJ (p a)).length] c K:=λK J=>abn (eR (sw ..) (eR (show(ci (n5 (L.filter p).length=((L.length:X):al)))=L.all p from(LP p L) ..) J))
 have P:∀K:PV->ai->Prop,K (.aJ (L.any p)) c->aR d (n+1) 635 [T "some",.ab (n5 (L.filter p).length),.ab (L.map λa=>PV.aJ (p a)).length] c K:=λK J=>B9 (k:=(L.filter p).length) .fL (eR (show bS .fL (L.filter p).length=L.any p from yk p L) J)
 revert I P E F
 refine (?_:_->_->_->_->aR d ((n+1)+1) 677 _ c Q)
 generalize n+1=m
 intro E F I P
 cases A<;>
 ·refine λY=>E _ ?_
  refine iW (f:=D) (λa=>[.aJ (p a)]) (λa Z j R o=>?_) ?_
  ·exact eD (F a Z) λB H e y=>eR e (λY=>y _ ⟨(λh=>nomatch h),o⟩)
  ·refine eR (kI ..) ⟨by rw [sw];exact io U (by decide),?_⟩
   conv=>(whnf;try dsimp only)
   refine eR (Ld ..) ?_
   conv=>(whnf;try dsimp only)
   first
    |exact λY=>I _ h
    |exact λY=>P _ h
end
section
variable{c:bA}{w:Wd}{b:ai}{n:X}{r:bx}{Q:PV->ai->Prop}
theorem Gm{A:Type}(p:A->al)(l:W A):oQ zt [.aj (l.map λa=>.ab (p a))]=O (.ab (l.map p).sum):=by
 refine (?_:(js (l.map λa=>PV.ab (p a))).map (λB=>PV.ab B.sum)=_)
 rw [show(l.map λa=>PV.ab (p a))=(l.map p).map .ab by rw [mL];rfl,Lb]
 rfl
theorem XH(C:bw D)(E:iN r)(F:qu c n d r w b D)(A:∀a∈D,xF c (n+1) i (bb r x a) w b (p a))(h:Q (.ab (D.map p).sum) b):aR c (n+2) 672 [(ON.lh x d i).pv,bx.pv r,w.pv] b Q:=by
 have B:∀K:PV->ai->Prop,K (.aj (D.map λa=>gn (ak a) (bb r x a))) b->aR c (n+1) 662 [.af [fj x d.pv],bx.pv r,w.pv] b K:=λK=>Gk E C F
 revert B A
 refine (?_:_->_->aR c ((n+1)+1) 672 _ b Q)
 generalize n+1=m
 refine λA B Y=>B _ ?_
 refine iW (f:=λa=>gn (ak a) (bb r x a)) (λa=>[.ab (p a)]) (λa H I R J=>?_) ?_
 ·exact λY=>A a H _ ⟨(λh=>nomatch h),J⟩
 ·refine eR (kI ..) ⟨by rw [sw];exact io C.bO (by decide),?_⟩
  conv=>(whnf;try dsimp only)
  exact eR (Gm ..) h
end
section
variable{f:bA}{w:Wd}{i:ai}{n:X}{r:bx}{Q:PV->ai->Prop}
@[reducible]noncomputable def jQ(p:al×al):W al:=[p.1,p.2]
noncomputable def fz(D:At)(A:al->At):W (al×al):=D.flatMap λa=>(A a).map λb=>(a,b)
theorem El(h:bw D):D.Pairwise (· <·):=by
 refine eL h ?_
 have:([0,1,2]:At).Pairwise (· <·):=by decide
 exact this.sublist BN
theorem UM:∀{D:At},D.Pairwise (· <·)->(∀a∈D,bw (I a))->((fz D I).map jQ).Pairwise (λx y=>dZ x y=M):=λ{D}=>cB D (λY Y=>Nb) λa D J h E=>by
  have F:=sQ.mp h
  unfold fz
  rw [pP,uk,List.pairwise_append]
  refine ⟨?_,J F.2 λb L=>E b (wv _ L),?_⟩
  ·rw [mL,Nq]
   refine (El (E a (wf ..))).imp λ{x y} A=>(?_:dZ [a,x] [a,y]=M)
   rw [sd,f0 (by exact afF),jp N,sd,jp A]
  ·intro x H y P
   rw [mL,No]at H
   obtain ⟨b,_,rfl⟩:=H
   obtain ⟨⟨c,d⟩,B,rfl⟩:=No.mp P
   have R:c∈D:=by
    obtain ⟨S,C,B⟩:=FV.mp B
    obtain ⟨U,_,e⟩:=No.mp B
    cases e;exact C
   refine (?_:dZ [a,b] [c,d]=M)
   exact eR (sd ..) (eR (jp (F.1 c R) ..) N)
theorem LQ:∀{l:Rw},l.Pairwise (λx y=>dZ x y=M)->yY l=M
 |[],_=>N
 |[_],_=>N
 |a::b::r,h=>by
  have A:=sQ.mp h
  refine (?_:(dZ a b&&yY (b::r))=M)
  rw [A.1 b (wf ..),LQ A.2];rfl
theorem Gn{l:Rw}(h:l.Pairwise (λx y=>dZ x y=M)):l.Nodup:=h.imp λ{a b} A e=>by
 subst e
 have:=tZ A
 rw [A]at this;cases this
theorem Lf:∀{l q:Rw},(q++l).Nodup->e_ l q=q++l:=λ{l}=>no_implicit_lambda% (cB l (@λq Y=>by simp [e_]) λa l A {q} h=>by
  refine eR (ye (λB=>(yv.mp h).2.2 a B a (wf ..) N)) (eR (A (by simpa using h)) ?_)
  simp)
theorem LR{l:Rw}(h:l.Pairwise (λx y=>dZ x y=M)):fb (e_ l [])=l:=by
 exact eR (Lf (by simpa using Gn h)) (AZ (yf (by simpa using Gn h)) h (by simpa using vQ l))
end
section
variable{j:bA}{w:Wd}{i:ai}{n:X}{r:bx}{Q:PV->ai->Prop}
theorem Be(E:bw D)(A:∀a∈D,bw (B a)):(fz D B).length≤9:=by
 have F:∀{D:At},(∀a∈D,bw (B a))->(fz D B).length≤D.length*3:=by
  intro D
  induction D with
  |nil=>intro _;exact Gc _
  |cons a D C=>
   intro h
   unfold fz at C⊢
   exact eR (pP ..) (eR (xz ..) (eR (sw ..) (eR (Da ..) (eR (yG ..) (io (yl (h a (wf ..)).bO (C λb H=>h b (wv _ H))) (nY (Nat.add_comm ..)))))))
 exact io (F A) (Bi 3 E.bO)
theorem Vm(F:bw D)(A:∀a∈D,bw (H a)):∀p∈fz D H,pT p.1=M∧pT p.2=M:=λp B=>by
 refine aQ (FV.mp B) λa E B=>aQ (No.mp B) λb I C=>?_
 subst C
 refine ⟨?_,?_⟩
 ·rcases F.ee E with rfl|rfl|rfl<;>rfl
 ·rcases (A a E).ee I with rfl|rfl|rfl<;>rfl
theorem Wj(hr:iN r)(hl:r.length≤998)(P:bw D)(E:∀a∈D,bw (F a))(hd:qu j n d r w i D)(U:∀a∈D,qu j n d (bb r x a) w i (F a))
  (Z:∀q∈fz D F,qf j (n+1) f (bb (bb r x q.1) y q.2) w i (p q)) (h:Q (fR (((fz D F).filter p).map jQ)) i):aR j (n+2) 667 [.af [T "comp",.af [fj x d.pv,fj y d.pv],f.pv],bx.pv r,w.pv] i Q:=by
 have o:∀K:PV->ai->Prop,K (.aj ((fz D F).map λq=>gn (jQ q) (bb (bb r x q.1) y q.2))) i->aR j (n+1) 662 [.af [fj x d.pv,fj y d.pv],bx.pv r,w.pv] i K:=λK hK=>by
  refine N0 hr hl P E hd U ?_
  have e:(D.flatMap λa=>(F a).map λb=>gn [a,b] (bb (bb r x a) y b))=(fz D F).map λq=>gn (jQ q) (bb (bb r x q.1) y q.2):=by
   unfold fz
   refine eR FU ?_
   congr 1
   funext a
   rw [mL];rfl
  rw [e];exact hK
 have B:=Be P E
 have H:=Vm P E
 have A:=UM (I:=F) (El P) E
 revert o Z h B H A
 refine (?_:_->_->_->_->_->_->aR j ((n+1)+1) 667 _ i Q)
 generalize fz D F=L
 generalize n+1=m
 refine λZ h o B H A Y=>o _ ?_
 refine iW (f:=λq=>gn (jQ q) (bb (bb r x q.1) y q.2)) (λq=>kU (p q) (rv (jQ q))) (λq hq I R S=>?_) ?_
 ·refine λY=>Z q hq _ ?_
  revert S
  generalize p q=c
  intro S
  cases c
  ·exact (SZ I▸(show R (I++[]) i from S))
  ·exact ⟨(λh=>nomatch h),S⟩
 ·refine eR (vV p (λq=>rv (jQ q)) ..) ?_
  have C:(L.filter p).length≤9:=io (pQ ..) B
  refine ⟨eR (sw ..) (io C (by decide)),?_⟩
  have e2:PV.aj ((L.filter p).map λq=>rv (jQ q))=fR ((L.filter p).map jQ):=by
   refine (?_:_=PV.aj (((L.filter p).map jQ).map rv))
   rw [mL];rfl
  refine eR e2 ?_
  have J:((L.filter p).map jQ).Pairwise (λx y=>dZ x y=M):=A.sublist (BN.map _)
  have ok:i5 ((L.filter p).map jQ)=M:=by
   unfold i5
   refine eR (qY (by rw [sw];exact L1 141151703800 N C) ..) (eR (Nn ..) (eR (aag ..) (eR (mH ..) (.inr ⟨?_,LQ J⟩))))
   rw [Do]
   refine λz hz=>aQ (No.mp hz) λq hq px=>?_
   subst px
   have:=H q (yP.mp hq).1
   refine (?_:(pT q.1&&pT q.2)=M)
   rw [this.1,this.2];rfl
  conv=>(whnf;try dsimp only)
  exact eR (A2 ok) (eR (LR J) h)
end
section
variable{d:bA}{w:Wd}{c:ai}{r:bx}{Q:PV->ai->Prop}
theorem Wk(B:∀K:PV->ai->Prop,K (fR L) c->aR d (n+1) 667 [e,bx.pv r,w.pv] c K)(h:Q (.aJ (bS k L.length)) c):aR d (n+2) 677 [.af [k.pv,e],bx.pv r,w.pv] c Q:=by
 have A:aR d (n+1) 635 [k.pv,.ab L.length,.ab (-1)] c Q:=B9 k h
 revert A B
 refine (?_:_->_->aR d ((n+1)+1) 677 _ c Q)
 generalize n+1=m
 intro B A
 have e:(((dE L).length:X):al)=(L.length:al):=by rw [pB];simp
 cases k<;>
 ·refine λY=>B _ ?_
  conv=>(whnf;try dsimp only)
  rw [←e]at A
  exact λY=>A
theorem Kk(D:At)(A:al->At)(p:al->al->an):((fz D A).filter λq=>p q.1 q.2)=D.flatMap λa=>((A a).filter λb=>p a b).map λb=>(a,b):=by
 unfold fz
 induction D with
 |nil=>rfl
 |cons a D B=>
  refine eR (pP ..) (eR (pP ..) (eR (List.filter_append ..) (eR (B ..) (eR (List.filter_map ..) ?_))))
  rfl
theorem LS(D:At)(A:al->At)(p:al->al->an):((fz D A).all λq=>p q.1 q.2)=D.all λa=>(A a).all λb=>p a b:=by
 unfold fz
 induction D with
 |nil=>rfl
 |cons a D B=>
  refine eR pP (eR YS (eR B (eR List.all_map (eR pJ ?_))))
  rfl
theorem LU(D:At)(A:al->At)(p:al->al->an):((fz D A).any λq=>p q.1 q.2)=D.any λa=>(A a).any λb=>p a b:=by
 unfold fz
 induction D with
 |nil=>rfl
 |cons a D B=>
  refine eR pP (eR List.any_append (eR B (eR List.any_map (eR ue ?_))))
  rfl
end
theorem XI{C:bA}{n:X}{A:ai}{Q:PV->ai->Prop}{d w:PV}{x y:PS}{r:bx}{D:At}{B:al->At}(H:iN r)(I:r.length≤998)(J:bw D)(E:∀a∈D,bw (B a))(L:∀K:PV->ai->Prop,K (uv D) A->aR C n 667 [d,bx.pv r,w] A K)
  (F:∀a∈D,∀K:PV->ai->Prop,K (uv (B a)) A->aR C n 667 [d,bx.pv (bb r x a),w] A K)
  (h:Q (.aj ((fz D B).map λq=>gn (jQ q) (bb (bb r x q.1) y q.2))) A):aR C (n+1) 662 [.af [fj x d,fj y d],bx.pv r,w] A Q:=by
 refine N0 H I J E L F ?_
 have e:(D.flatMap λa=>(B a).map λb=>gn [a,b] (bb (bb r x a) y b))=(fz D B).map λq=>gn (jQ q) (bb (bb r x q.1) y q.2):=by
  unfold fz
  refine eR FU ?_
  congr 1
  funext a
  rw [mL];rfl
 rw [e];exact h
theorem EI{D:At}{B:al->At}{q:al×al}(h:q∈fz D B):q.1∈D∧q.2∈B q.1:=by
 refine aQ (FV.mp h) λa C h=>aQ (No.mp h) λb E A=>?_
 subst A
 exact ⟨C,E⟩
theorem iN.CY{r:bx}(h:iN r){x y:PS}{u v:al}(B:u=0∨u=1∨u=2)(C:v=0∨v=1∨v=2)(A:r.length≤998):iN (bb (bb r x u) y v):=
 (h.aK B (L1 0x83b8ef7c10761def8 N A)).aK C (by have:=qe r x u;exact L2 0x10771def9205f8c90761def8 N A this)
section
variable{o:bA}{l:ai}{w:Wd}(d:w.Ok)
include d
mutual
theorem OE.bZ:∀(e:OE) (n:X) (r:bx),iN r->r.length+e.h≤900->e.sc (Bd r)->e.h≤n->qu o n e r w l (e.aw w r)
 |.gG b,n,r,B,C,D,A=>λK E=>by
  obtain ⟨m,rfl⟩:∃m,n=m+1:=⟨n-1,(lm (L1 159879951 N A)).symm⟩
  exact abj b (E)
 |.aa p,n,r,B,C,D,A=>λK E=>by
  obtain ⟨m,rfl⟩:∃m,n=m+1:=⟨n-1,(lm (L1 159879951 N A)).symm⟩
  obtain ⟨v,H⟩:=(D:Bd r p)
  refine abk H ?_
  have E:K (uv (match fT r p with|some v=>[v]|none=>[])) l:=E
  rw [H]at E
  exact E
 |.bj J a b,n,r,B,C,D,A=>λK E=>by
  obtain ⟨m,rfl⟩:∃m,n=m+2:=⟨n-2,(lm (L2 164824385296 N A)).symm⟩
  exact abl J (OE.ok d a r B.ax) (OE.ok d b r B.ax) (OE.bZ a (m+1) r B (L3 0x1181d6099d11810e618 N C (wS _ _)) D.1 (L3 0x102fce898d1030c8710 N A (wS _ _))) (OE.bZ b (m+1) r B (L3 0x1181d6099d11810e618 N C (zn _ _)) D.2 (L3 0x102fce898d1030c8710 N A (zn _ _))) (E)
 |.tD a,n,r,B,C,D,A=>λK E=>by
  obtain ⟨m,rfl⟩:∃m,n=m+2:=⟨n-2,(lm (L2 164824385297 N A)).symm⟩
  exact Xz d (OE.ok d a r B.ax) (OE.bZ a (m+1) r B (L2 0x23039c11810e638 N C) D (L2 0x205f9c1030c8711 N A)) (E)
 |.nj x F f,n,r,B,C,D,A=>λK E=>by
  obtain ⟨m,rfl⟩:∃m,n=m+2:=⟨n-2,(lm (L2 164824385297 N A)).symm⟩
  have I:=OE.ok d F r B.ax
  refine XA (p:=λa=>f.aw w (bb r x a)) B I (OE.bZ F m r B (L3 0x1181d6099d11810e638 N C (wS _ _)) D.1 (L3 0x4ce898d1030c8711 N A (wS _ _))) (λa L=>?_) (E)
  exact OF.bZ f (m+1) _ (B.aK (I.ee L) (L2 0x83b8ef7c11810e638 N C)) (L4 0x2303bd133b205f8d11810e638 N C (qe r x a) (zn _ _)) (OF.c8 Bd.aK D.2) (L3 0x102fce898d1030c8711 N A (zn _ _))
 |.oh c a b,n,r,B,C,D,A=>λK E=>by
  obtain ⟨m,rfl⟩:∃m,n=m+1:=⟨n-1,(lm (L2 164790830864 N A)).symm⟩
  refine Vk (A:=c.aw w r) (x:=(OE.oh c a b).aw w r) (OF.bZ c m r B (L3 0x1181d6099d11810e618 N C (wS _ _)) D.1 (L3 0x4ce898d102fc8710 N A (wS _ _))) (λe=>?_) (λe=>?_) E
  ·have:(OE.oh c a b).aw w r=a.aw w r:=lc (λz=>bif z then a.aw w r else b.aw w r) e
   exact eR this (OE.bZ a m r B (L4 0x8c0eb04cec9bd11810e618 N C (wS _ _) (zn _ _)) D.2.1 (L4 0x26744c6c9bd102fc8710 N A (wS _ _) (zn _ _)))
  ·have:(OE.oh c a b).aw w r=b.aw w r:=lc (λz=>bif z then a.aw w r else b.aw w r) e
   exact eR this (OE.bZ b m r B (L4 0x8c0eb04cec9bd11810e618 N C (zn _ _) (zn _ _)) D.2.2 (L4 0x26744c6c9bd102fc8710 N A (zn _ _) (zn _ _)))
theorem OF.bZ:∀(e:OF) (n:X) (r:bx),iN r->r.length+e.h≤900->e.sc (Bd r)->e.h≤n->qf o n e r w l (e.aw w r)
 |.jV S a b,n,r,D,C,E,B=>λK F=>by
  obtain ⟨m,rfl⟩:∃m,n=m+1:=⟨n-1,(lm (L2 164790830863 N B)).symm⟩
  exact XE (OF.bZ a m r D (L3 0x1181d6099d11810e5f8 N C (wS _ _)) E.1 (L3 0x4ce898d102fc870f N B (wS _ _))) (OF.bZ b m r D (L3 0x1181d6099d11810e5f8 N C (zn _ _)) E.2 (L3 0x4ce898d102fc870f N B (zn _ _))) (F)
 |.iC a b,n,r,D,C,E,B=>λK F=>by
  obtain ⟨m,rfl⟩:∃m,n=m+1:=⟨n-1,(lm (L2 164790830863 N B)).symm⟩
  exact XC (OF.bZ a m r D (L3 0x1181d6099d11810e5f8 N C (wS _ _)) E.1 (L3 0x4ce898d102fc870f N B (wS _ _))) (OF.bZ b m r D (L3 0x1181d6099d11810e5f8 N C (zn _ _)) E.2 (L3 0x4ce898d102fc870f N B (zn _ _))) (F)
 |.mm a b,n,r,D,C,E,B=>λK F=>by
  obtain ⟨m,rfl⟩:∃m,n=m+1:=⟨n-1,(lm (L2 164790830863 N B)).symm⟩
  exact XD (OF.bZ a m r D (L3 0x1181d6099d11810e5f8 N C (wS _ _)) E.1 (L3 0x4ce898d102fc870f N B (wS _ _))) (OF.bZ b m r D (L3 0x1181d6099d11810e5f8 N C (zn _ _)) E.2 (L3 0x4ce898d102fc870f N B (zn _ _))) (F)
 |.d3 a,n,r,D,C,E,B=>λK F=>by
  obtain ⟨m,rfl⟩:∃m,n=m+1:=⟨n-1,(lm (L2 164790830863 N B)).symm⟩
  exact XB (OF.bZ a m r D (L2 0x23039c11810e5f8 N C) E (L2 0x99c102fc870f N B)) (F)
 |.ja a b,n,r,D,C,E,B=>λK F=>by
  obtain ⟨m,rfl⟩:∃m,n=m+1:=⟨n-1,(lm (L2 164790830864 N B)).symm⟩
  exact abm (OE.ok d a r D.ax) (OE.bZ a m r D (L3 0x1181d6099d11810e618 N C (wS _ _)) E.1 (L3 0x4ce898d102fc8710 N B (wS _ _))) (OE.bZ b m r D (L3 0x1181d6099d11810e618 N C (zn _ _)) E.2 (L3 0x4ce898d102fc8710 N B (zn _ _))) (F)
 |.eJ a b,n,r,D,C,E,B=>λK F=>by
  obtain ⟨m,rfl⟩:∃m,n=m+1:=⟨n-1,(lm (L2 164790830864 N B)).symm⟩
  exact Wf (OE.bZ a m r D (L3 0x1181d6099d11810e618 N C (wS _ _)) E.1 (L3 0x4ce898d102fc8710 N B (wS _ _))) (OE.bZ b m r D (L3 0x1181d6099d11810e618 N C (zn _ _)) E.2 (L3 0x4ce898d102fc8710 N B (zn _ _))) (F)
 |.jb k e,n,r,D,C,E,B=>λK F=>by
  obtain ⟨m,rfl⟩:∃m,n=m+2:=⟨n-2,(lm (L2 164824385296 N B)).symm⟩
  exact Wg (OE.bZ e (m+1) r D (L2 0x23039c11810e618 N C) E (L2 0x205f9c1030c8710 N B)) (F)
 |.w7 k x y A f,n,r,D,C,E,B=>λK F=>by
  have B:5+wT A.h f.h≤n:=B
  have C:r.length+(5+wT A.h f.h)≤900:=C
  obtain ⟨m,rfl⟩:∃m,n=m+3:=⟨n-3,(lm (L2 164857939731 N B)).symm⟩
  have H:=OE.ok d A r D.ax
  have I:∀a∈A.aw w r,bw (A.aw w (bb r x a)):=λa J=>OE.ok d A _ (D.aK (H.ee J) (L2 0x83b8ef7c11810e678 N C)).ax
  refine Wk (n:=m+1) (L:=((fz (A.aw w r) λa=>A.aw w (bb r x a)).filter λq=>f.aw w (bb (bb r x q.1) y q.2)).map jQ) (λK F=>?_) ?_
  ·refine Wj (n:=m) (F:=λa=>A.aw w (bb r x a)) (p:=λq=>f.aw w (bb (bb r x q.1) y q.2)) D (L2 0x83b0ef7c11810e678 N C) H I (OE.bZ A m r D (L3 0x1181d6099d11810e678 N C (wS _ _)) E.1 (L3 0x4ce898d1031c8713 N B (wS _ _))) (λa J=>?_) (λq U=>?_) F
   ·have:=qe r x a
    exact OE.bZ A m _ (D.aK (H.ee J) (L2 0x83b8ef7c11810e678 N C)) (L4 0x2303bd133b205f8d11810e678 N C this (wS _ _)) (OE.c8 (λp h=>Bd.aK p (.inr h)) E.1) (L3 0x4ce898d1031c8713 N B (wS _ _))
   ·have P:=EI U
    have Y:=qe r x q.1
    have:=qe (bb r x q.1) y q.2
    exact OF.bZ f (m+1) _ (D.CY (H.ee P.1) ((I _ P.1).ee P.2) (L2 0x83b0ef7c11810e678 N C)) (L5 0x46079b267840bf5b205f8d11810e678 N C Y this (zn _ _)) (OF.c8 (λp h=>Bd.aK p (h.imp id (Bd.aK p))) E.2) (L3 0x102fce898d1031c8713 N B (zn _ _))
  ·exact eR (sw ..) (eR (Kk _ _ (λa b=>f.aw w (bb (bb r x a) y b)) ..) F)
 |.h_ R x A f,n,r,D,C,E,B=>λK F=>by
  obtain ⟨m,rfl⟩:∃m,n=m+2:=⟨n-2,(lm (L2 164824385297 N B)).symm⟩
  have H:=OE.ok d A r D.ax
  refine Le (L:=A.aw w r) (D:=λa=>gn (ak a) (bb r x a)) (p:=λa=>f.aw w (bb r x a)) (io H.bO (by decide)) (λK=>Gk D H (OE.bZ A m r D (L3 0x1181d6099d11810e638 N C (wS _ _)) E.1 (L3 0x4ce898d1030c8711 N B (wS _ _)))) (λa J=>(fV _ _ N ?_)) (F)
  exact OF.bZ f (m+1) _ (D.aK (H.ee J) (L2 0x83b8ef7c11810e638 N C)) (L4 0x2303bd133b205f8d11810e638 N C (qe r x a) (zn _ _)) (OF.c8 Bd.aK E.2) (L3 0x102fce898d1030c8711 N B (zn _ _))
 |.iL R x y A f,n,r,D,C,E,B=>λK F=>by
  have B:3+wT A.h f.h≤n:=B
  have C:r.length+(3+wT A.h f.h)≤900:=C
  obtain ⟨m,rfl⟩:∃m,n=m+2:=⟨n-2,(lm (L2 164824385297 N B)).symm⟩
  have H:=OE.ok d A r D.ax
  have I:∀a∈A.aw w r,bw (A.aw w (bb r x a)):=λa J=>OE.ok d A _ (D.aK (H.ee J) (L2 0x83b8ef7c11810e638 N C)).ax
  refine Le (L:=fz (A.aw w r) λa=>A.aw w (bb r x a)) (D:=λq=>gn (jQ q) (bb (bb r x q.1) y q.2)) (p:=λq=>f.aw w (bb (bb r x q.1) y q.2)) (io (Be H I) (by decide))
   (λK=>XI D (L2 0x83b0ef7c11810e638 N C) H I (OE.bZ A m r D (L3 0x1181d6099d11810e638 N C (wS _ _)) E.1 (L3 0x4ce898d1030c8711 N B (wS _ _))) (λa J=>?_)) (λq U=>(fV _ _ N ?_)) ?_
  ·have:=qe r x a
   exact OE.bZ A m _ (D.aK (H.ee J) (L2 0x83b8ef7c11810e638 N C)) (L4 0x2303bd133b205f8d11810e638 N C this (wS _ _)) (OE.c8 (λp h=>Bd.aK p (.inr h)) E.1) (L3 0x4ce898d1030c8711 N B (wS _ _))
  ·have P:=EI U
   have Y:=qe r x q.1
   have:=qe (bb r x q.1) y q.2
   exact OF.bZ f (m+1) _ (D.CY (H.ee P.1) ((I _ P.1).ee P.2) (L2 0x83b0ef7c11810e638 N C)) (L5 0x46079b267840bf5b205f8d11810e638 N C Y this (zn _ _)) (OF.c8 (λp h=>Bd.aK p (h.imp id (Bd.aK p))) E.2) (L3 0x102fce898d1030c8711 N B (zn _ _))
  ·exact eR (LS _ _ (λa b=>f.aw w (bb (bb r x a) y b))) (eR (LU _ _ (λa b=>f.aw w (bb (bb r x a) y b))) F)
 |.ao s i j,n,r,D,C,E,B=>λK F=>by
  obtain ⟨m,rfl⟩:∃m,n=m+1:=⟨n-1,(lm (L2 164790830863 N B)).symm⟩
  refine XF (ON.bZ i m r D (L3 0x1181d6099d11810e5f8 N C (wS _ _)) E.1 (L3 0x4ce898d102fc870f N B (wS _ _))) (ON.bZ j m r D (L3 0x1181d6099d11810e5f8 N C (zn _ _)) E.2 (L3 0x4ce898d102fc870f N B (zn _ _))) ?_
  cases s<;>exact F
theorem ON.bZ:∀(e:ON) (n:X) (r:bx),iN r->r.length+e.h≤900->e.sc (Bd r)->e.h≤n->xF o n e r w l (e.aw w r)
 |.iE k,n,r,B,C,D,A=>λK E=>by
  obtain ⟨m,rfl⟩:∃m,n=m+1:=⟨n-1,(lm (L1 159879951 N A)).symm⟩
  exact XG (E)
 |.kf e,n,r,B,C,D,A=>λK E=>by
  obtain ⟨m,rfl⟩:∃m,n=m+1:=⟨n-1,(lm (L2 164790830863 N A)).symm⟩
  exact Vl (OE.bZ e m r B (L2 0x23039c11810e5f8 N C) D (L2 0x99c102fc870f N A)) (E)
 |.lg i j,n,r,B,C,D,A=>λK E=>by
  obtain ⟨m,rfl⟩:∃m,n=m+1:=⟨n-1,(lm (L2 164790830863 N A)).symm⟩
  exact Wh (ON.bZ i m r B (L3 0x1181d6099d11810e5f8 N C (wS _ _)) D.1 (L3 0x4ce898d102fc870f N A (wS _ _))) (ON.bZ j m r B (L3 0x1181d6099d11810e5f8 N C (zn _ _)) D.2 (L3 0x4ce898d102fc870f N A (zn _ _))) (E)
 |.lh x F i,n,r,B,C,D,A=>λK E=>by
  obtain ⟨m,rfl⟩:∃m,n=m+2:=⟨n-2,(lm (L2 164824385297 N A)).symm⟩
  have H:=OE.ok d F r B.ax
  refine XH (p:=λa=>i.aw w (bb r x a)) H B (OE.bZ F m r B (L3 0x1181d6099d11810e638 N C (wS _ _)) D.1 (L3 0x4ce898d1030c8711 N A (wS _ _))) (λa I=>?_) (E)
  exact ON.bZ i (m+1) _ (B.aK (H.ee I) (L2 0x83b8ef7c11810e638 N C)) (L4 0x2303bd133b205f8d11810e638 N C (qe r x a) (zn _ _)) (ON.c8 Bd.aK D.2) (L3 0x102fce898d1030c8711 N A (zn _ _))
end
end
@[reducible]noncomputable def nm(v:an):PS:=bif v then .aA 122 else .aA 121
inductive dQ|a|b|fN
set_option genInjectivity false in
set_option genCtorIdx false in
mutual
inductive aP where
 |b_ (b:an)
 |aa (v:an)
 |jj (s:aP)
 |op (o:gE) (a b:aP)
 |kg (dot:an) (s:aP)
 |tq (v:an) (d:dQ) (t:bk)
 |jc (v:an) (b s:aP)
 |aF (c:bk) (a b:aP)
inductive bk where
 |d3 (t:bk)
 |jV (o:oH) (a b:bk)
 |h_ (k:i_) (v:an) (d:dQ) (t:bk)
 |iL (k:i_) (disj:an) (d:dQ) (t:bk)
 |tr (s:aP)
 |jc (v:an) (b:aP) (t:bk)
 |ao (s:l8) (i j:di)
 |jb (k:lX) (s:aP)
 |eJ (a b:aP)
 |ja (a b:aP)
inductive di where
 |lg (i j:di)
 |lh (v:an) (d:dQ) (i:di)
 |iE (k:al)
 |kf (s:aP)
end
@[reducible]noncomputable def eV(s:PS):PV:=.af [T "name",.ab 0,.ae s]
noncomputable def dQ.pv:dQ->PV
 |.a=>eV (.aA 66)
 |.b=>eV (.aA 67)
 |.fN=>.af [T "bin",.ab 0,T "-",eV (.aA 66),eV (.aA 67)]
@[reducible]noncomputable def lU(v:an)(d:dQ):PV:=.af [.ab 0,.aJ bn,.af [.ae (nm v)],T "",d.pv]
@[reducible]noncomputable def la(A:an)(d:dQ):PV:=.af [.ab 0,.aJ A,.af [T "x",T "y"],T "",d.pv]
noncomputable def i_.pv:i_->PV
 |.jx=>T "all" |.fL=>T "some" |.no=>T "no" |.l7=>T "lone" |.ak=>T "one"
noncomputable def oH.pv:oH->PV
 |.xD=>T "&&" |.or=>T "||" |.iC=>T "=>" |.mm=>T "<=>"
noncomputable def l8.pv:l8->PV
 |.lt=>T "<" |.le=>T "<=" |.eq=>T "="
@[reducible]noncomputable def ju:PV:=.af [T "name",.ab 0,T "g"]
@[reducible]noncomputable def jv:PV:=.af [T "name",.ab 0,T "f"]
@[reducible]noncomputable def vb:PV:=.af [T "name",.ab 0,T "p"]
@[reducible]noncomputable def pS:PV:=.af [T "name",.ab 0,T "plus"]
mutual
noncomputable def aP.pv:aP->PV
 |.b_ b=>eV (bif b then .aA 67 else .aA 66)
 |.aa v=>eV (nm v)
 |.jj s=>.af [T "bin",.ab 0,T ".",s.pv,jv]
 |.op o a b=>.af [T "bin",.ab 0,o.jw,a.pv,b.pv]
 |.kg A s=>bif A then .af [T "bin",.ab 0,T ".",s.pv,ju]else .af [T "box",.ab 0,ju,.af [s.pv]]
 |.tq v d t=>.af [T "compr",.ab 0,.af [lU v d],t.pv]
 |.jc v b s=>.af [T "let",.ab 0,.ae (nm v),b.pv,s.pv]
 |.aF c a b=>.af [T "if",.ab 0,c.pv,a.pv,b.pv]
noncomputable def bk.pv:bk->PV
 |.d3 t=>.af [T "un",.ab 0,T "!",t.pv]
 |.jV o a b=>.af [T "bin",.ab 0,o.pv,a.pv,b.pv]
 |.h_ k v d t=>.af [T "quant",.ab 0,k.pv,.af [lU v d],t.pv]
 |.iL k A d t=>.af [T "quant",.ab 0,k.pv,.af [la A d],t.pv]
 |.tr s=>.af [T "box",.ab 0,vb,.af [s.pv]]
 |.jc v b t=>.af [T "let",.ab 0,.ae (nm v),b.pv,t.pv]
 |.ao s i j=>.af [T "bin",.ab 0,s.pv,i.pv,j.pv]
 |.jb k s=>.af [T "un",.ab 0,k.pv,s.pv]
 |.eJ a b=>.af [T "bin",.ab 0,T "=",a.pv,b.pv]
 |.ja a b=>.af [T "bin",.ab 0,T "in",a.pv,b.pv]
noncomputable def di.pv:di->PV
 |.lg i j=>.af [T "box",.ab 0,pS,.af [i.pv,j.pv]]
 |.lh v d i=>.af [T "quant",.ab 0,T "sum",.af [lU v d],i.pv]
 |.iE k=>.af [T "num",.ab 0,.ab k]
 |.kf s=>.af [T "un",.ab 0,T "#",s.pv]
end
noncomputable def Ih:(aP->X)×(bk->X)×(di->X):=
 (λS U Y Z d e f h l m A B C D E F H I J L P R=>(@aP.rec (λ_=>X) (λ_=>X) (λ_=>X) S U Y Z d e f h l m A B C D E F H I J L P R,@bk.rec (λ_=>X) (λ_=>X) (λ_=>X) S U Y Z d e f h l m A B C D E F H I J L P R,@di.rec (λ_=>X) (λ_=>X) (λ_=>X) S U Y Z d e f h l m A B C D E F H I J L P R))
  (λ_=>1)
  (λ_=>1)
  (λ_ s=>1+s)
  (λ_ _ _ a b=>1+a+b)
  (λ_ _ s=>13+2*s)
  (λ_ _ _ t=>3+t)
  (λ_ _ _ b s=>1+2*b+s)
  (λ_ _ _ c a b=>1+c+a+b)
  (λ_ t=>1+t)
  (λ_ _ _ a b=>1+a+b)
  (λ_ _ _ _ t=>3+t)
  (λ_ _ _ _ t=>3+t)
  (λ_ s=>19+2*s)
  (λ_ _ _ b t=>1+2*b+t)
  (λ_ _ _ i j=>1+i+j)
  (λ_ _ s=>1+s)
  (λ_ _ a b=>1+2*a+b)
  (λ_ _ a b=>1+a+b)
  (λ_ _ i j=>1+i+j)
  (λ_ _ _ i=>3+i)
  (λ_=>1)
  (λ_ s=>1+s)
noncomputable def aP.sz:aP->X:=(Ih).1
noncomputable def bk.sz:bk->X:=(Ih).2.1
noncomputable def di.sz:di->X:=(Ih).2.2
noncomputable def Ii:(aP->(X->W an->Prop))×(bk->(X->W an->Prop))×(di->(X->W an->Prop)):=
 (λS U Y Z d e f h m n A B C D E F H I J L P R=>(@aP.rec (λ_=>(X->W an->Prop)) (λ_=>(X->W an->Prop)) (λ_=>(X->W an->Prop)) S U Y Z d e f h m n A B C D E F H I J L P R,@bk.rec (λ_=>(X->W an->Prop)) (λ_=>(X->W an->Prop)) (λ_=>(X->W an->Prop)) S U Y Z d e f h m n A B C D E F H I J L P R,@di.rec (λ_=>(X->W an->Prop)) (λ_=>(X->W an->Prop)) (λ_=>(X->W an->Prop)) S U Y Z d e f h m n A B C D E F H I J L P R))
  (λ_ l _=>WF)
  (λv l s=>v∈s)
  (λ_ a l s=>a l s)
  (λ_ _ _ a b l s=>a l s∧b l s)
  (λ_ _ a l s=>0<l∧a l s)
  (λv _ _ t l s=>t l (s++[v]))
  (λv _ _ b a l s=>b l s∧a l (s++[v]))
  (λ_ _ _ c a b l s=>c l s∧a l s∧b l s)
  (λ_ t l s=>t l s)
  (λ_ _ _ a b l s=>a l s∧b l s)
  (λ_ v _ _ t l s=>t l (s++[v]))
  (λ_ _ _ _ t l s=>t l (s++[bn,M]))
  (λ_ a l s=>1<l∧a l s)
  (λv _ _ b t l s=>b l s∧t l (s++[v]))
  (λ_ _ _ i j l s=>i l s∧j l s)
  (λ_ _ a l s=>a l s)
  (λ_ _ a b l s=>a l s∧b l s)
  (λ_ _ a b l s=>a l s∧b l s)
  (λ_ _ i j l s=>i l s∧j l s)
  (λv _ _ i l s=>i l (s++[v]))
  (λ_ l _=>WF)
  (λ_ a l s=>a l s)
noncomputable def aP.ok(l:X)(s:W an)(t:aP):Prop:=(Ii).1 t l s
noncomputable def bk.ok(l:X)(s:W an)(t:bk):Prop:=(Ii).2.1 t l s
noncomputable def di.ok(l:X)(s:W an)(t:di):Prop:=(Ii).2.2 t l s
noncomputable def w8(k:i_)(n m:X):an:=match k with
 |.jx=>ci (n=m)
 |.fL=>ci (0<n)
 |.no=>ci (n=0)
 |.l7=>ci (n<2)
 |.ak=>ci (n=1)
@[reducible]noncomputable def g_:=an->At
noncomputable def cL(A:g_)(v:an)(a:At):g_:=λu=>bif u==v then a else A u
noncomputable def dQ.aw(w:Wd):dQ->At
 |.a=>w.a
 |.b=>w.b
 |.fN=>rn .jM w.a w.b
noncomputable def lb(A:an)(D:At):W (al×al):=(fz D λY=>D).filter λq=>!A||!ci (q.1=q.2)
section
variable(w:Wd)(h:At->At)(f:At->an)
noncomputable def Ij:(aP->(Wd->(At->At)->(At->an)->g_->At))×(bk->(Wd->(At->At)->(At->an)->g_->an))×(di->(Wd->(At->At)->(At->an)->g_->al)):=
 (λY Z e l m n r y m8 m9 C D E F H I J L P R S U=>(@aP.rec (λ_=>(Wd->(At->At)->(At->an)->g_->At)) (λ_=>(Wd->(At->At)->(At->an)->g_->an)) (λ_=>(Wd->(At->At)->(At->an)->g_->al)) Y Z e l m n r y m8 m9 C D E F H I J L P R S U,@bk.rec (λ_=>(Wd->(At->At)->(At->an)->g_->At)) (λ_=>(Wd->(At->At)->(At->an)->g_->an)) (λ_=>(Wd->(At->At)->(At->an)->g_->al)) Y Z e l m n r y m8 m9 C D E F H I J L P R S U,@di.rec (λ_=>(Wd->(At->At)->(At->an)->g_->At)) (λ_=>(Wd->(At->At)->(At->an)->g_->an)) (λ_=>(Wd->(At->At)->(At->an)->g_->al)) Y Z e l m n r y m8 m9 C D E F H I J L P R S U))
  (λb w h f _=>bif b then w.b else w.a)
  (λv w h f A=>A v)
  (λ_ s w h f A=>tp w.f (s w h f A))
  (λo _ _ a b w h f A=>rn o (a w h f A) (b w h f A))
  (λ_ _ s w h f A=>h (s w h f A))
  (λv d _ t w h f A=>(d.aw w).filter λa=>t w h f (cL A v [a]))
  (λv _ _ b s w h f A=>s w h f (cL A v (b w h f A)))
  (λ_ _ _ c a b w h f A=>bif c w h f A then a w h f A else b w h f A)
  (λ_ t w h f A=>!t w h f A)
  (λo _ _ a b w h f A=>match o with|.xD=>a w h f A&&b w h f A|.or=>a w h f A||b w h f A|.iC=>b w h f A||!a w h f A|.mm=>a w h f A==b w h f A)
  (λk v d _ t w h f A=>w8 k ((d.aw w).filter λa=>t w h f (cL A v [a])).length (d.aw w).length)
  (λk B d _ t w h f A=>w8 k ((lb B (d.aw w)).filter λq=>t w h f (cL (cL A bn [q.1]) M [q.2])).length (lb B (d.aw w)).length)
  (λ_ s w h f A=>f (s w h f A))
  (λv _ _ b t w h f A=>t w h f (cL A v (b w h f A)))
  (λs _ _ i j w h f A=>match s with|.lt=>ci (i w h f A<j w h f A)|.le=>ci (i w h f A≤j w h f A)|.eq=>ci (i w h f A=j w h f A))
  (λk _ s w h f A=>bS k (s w h f A).length)
  (λ_ _ a b w h f A=>ci (a w h f A=b w h f A))
  (λ_ _ a b w h f A=>(a w h f A).all λx=>ci (x∈b w h f A))
  (λ_ _ i j w h f A=>i w h f A+j w h f A)
  (λv d _ i w h f A=>((d.aw w).map λa=>i w h f (cL A v [a])).sum)
  (λk w h f _=>k)
  (λ_ s w h f A=>(s w h f A).length)
noncomputable def aP.aw(e:aP):g_->At:=(Ij).1 e w h f
noncomputable def bk.aw(e:bk):g_->an:=(Ij).2.1 e w h f
noncomputable def di.aw(e:di):g_->al:=(Ij).2.2 e w h f
end
theorem dQ.ok(A:w.Ok):∀d:dQ,bw (d.aw w)
 |.a=>A.a
 |.b=>A.b
 |.fN=>A.a.pX _
theorem Hk(h:∀v,bw (A v))(B:bw a):∀u,bw (cL A v a u):=λu=>by
 unfold cL
 cases u==v
 ·exact h u
 ·exact B
theorem bw.wN(h:a=0∨a=1∨a=2):bw [a]:=by
 rcases h with rfl|rfl|rfl<;>(unfold bw;decide)
mutual
theorem aP.jH(B:w.Ok)(C:∀a,bw a->bw (D a)):∀(s:aP) (A:g_),(∀v,bw (A v))->bw (s.aw w D E A)
 |.b_ b,A,h=>by cases b;exact B.a;exact B.b
 |.aa v,A,h=>h v
 |.jj s,A,h=>bw.gv _
 |.op o a b,A,h=>by
  cases o with
  |cS=>exact bw.gv _
  |qd=>exact (aP.jH B C a A h).pX _
  |jM=>exact (aP.jH B C a A h).pX _
 |.kg _ s,A,h=>C _ (aP.jH B C s A h)
 |.tq v d t,A,h=>(d.ok B).pX _
 |.jc v b s,A,h=>aP.jH B C s _ (Hk h (aP.jH B C b A h))
 |.aF c a b,A,h=>by
  refine (?_:bw (bif c.aw w D E A then a.aw w D E A else b.aw w D E A))
  cases c.aw w D E A
  ·exact aP.jH B C b A h
  ·exact aP.jH B C a A h
end
set_option genInjectivity false in
set_option genCtorIdx false in
inductive E2(α:Type)where
 |aU
 |x (a:α)
 |y (b:α)
 |xy (a b:α)
 |yx (b a:α)
noncomputable def E2.aj{A:Type}:E2 A->W (PS×A)
 |.aU=>[]
 |.x a=>[(.aA 121,a)]
 |.y b=>[(.aA 122,b)]
 |.xy a b=>[(.aA 121,a),(.aA 122,b)]
 |.yx b a=>[(.aA 122,b),(.aA 121,a)]
noncomputable def E2.aK{A:Type}(e:E2 A)(v:an)(z:A):E2 A:=match e,v with
 |.aU,bn=>.x z
 |.aU,M=>.y z
 |.x _,bn=>.x z
 |.x a,M=>.xy a z
 |.y b,bn=>.yx b z
 |.y _,M=>.y z
 |.xy _ b,bn=>.xy z b
 |.xy a _,M=>.xy a z
 |.yx b _,bn=>.yx b z
 |.yx _ a,M=>.yx z a
noncomputable def E2.jU{A:Type}(e:E2 A)(v:an):im A:=match e,v with
 |.aU,_=>am
 |.x a,bn=>O a
 |.x _,M=>am
 |.y _,bn=>am
 |.y b,M=>O b
 |.xy a _,bn=>O a
 |.xy _ b,M=>O b
 |.yx _ a,bn=>O a
 |.yx b _,M=>O b
theorem E2.uQ{A:Type}(e:E2 A)(v u:an)(z:A):(e.aK v z).jU u=bif u==v then O z else e.jU u:=by
 cases e<;>cases v<;>cases u<;>rfl
noncomputable def E2.ls{A:Type}(f:A->PV)(e:E2 A):W (PS×PV):=e.aj.map λp=>(p.1,f p.2)
@[reducible]noncomputable def E2.pv{A:Type}(f:A->PV)(e:E2 A):PV:=.a8 (e.ls f)
theorem E2.fE{A:Type}(f:A->PV)(e:E2 A)(v:an)(z:A):fE (e.ls f) (nm v) (f z)=(e.aK v z).ls f:=by
 cases e<;>cases v<;>rfl
theorem E2.gk{A:Type}(f:A->PV)(e:E2 A)(v:an):gk (e.ls f) (nm v)=(e.jU v).map f:=by
 cases e<;>cases v<;>rfl
theorem E2.sf{A:Type}(f:A->PV)(e:E2 A)(v:an)(z:A):oQ q8 [.aj (((e.ls f).map λp=>PV.af [.ae p.1,p.2])++[PV.af [.ae (nm v),f z]])]=O ((e.aK v z).pv f):=by
 cases e<;>cases v<;>rfl
theorem E2.sk{A:Type}(f:A->PV)(e:E2 A)(p:PV):ko .Add (.aj ((e.ls f).map λp=>PV.af [.ae p.1,p.2])) (.aj [p])=O (.aj (((e.ls f).map λp=>PV.af [.ae p.1,p.2])++[p])):=by
 cases e<;>rfl
theorem E2.pY{C:Type}(f:C->PV)(e:E2 C)(c:X)(D:c≠121)(E:c≠122):Internal.gk (e.ls f) (.aA c)=am:=by
 have A:¬PS.aA 121=PS.aA c:=λq=>D (PS.aA.inj q).symm
 have B:¬PS.aA 122=PS.aA c:=λq=>E (PS.aA.inj q).symm
 cases e
 ·rfl
 ·exact cF A
 ·exact cF B
 ·exact (cF A).trans (cF B)
 ·exact (cF B).trans (cF A)
noncomputable def E2.fn(e:E2 At):g_:=λv=>(e.jU v).getD []
theorem E2.rf(e:E2 At)(v:an)(a:At):(e.aK v a).fn=cL e.fn v a:=by
 funext u
 unfold E2.fn cL
 refine eR (E2.uQ ..) ?_
 cases u==v<;>rfl
noncomputable def d8(w:Wd)(A:an)(B:bk)(C:aP):PV:=.a8 [(.aA 66,uv w.a),(.aA 67,uv w.b),(.aA 103,oZ w.f),(.aA 113,.af [.ae (nm A),B.pv]),(.aA 104,.af [T "y",C.pv])]
section
variable{j:bA}{i:ai}{w:Wd}{l:an}{r:bk}{o:aP}{Q:PV->ai->Prop}{n:X}{e:E2 At}
@[reducible]noncomputable def c9(j:bA)(n:X)(i:ai)(a:PV)(s:PV)(e:E2 At)(v:PV):Prop:=∀K:PV->ai->Prop,K v i->aR j n 657 [s,e.pv uv,a] i K
theorem yV(b:an)(h:Q (uv (bif b then w.b else w.a)) i):aR j (n+1) 657 [(aP.b_ b).pv,e.pv uv,d8 w l r o] i Q:=by
 cases b<;>cases e<;>(conv=>whnf)<;>exact h
theorem abo(A:e.jU v=O a)(h:Q (uv a) i):aR j (n+1) 657 [(aP.aa v).pv,e.pv uv,b] i Q:=by
 cases e<;>cases v<;>first|(cases A;done)|(cases A;(conv=>whnf);exact h)
theorem ad4(h:Q (oZ w.f) i):aR j (n+1) 657 [jv,e.pv uv,d8 w l r o] i Q:=by
 cases e<;>(conv=>whnf)<;>exact h
theorem wB(h:aR j n 652 [.af [T "bin",.ab 0,A,a,b],e.pv uv,c] i Q):aR j (n+1) 657 [.af [T "bin",.ab 0,A,a,b],e.pv uv,c] i Q:=λY=>h
theorem acW(D:w.Ok)(E:bw x)(B:c9 j (n+1) i (d8 w l r o) s e (uv x))(h:Q (uv (tp w.f x)) i):aR j (n+2) 652 [.af [T "bin",.ab 0,T ".",s,jv],e.pv uv,d8 w l r o] i Q:=by
 have A:aR j (n+1) 623 [uv x,oZ w.f] i Q:=LO E D.f h
 have C:c9 j (n+1) i (d8 w l r o) jv e (oZ w.f):=λK F=>ad4 F
 revert A C B
 generalize d8 w l r o=a
 refine (?_:_->_->_->aR j ((n+1)+1) 652 _ i Q)
 generalize n+1=m
 exact λB A C Y=>B _ λY=>C _ λY=>A
theorem abp(A:w.Ok)(B:bw x)(C:c9 j (n+1) i (d8 w l r o) s.pv e (uv x))(h:Q (uv (tp w.f x)) i):aR j (n+3) 657 [(aP.jj s).pv,e.pv uv,d8 w l r o] i Q:=
 wB (acW A B C h)
theorem ad5(B:gE)(E:bw x)(F:bw y)(C:c9 j (n+1) i c a e (uv x))(D:c9 j (n+1) i c b e (uv y))(h:Q (uv (rn B x y)) i):aR j (n+2) 652 [.af [T "bin",.ab 0,B.jw,a,b],e.pv uv,c] i Q:=by
 have A:aR j (n+1) 628 [B.jw,uv x,uv y] i Q:=NZ B E F h
 revert A C D
 refine (?_:_->_->_->aR j ((n+1)+1) 652 _ i Q)
 generalize n+1=m
 intro C D A
 cases B<;>
 ·exact λY=>C _ λY=>D _ λY=>A
theorem OG(A:gE)(B:bw x)(C:bw y)(D:c9 j (n+1) i c a.pv e (uv x))(E:c9 j (n+1) i c b.pv e (uv y))(h:Q (uv (rn A x y)) i):aR j (n+3) 657 [(aP.op A a b).pv,e.pv uv,c] i Q:=
 wB (ad5 A B C D E h)
theorem BX(B:w.Ok)(d:dQ)(h:Q (uv (d.aw w)) i):aR j (n+4) 657 [d.pv,e.pv uv,d8 w l r o] i Q:=by
 cases d with
 |a=>exact yV (e:=e) bn h
 |b=>exact yV (e:=e) M h
 |fN=>exact OG (n:=n+1) .jM (a:=.b_ bn) (b:=.b_ M) B.a B.b (λK A=>yV bn A) (λK A=>yV M A) h
theorem TY(B:c9 j n i (d8 w l r o) s.pv e (uv x))(A:c9 j n i (d8 w l r o) o.pv (.y x) v)(h:Q v i):aR j (n+2) 657 [(aP.kg bn s).pv,e.pv uv,d8 w l r o] i Q:=by
 refine λY Y=>B _ ?_
 conv=>(whnf;try dsimp only)
 exact λY=>A _ h
theorem TZ(B:c9 j n i (d8 w l r o) s.pv e (uv x))(A:c9 j n i (d8 w l r o) o.pv (.y x) v)(h:Q v i):aR j (n+3) 657 [(aP.kg M s).pv,e.pv uv,d8 w l r o] i Q:=by
 refine λY Y Y=>B _ ?_
 conv=>(whnf;try dsimp only)
 exact λY=>A _ h
theorem Wl(B:c9 j n i (d8 w l r o) s.pv e (uv x))(A:c9 j n i (d8 w l r o) r.pv (E2.aU.aK l x) v)(h:Q v i):aR j (n+2) 657 [(bk.tr s).pv,e.pv uv,d8 w l r o] i Q:=by
 cases l<;>
 ·refine λY Y=>B _ ?_
  conv=>(whnf;try dsimp only)
  exact λY=>A _ h
theorem abq(B:c9 j n i d c e (.aJ A))(C:A=M->c9 j n i d a e v)(D:A=bn->c9 j n i d b e v)(h:Q v i):aR j (n+1) 657 [.af [T "if",.ab 0,c,a,b],e.pv uv,d] i Q:=by
 refine λY=>B _ ?_
 cases A
 ·exact λY=>D N _ h
 ·exact λY=>C N _ h
theorem N2(A:c9 j n i a b e (uv x))(B:c9 j n i a s (e.aK v x) u)(h:Q u i):aR j (n+1) 657 [.af [T "let",.ab 0,.ae (nm v),b,s],e.pv uv,a] i Q:=by
 refine λY=>A _ ?_
 conv=>(whnf;try dsimp only)
 refine eR (E2.sk ..) ?_
 conv=>(whnf;try dsimp only)
 exact eR (E2.sf ..) (λY=>B _ h)
theorem Gp(C:bw D)(E:c9 j n i b d e (uv D))(h:Q (.aj (D.map λa=>(e.aK v [a]).pv uv)) i):aR j (n+1) 640 [.af [.ab 0,.aJ bn,.af [.ae (nm v)],T "",d],e.pv uv,b] i Q:=by
 refine λY=>E _ ?_
 refine eR (k_ ..) (sb (f:=λa=>rv (ak a)) (g:=λa=>[(e.aK v [a]).pv uv]) (λa F A R B=>?_) ?_)
 ·conv=>(whnf;try dsimp only)
  refine eR (E2.sk ..) ?_
  conv=>(whnf;try dsimp only)
  exact eR (show PV.aj [rv (ak a)]=uv [a] from N ..) (eR (E2.sf ..) ⟨(λh=>nomatch h),B⟩)
 ·refine eR (kI ..) ⟨?_,?_⟩
  ·exact eR (qX ..) (eR (sw ..) (io C.bO (by decide)))
  ·refine iW (f:=λa=>(e.aK v [a]).pv uv) (λa=>[(e.aK v [a]).pv uv]) (λa F A R B=>?_) ?_
   ·exact ⟨(λh=>nomatch h),B⟩
   ·refine eR (kI ..) ⟨?_,?_⟩
    ·exact eR (sw ..) (io C.bO (by decide))
    ·exact h
theorem OH{A:Type}(f:A->PV)(e:E2 A)(v:an)(a:A):eN ((e.aK v a).pv f) (.ae (nm v))=O (f a):=by
 cases e<;>cases v<;>rfl
theorem ad6(e:E2 At)(a b:At):eN (((e.aK bn a).aK M b).pv uv) (.ae (.aA 121))=O (uv a):=by
 cases e<;>rfl
theorem ad7(e:E2 At)(a b:At):eN (((e.aK bn a).aK M b).pv uv) (.ae (.aA 122))=O (uv b):=by
 cases e<;>rfl
theorem abr(F:bw D)(H:c9 j n i m d e (uv D))(h:Q (.aj ((lb A D).map λq=>((e.aK bn [q.1]).aK M [q.2]).pv uv)) i):aR j (n+1) 640 [.af [.ab 0,.aJ A,.af [T "x",T "y"],T "",d],e.pv uv,m] i Q:=by
 have B:=Be (B:=λY=>D) F (λY Y=>F)
 refine λY=>H _ ?_
 refine eR (k_ ..) (sb (f:=λa=>rv (ak a)) (g:=λa=>[(e.aK bn [a]).pv uv]) (λa I E R C=>?_) ?_)
 ·conv=>(whnf;try dsimp only)
  refine eR (E2.sk ..) ?_
  conv=>(whnf;try dsimp only)
  exact eR (show PV.aj [rv (ak a)]=uv [a] from N ..) (eR (show T "x" =PV.ae (nm bn) from N ..) (eR (E2.sf ..) ⟨(λh=>nomatch h),C⟩))
 ·refine eR (kI ..) ⟨?_,?_⟩
  ·exact eR (qX ..) (eR (sw ..) (io F.bO (by decide)))
  ·refine iW (f:=λa=>(e.aK bn [a]).pv uv) (λa=>D.map λb=>((e.aK bn [a]).aK M [b]).pv uv) (λa I E R C=>?_) ?_
   ·refine sb (f:=λa=>rv (ak a)) (g:=λb=>[((e.aK bn [a]).aK M [b]).pv uv]) (λb P E R C=>?_) ?_
    ·conv=>(whnf;try dsimp only)
     refine eR (E2.sk ..) ?_
     conv=>(whnf;try dsimp only)
     exact eR (show PV.aj [rv (ak b)]=uv [b] from N ..) (eR (show T "y" =PV.ae (nm M) from N ..) (eR (E2.sf ..) ⟨(λh=>nomatch h),C⟩))
    ·exact eR (kI ..) C
   ·have J:(D.flatMap λa=>D.map λb=>((e.aK bn [a]).aK M [b]).pv uv)=(fz D λY=>D).map λq=>((e.aK bn [q.1]).aK M [q.2]).pv uv:=by
     unfold fz
     refine FU▸?_
     congr 1
     funext a
     rw [mL];rfl
    refine J▸?_
    unfold lb at h
    revert B h
    generalize (fz D λY=>D)=L
    refine λh B=>⟨?_,?_⟩
    ·exact eR (sw ..) (io B (by decide))
    ·refine iW (f:=λq:al×al=>((e.aK bn [q.1]).aK M [q.2]).pv uv) (λq=>kU (!A||!ci (q.1=q.2)) (((e.aK bn [q.1]).aK M [q.2]).pv uv)) (λq S E R C=>?_) ?_
     ·revert C
      cases A
      ·exact λC=>⟨(λh=>nomatch h),C⟩
      ·intro C
       conv=>(whnf;try dsimp only)
       refine eR (ad6 ..) ?_
       conv=>(whnf;try dsimp only)
       refine eR (ad7 ..) ?_
       conv=>whnf
       refine (show((λx=>!x) (ci ((λx=>ia.ab q.1::x) []=(λx=>ia.ab q.2::x) [])&&M))=!ci (q.1=q.2) from by
        refine (?_:(!(ci ([ia.ab q.1]=[ia.ab q.2])&&M))=_)
        by_cases h:q.1=q.2<;>simp [h])▸?_
       revert C
       generalize ci (q.1=q.2)=c
       intro C
       cases c
       ·exact ⟨(λh=>nomatch h),C⟩
       ·exact (SZ E▸(show R (E++[]) i from C))
     ·refine eR (vV (λq:al×al=>!A||!ci (q.1=q.2)) (λq=>((e.aK bn [q.1]).aK M [q.2]).pv uv) ..) ⟨?_,?_⟩
      ·exact eR (sw ..) (io (pQ ..) (io B (by decide)))
      ·exact h
end
section
variable{A:bA}{r:ai}{w:Wd}{Q:PV->ai->Prop}{n:X}{e:E2 At}{B:PV}
theorem Wm:∀l:At,j0 (l.map λa=>rv (ak a))=O (l.map ak):=λl=>cB l N λa l C=>by
  refine (?_:o2 (zv (rv (ak a))) (j0 (l.map λa=>rv (ak a))) (λa b=>a::b)=_)
  rw [C];rfl
theorem XJ:∀{l:Rw},l.Nodup->Cb l=M:=λ{l}=>cB l (λY=>N) λa l D h=>by
  have C:=uj.mp h
  refine (?_:(!ci (a∈l)&&Cb l)=M)
  rw [EQ C.1,D C.2];rfl
theorem bw.Vn(h:bw l):(l.map ak).Pairwise (λx y=>dZ x y=M):=by
 rw [Nq]
 exact (El h).imp λ{x y} C=>by
  refine (?_:dZ [x] [y]=M)
  exact eR (sd ..) (eR (jp C ..) N)
theorem XK(h:bw l):oQ uH [.aj (l.map λa=>rv (ak a))]=O (uv l):=by
 have D:=h.Vn
 have E:=Gn D
 have H:ta (l.map ak)=M:=by
  unfold ta
  rw [XJ E,qY (by rw [sw];exact io h.bO (by decide)),Bs,Bs,Do]
  refine λz I=>aQ (No.mp I) λa J C=>?_
  subst C
  rcases h.ee J with rfl|rfl|rfl<;>rfl
 refine (?_:(j0 (l.map λa=>rv (ak a))).bind (λF=>gd (ta F) (O (PV.aj (dE (fb F)))))=_)
 refine eR (Wm ..) (?_:gd (ta (l.map ak)) (O (PV.aj (dE (fb (l.map ak)))))=_)
 refine eR (H ..) (?_:O (PV.aj (dE (fb (l.map ak))))=_)
 have:=LR D
 rw [Lf (by simpa using E),qX]at this
 exact eR this N
theorem Wn(F:bw D)(J:c9 A n r B d e (uv D))(H:∀a∈D,c9 A (n+1) r B t (e.aK v [a]) (.aJ (p a)))(h:Q (uv (D.filter p)) r):aR A (n+2) 657 [.af [T "compr",.ab 0,.af [.af [.ab 0,.aJ bn,.af [.ae (nm v)],T "",d]],t],e.pv uv,B] r Q:=by
 have I:∀K:PV->ai->Prop,K (.aj (D.map λa=>(e.aK v [a]).pv uv)) r->aR A (n+1) 640 [.af [.ab 0,.aJ bn,.af [.ae (nm v)],T "",d],e.pv uv,B] r K:=λK=>Gp F J
 revert I H
 refine (?_:_->_->aR A ((n+1)+1) 657 _ r Q)
 generalize n+1=m
 refine λH I Y=>I _ ?_
 refine iW (f:=λa=>(e.aK v [a]).pv uv) (λa=>kU (p a) (rv (ak a))) (λa L C R E=>?_) ?_
 ·refine λY=>H a L _ ?_
  revert E
  generalize p a=c
  intro E
  cases c
  ·exact (SZ C▸(show R (C++[]) r from E))
  ·conv=>(whnf;try dsimp only)
   first
    |rw [(OH uv e v [a])]
    |rw [show eN ((e.put v [a]).pv uv) (.str (nm v))=some (uv [a]) from OH uv e v [a]]
   exact ⟨(λh=>nomatch h),E⟩
 ·refine eR (vV p (λa=>rv (ak a)) ..) ⟨eR (sw ..) (io (io (pQ ..) F.bO) (by decide)),?_⟩
  conv=>(whnf;try dsimp only)
  exact eR (XK (F.pX p)) h
theorem XM(k:i_){a b:X}(h:Q (.aJ (w8 k a b)) r):aR A (n+1) 635 [k.pv,.ab (a:al),.ab (b:al)] r Q:=by
 cases k
 ·conv=>(whnf;try dsimp only)
  exact eR (show ci ((a:al)=(b:al))=ci (a=b) from lM.mpr wu) h
 ·conv=>(whnf;try dsimp only)
  exact eR (show ci ((0:al)<(a:al))=ci (0<a) from lM.mpr (pD (n:=0))) h
 ·conv=>(whnf;try dsimp only)
  exact eR (show ci ((a:al)=0)=ci (a=0) from lM.mpr (wu (n:=0))) h
 ·conv=>(whnf;try dsimp only)
  exact eR (show ci ((a:al)<2)=ci (a<2) from lM.mpr (pD (m:=2))) h
 ·conv=>(whnf;try dsimp only)
  exact eR (show ci ((a:al)=1)=ci (a=1) from lM.mpr (wu (n:=1))) h
theorem LV{D:Type}{k:i_}{I t:PV}{L:W D}{E:D->E2 At}{p:D->an}(J:L.length≤1000)(F:∀K:PV->ai->Prop,K (.aj (L.map λa=>(E a).pv uv)) r->aR A (n+1) 640 [I,e.pv uv,B] r K)
  (H:∀a∈L,c9 A (n+1) r B t (E a) (.aJ (p a))) (h:Q (.aJ (w8 k (L.filter p).length L.length)) r):aR A (n+2) 657 [.af [T "quant",.ab 0,k.pv,.af [I],t],e.pv uv,B] r Q:=by
 have C:aR A (n+1) 635 [k.pv,.ab (n5 (L.filter p).length),.ab (L.map λa=>PV.aJ (p a)).length] r Q:=eR (sw ..) (XM k h)
 revert F H C
 refine (?_:_->_->_->aR A ((n+1)+1) 657 _ r Q)
 generalize n+1=m
 intro F H C
 cases k<;>
 ·refine λY=>F _ ?_
  refine iW (f:=λa=>(E a).pv uv) (λa=>[.aJ (p a)]) (λa P S R U=>?_) ?_
  ·exact λY=>H a P _ ⟨(λh=>nomatch h),U⟩
  ·refine eR (kI ..) ⟨by rw [sw];exact io J (by decide),?_⟩
   conv=>(whnf;try dsimp only)
   exact eR (Ld ..) (λY=>C)
theorem abt(F:bw D)(H:c9 A n r B d e (uv D))(C:∀a∈D,c9 A (n+1) r B t (e.aK v [a]) (.ab (p a)))(h:Q (.ab (D.map p).sum) r):aR A (n+2) 657 [.af [T "quant",.ab 0,T "sum",.af [.af [.ab 0,.aJ bn,.af [.ae (nm v)],T "",d]],t],e.pv uv,B] r Q:=by
 have E:∀K:PV->ai->Prop,K (.aj (D.map λa=>(e.aK v [a]).pv uv)) r->aR A (n+1) 640 [.af [.ab 0,.aJ bn,.af [.ae (nm v)],T "",d],e.pv uv,B] r K:=λK=>Gp F H
 revert E C
 refine (?_:_->_->aR A ((n+1)+1) 657 _ r Q)
 generalize n+1=m
 refine λC E Y=>E _ ?_
 refine iW (f:=λa=>(e.aK v [a]).pv uv) (λa=>[.ab (p a)]) (λa I J R L=>?_) ?_
 ·exact λY=>C a I _ ⟨(λh=>nomatch h),L⟩
 ·refine eR (kI ..) ⟨by rw [sw];exact io F.bO (by decide),?_⟩
  conv=>(whnf;try dsimp only)
  exact eR (Gm ..) h
theorem abu(C:c9 A n r B t e (.aJ c))(h:Q (.aJ (!c)) r):aR A (n+1) 657 [.af [T "un",.ab 0,T "!",t],e.pv uv,B] r Q:=λY=>C _ h
theorem Wo(C:c9 A n r B t e (uv x))(h:Q (.ab x.length) r):aR A (n+1) 657 [.af [T "un",.ab 0,T "#",t],e.pv uv,B] r Q:=by
 refine λY=>C _ ?_
 conv=>(whnf;try dsimp only)
 have e:(((dE (x.map ak)).length:X):al)=(x.length:al):=by rw [pB];simp
 rw [←e]at h
 exact h
theorem ad8{x:At}(h:aR A n 635 [k,.ab x.length,.ab (-1)] r Q):aR A n 635 [k,.ab ((dE (x.map ak)).length:X),.ab (-1)] r Q:=eR (show(((dE (x.map ak)).length:X):al)=(x.length:al) from by rw [pB];simp) h
theorem Wq{k:lX}{x:At}(D:c9 A n r B t e (uv x))(C:aR A n 635 [k.pv,.ab ((dE (x.map ak)).length:X),.ab (-1)] r Q):aR A (n+1) 657 [.af [T "un",.ab 0,k.pv,t],e.pv uv,B] r Q:=by
 cases k
 ·exact λY=>D _ λY=>C
 ·exact λY=>D _ λY=>C
 ·exact λY=>D _ λY=>C
 ·exact λY=>D _ λY=>C
theorem XN(C:c9 A (n+1) r B t e (uv x))(h:Q (.aJ (bS k x.length)) r):aR A (n+2) 657 [.af [T "un",.ab 0,k.pv,t],e.pv uv,B] r Q:=
 Wq C (ad8 (B9 k h))
theorem XO(C:c9 A n r B i e (.ab x))(D:c9 A n r B j e (.ab y))(h:Q (.ab (x+y)) r):aR A (n+1) 657 [.af [T "box",.ab 0,pS,.af [i,j]],e.pv uv,B] r Q:=λY=>C _ λY=>D _ h
theorem abv(h:Q (.ab i) r):aR A (n+1) 657 [.af [T "num",.ab 0,.ab i],e.pv uv,B] r Q:=h
theorem acX{o:oH}{c d:an}(C:c9 A n r B a e (.aJ c))(D:c9 A n r B b e (.aJ d))(h:Q (.aJ (match o with|.xD=>c&&d|.or=>c||d|.iC=>d||!c|.mm=>c==d)) r):aR A (n+1) 652 [.af [T "bin",.ab 0,o.pv,a,b],e.pv uv,B] r Q:=by
 cases o<;>
 ·refine λY=>C _ λY=>D _ ?_
  cases c<;>(conv=>whnf)<;>(try exact h)<;>(cases d<;>exact h)
theorem acY{s:l8}{x y:al}(E:c9 A n r B a e (.ab x))(F:c9 A n r B b e (.ab y))(h:Q (.aJ (match s with|.lt=>ci (x<y)|.le=>ci (x≤y)|.eq=>ci (x=y))) r):aR A (n+1) 652 [.af [T "bin",.ab 0,s.pv,a,b],e.pv uv,B] r Q:=by
 cases s
 ·refine λY=>E _ λY=>F _ ?_
  conv=>(whnf;try dsimp only)
  revert h
  refine (?_:Q (.aJ (ci (x<y))) r->_)
  generalize ci (x<y)=c
  intro h
  cases c<;>(conv=>whnf)<;>exact h
 ·refine λY=>E _ λY=>F _ ?_
  conv=>(whnf;try dsimp only)
  have H:ci (x≤y)=(ci (x<y)||decide (x=y)):=by
   by_cases C:x<y
   ·rw [FB C,FB (ME C)];rfl
   ·by_cases D:x=y
    ·rw [FB D,FB (EV D),ZD]
    ·rw [EQ C,EQ D,EQ λh=>C (YD.mpr ⟨h,D⟩)];rfl
  replace h:Q (.aJ (ci (x<y)||decide (x=y))) r:=H▸h
  revert h
  generalize ci (x<y)=c
  intro h
  cases c<;>(conv=>whnf)<;>exact h
 ·exact λY=>E _ λY=>F _ h
theorem abw(C:c9 A n r B a e (uv x))(D:c9 A n r B b e (uv y))(h:Q (.aJ (ci (x=y))) r):aR A (n+1) 652 [.af [T "bin",.ab 0,T "=",a,b],e.pv uv,B] r Q:=by
 refine λY=>C _ λY=>D _ ?_
 conv=>(whnf;try dsimp only)
 exact eR (KA ..) h
theorem ad9(E:bw x)(F:c9 A n r B a e (uv x))(I:c9 A n r B b e (uv y))(h:Q (.aJ (x.all λz=>ci (z∈y))) r):aR A (n+1) 652 [.af [T "bin",.ab 0,T "in",a,b],e.pv uv,B] r Q:=by
 refine λY=>F _ λY=>I _ ?_
 refine eR (k_ x ..) (iW (f:=λz=>rv (ak z)) (λz=>kU (!ci (z∈y)) (rv (ak z))) (λz L C R D=>?_) ?_)
 ·conv=>(whnf;try dsimp only)
  refine eR (N1 ..) ?_
  revert D
  generalize ci (z∈y)=c
  intro D
  cases c
  ·exact ⟨(λh=>nomatch h),D⟩
  ·exact (SZ C▸(show R (C++[]) r from D))
 ·refine eR (vV (λz=>!ci (z∈y)) (λz=>rv (ak z)) ..) ⟨?_,?_⟩
  ·exact eR (sw ..) (io (pQ ..) (io E.bO (by decide)))
  ·have e:(x.all λz=>ci (z∈y))=(x.filter λz=>!ci (z∈y)).isEmpty:=by
    clear h E F
    induction x with
    |nil=>rfl
    |cons a x J=>
     refine eR pJ (eR sR (eR J ?_))
     cases ci (a∈y)<;>rfl
   rw [e]at h
   cases H:x.filter λz=>!ci (z∈y)with
   |nil=>
    rw [H]at h
    exact h
   |cons z l=>
    rw [H]at h
    exact h
end
@[reducible]noncomputable def qg{A:Type}(B:W an)(e:E2 A):Prop:=∀v∈B,(e.jU v).isSome=M
theorem qg.aK{B:Type}{C:W an}{e:E2 B}(h:qg C e)(v:an)(a:B):qg (C++[v]) (e.aK v a):=λu A=>by
 refine eR (E2.uQ ..) ?_
 cases D:u==v
 ·rcases pI.mp A with A|A
  ·exact h u A
  ·rw [IR]at A
   subst A
   rw [ZG]at D
   cases D
 ·rfl
theorem qg.CY{A:Type}{B:W an}{e:E2 A}(h:qg B e)(a b:A):qg (B++[bn,M]) ((e.aK bn a).aK M b):=by
 have:=(h.aK bn a).aK M b
 rwa [qU]at this
theorem t9{e:E2 At}(h:∀v,bw (e.fn v)){v:an}{a:At}(A:bw a):∀u,bw ((e.aK v a).fn u):=eR (E2.rf ..) (Hk h A)
section
variable{E:bA}{C:ai}{w:Wd}(f:w.Ok){A:an}{D:bk}{B:aP}{r:At->At}{h:At->an}{l F:X}
 (H:0<l->∀n,F≤n->∀x,bw x->c9 E n C (d8 w A D B) B.pv (.y x) (uv (r x)))
 (I:1<l->∀n,F≤n->∀x,bw x->c9 E n C (d8 w A D B) D.pv (E2.aU.aK A x) (.aJ (h x)))
 (y:∀a,bw a->bw (r a))
include f H I y
mutual
theorem aP.bZ:∀(s:aP) (S:W an) (n:X) (e:E2 At),s.ok l S->qg S e->(∀v,bw (e.fn v))->4*s.sz+F≤n->c9 E n C (d8 w A D B) s.pv e (uv (s.aw w r h e.fn))
 |.b_ b,S,n,e,P,U,L,J=>λK R=>by
  obtain ⟨m,rfl⟩:∃m,n=m+1:=⟨n-1,(lm (L2 0x9979321c09f2 N J)).symm⟩
  exact yV b (R)
 |.aa v,S,n,e,P,U,L,J=>λK R=>by
  obtain ⟨m,rfl⟩:∃m,n=m+1:=⟨n-1,(lm (L2 0x9979321c09f2 N J)).symm⟩
  obtain ⟨a,Y⟩:=Bz.mp (U v P)
  refine abo Y ?_
  have:e.fn v=a:=by unfold E2.fn;rw [Y];rfl
  have R:K (uv (e.fn v)) C:=R
  rw [this]at R
  exact R
 |.jj s,S,n,e,P,U,L,J=>λK R=>by
  obtain ⟨m,rfl⟩:∃m,n=m+3:=⟨n-3,(lm (L3 0x26a24d07220e1f2 N J)).symm⟩
  exact abp f (aP.jH f y s _ L) (aP.bZ s S (m+1) e P U L (L3 0x205fa0e45891031d07220e1f2 N J)) (R)
 |.op o a b,S,n,e,P,U,L,J=>λK R=>by
  obtain ⟨m,rfl⟩:∃m,n=m+3:=⟨n-3,(lm (L4 0x9b89361d08390e1f2 N J)).symm⟩
  exact OG o (aP.jH f y a _ L) (aP.jH f y b _ L) (aP.bZ a S (m+1) e P.1 U L (L4 0x817ec3a162440c761d08390e1f2 N J)) (aP.bZ b S (m+1) e P.2 U L (L4 0x817ec3a166440c761d08390e1f2 N J)) (R)
 |.kg Z s,S,n,e,P,U,L,J=>λK R=>by
  have j:=aP.jH (E:=h) f y s _ L
  cases Z with
  |false=>
   obtain ⟨m,rfl⟩:∃m,n=m+2:=⟨n-2,(lm (L3 0x26a04d072208b101c5f2 N J)).symm⟩
   exact TY (aP.bZ s S m e P.2 U L (L3 0x9a0e45891030d072208b101c5f2 N J)) (H P.1 m (L3 0x9ac9030d072208b101c5f2 N J) _ j) (R)
  |true=>
   obtain ⟨m,rfl⟩:∃m,n=m+3:=⟨n-3,(lm (L3 0x26a24d072208b101c5f2 N J)).symm⟩
   exact TZ (aP.bZ s S m e P.2 U L (L3 0x9a0e45891031d072208b101c5f2 N J)) (H P.1 m (L3 0x9ac9031d072208b101c5f2 N J) _ j) (R)
 |.tq v d t,S,n,e,P,U,L,J=>λK R=>by
  obtain ⟨m,rfl⟩:∃m,n=m+6:=⟨n-6,(lm (L3 0x26a84d07220e232 N J)).symm⟩
  refine Wn (p:=λa=>t.aw w r h (cL e.fn v [a])) (d.ok f) (λK R=>BX f d R) (λa Y=>?_) (R)
  exact eL (E2.rf ..) (bk.bZ t _ (m+5) _ P (U.aK v [a]) (t9 L (bw.wN ((d.ok f).ee Y))) (L3 0x2067a0e45891034d07220e232 N J))
 |.jc v b s,S,n,e,P,U,L,J=>λK R=>by
  obtain ⟨m,rfl⟩:∃m,n=m+1:=⟨n-1,(lm (L4 0x26de4d87420e422c41f2 N J)).symm⟩
  exact N2 (aP.bZ b S m e P.1 U L (L4 0x9b0e8589102fd87420e422c41f2 N J)) (aP.bZ s _ m _ P.2 (U.aK v _) (t9 L (aP.jH (E:=h) f y b _ L)) (L4 0x9b0e8599102fd87420e422c41f2 N J)) (eR (E2.rf ..) R)
 |.aF c a b,S,n,e,P,U,L,J=>λK R=>by
  obtain ⟨m,rfl⟩:∃m,n=m+1:=⟨n-1,(lm (L5 0x271e4e07620e8390e1f2 N J)).symm⟩
  refine abq (A:=c.aw w r h e.fn) (v:=uv ((aP.aF c a b).aw w r h e.fn)) (bk.bZ c S m e P.1 U L (L5 0x9c0ec589102fe07620e8390e1f2 N J)) (λq=>?_) (λq=>?_) R
  ·have:(aP.aF c a b).aw w r h e.fn=a.aw w r h e.fn:=lc (λz=>bif z then a.aw w r h e.fn else b.aw w r h e.fn) q
   exact eR this (aP.bZ a S m e P.2.1 U L (L5 0x9c0ec599102fe07620e8390e1f2 N J))
  ·have:(aP.aF c a b).aw w r h e.fn=b.aw w r h e.fn:=lc (λz=>bif z then a.aw w r h e.fn else b.aw w r h e.fn) q
   exact eR this (aP.bZ b S m e P.2.2 U L (L5 0x9c0ec5a9102fe07620e8390e1f2 N J))
theorem bk.bZ:∀(t:bk) (S:W an) (n:X) (e:E2 At),t.ok l S->qg S e->(∀v,bw (e.fn v))->4*t.sz+F≤n->c9 E n C (d8 w A D B) t.pv e (.aJ (t.aw w r h e.fn))
 |.d3 t,S,n,e,R,U,P,J=>λK Z=>by
  obtain ⟨m,rfl⟩:∃m,n=m+1:=⟨n-1,(lm (L3 0x269e4d07220e1f2 N J)).symm⟩
  exact abu (bk.bZ t S m e R U P (L3 0x9a0e4589102fd07220e1f2 N J)) (Z)
 |.jV o a b,S,n,e,R,U,P,J=>λK Z=>by
  obtain ⟨m,rfl⟩:∃m,n=m+2:=⟨n-2,(lm (L4 0x9b81361d08390e1f2 N J)).symm⟩
  refine wB (acX (bk.bZ a S m e R.1 U P (L4 0x26c3a162440c361d08390e1f2 N J)) (bk.bZ b S m e R.2 U P (L4 0x26c3a166440c361d08390e1f2 N J)) ?_)
  cases o<;>exact Z
 |.h_ k v d t,S,n,e,R,U,P,J=>λK Z=>by
  obtain ⟨m,rfl⟩:∃m,n=m+6:=⟨n-6,(lm (L3 0x26a84d07220e232 N J)).symm⟩
  refine LV (L:=d.aw w) (E:=λa=>e.aK v [a]) (p:=λa=>t.aw w r h (cL e.fn v [a])) (io (d.ok f).bO (by decide)) (λK=>Gp (d.ok f) λK Z=>BX f d Z) (λa ha=>?_) (Z)
  exact eL (E2.rf ..) (bk.bZ t _ (m+5) _ R (U.aK v [a]) (t9 P (bw.wN ((d.ok f).ee ha))) (L3 0x2067a0e45891034d07220e232 N J))
 |.iL k disj d t,S,n,e,R,U,P,J=>λK Z=>by
  obtain ⟨m,rfl⟩:∃m,n=m+6:=⟨n-6,(lm (L3 0x26a84d07220e232 N J)).symm⟩
  refine LV (L:=lb disj (d.aw w)) (E:=λq=>(e.aK bn [q.1]).aK M [q.2]) (p:=λq=>t.aw w r h (cL (cL e.fn bn [q.1]) M [q.2])) (io (pQ ..) (io (Be (d.ok f) (λY Y=>d.ok f)) (by decide))) (λK=>abr (d.ok f) λK Z=>BX f d Z) (λq hq=>?_) (Z)
  have h1:=EI (yP.mp hq).1
  exact eL (E2.rf ..) (eL (E2.rf ..) (bk.bZ t _ (m+5) _ R (U.CY _ _) (t9 (t9 P (bw.wN ((d.ok f).ee h1.1))) (bw.wN ((d.ok f).ee h1.2))) (L3 0x2067a0e45891034d07220e232 N J)))
 |.tr s,S,n,e,R,U,P,J=>λK Z=>by
  obtain ⟨m,rfl⟩:∃m,n=m+2:=⟨n-2,(lm (L3 0x26a04d072208b101ddf2 N J)).symm⟩
  exact Wl (aP.bZ s S m e R.2 U P (L3 0x9a0e45891030d072208b101ddf2 N J)) (I R.1 m (L3 0x9ac9030d072208b101ddf2 N J) _ (aP.jH (E:=h) f y s _ P)) (Z)
 |.jc v b t,S,n,e,R,U,P,J=>λK Z=>by
  obtain ⟨m,rfl⟩:∃m,n=m+1:=⟨n-1,(lm (L4 0x26de4d87420e422c41f2 N J)).symm⟩
  exact N2 (aP.bZ b S m e R.1 U P (L4 0x9b0e8589102fd87420e422c41f2 N J)) (bk.bZ t _ m _ R.2 (U.aK v _) (t9 P (aP.jH (E:=h) f y b _ P)) (L4 0x9b0e8599102fd87420e422c41f2 N J)) (eR (E2.rf ..) Z)
 |.ao s i j,S,n,e,R,U,P,J=>λK Z=>by
  obtain ⟨m,rfl⟩:∃m,n=m+2:=⟨n-2,(lm (L4 0x9b81361d08390e1f2 N J)).symm⟩
  refine wB (acY (di.bZ i S m e R.1 U P (L4 0x26c3a162440c361d08390e1f2 N J)) (di.bZ j S m e R.2 U P (L4 0x26c3a166440c361d08390e1f2 N J)) ?_)
  cases s<;>exact Z
 |.jb k s,S,n,e,R,U,P,J=>λK Z=>by
  obtain ⟨m,rfl⟩:∃m,n=m+2:=⟨n-2,(lm (L3 0x26a04d07220e1f2 N J)).symm⟩
  exact XN (aP.bZ s S (m+1) e R U P (L3 0x205fa0e45891030d07220e1f2 N J)) (Z)
 |.eJ a b,S,n,e,R,U,P,J=>λK Z=>by
  obtain ⟨m,rfl⟩:∃m,n=m+2:=⟨n-2,(lm (L4 0x26e04d87420e422c41f2 N J)).symm⟩
  exact wB (abw (aP.bZ a S m e R.1 U P (L4 0x9b0e85891030d87420e422c41f2 N J)) (aP.bZ b S m e R.2 U P (L4 0x9b0e85991030d87420e422c41f2 N J)) (Z))
 |.ja a b,S,n,e,R,U,P,J=>λK Z=>by
  obtain ⟨m,rfl⟩:∃m,n=m+2:=⟨n-2,(lm (L4 0x9b81361d08390e1f2 N J)).symm⟩
  exact wB (ad9 (aP.jH f y a _ P) (aP.bZ a S m e R.1 U P (L4 0x26c3a162440c361d08390e1f2 N J)) (aP.bZ b S m e R.2 U P (L4 0x26c3a166440c361d08390e1f2 N J)) (Z))
theorem di.bZ:∀(t:di) (L:W an) (n:X) (e:E2 At),t.ok l L->qg L e->(∀v,bw (e.fn v))->4*t.sz+F≤n->c9 E n C (d8 w A D B) t.pv e (.ab (t.aw w r h e.fn))
 |.lg i j,L,n,e,R,S,U,J=>λK P=>by
  obtain ⟨m,rfl⟩:∃m,n=m+1:=⟨n-1,(lm (L4 0x9b79361d08390e1f2 N J)).symm⟩
  exact XO (di.bZ i L m e R.1 S U (L4 0x26c3a162440bf61d08390e1f2 N J)) (di.bZ j L m e R.2 S U (L4 0x26c3a166440bf61d08390e1f2 N J)) (P)
 |.lh v d i,L,n,e,R,S,U,J=>λK P=>by
  obtain ⟨m,rfl⟩:∃m,n=m+6:=⟨n-6,(lm (L3 0x26a84d07220e232 N J)).symm⟩
  refine abt (p:=λa=>i.aw w r h (cL e.fn v [a])) (d.ok f) (λK P=>BX f d P) (λa Y=>?_) (P)
  exact eL (E2.rf ..) (di.bZ i _ (m+5) _ R (S.aK v [a]) (t9 U (bw.wN ((d.ok f).ee Y))) (L3 0x2067a0e45891034d07220e232 N J))
 |.iE k,L,n,e,R,S,U,J=>λK P=>by
  obtain ⟨m,rfl⟩:∃m,n=m+1:=⟨n-1,(lm (L2 0x9979321c09f2 N J)).symm⟩
  exact abv (P)
 |.kf s,L,n,e,R,S,U,J=>λK P=>by
  obtain ⟨m,rfl⟩:∃m,n=m+1:=⟨n-1,(lm (L3 0x269e4d07220e1f2 N J)).symm⟩
  exact Wo (aP.bZ s L m e R S U (L3 0x9a0e4589102fd07220e1f2 N J)) (P)
end
end
theorem qH{S:PS->Prop}{r B:bx}{x:PS}{a:al}(h:∀p,S p->fT r p=fT B p):∀p,(p=x∨S p)->fT (bb r x a) p=fT (bb B x a) p:=λp A=>by
 refine eR (t6 ..) (eR (t6 ..) ?_)
 split
 ·rfl
 ·rename_i C
  rcases A with A|A
  ·exact nw A.symm C
  ·exact h p A
theorem c2{A B E:Type}(f:A->B->E){a C:A}{b D:B}(p:a=C)(q:b=D):f a b=f C D:=p▸q▸N
theorem c3{A B C H:Type}(f:A->B->C->H){a D:A}{b E:B}{c F:C}(p:a=D)(q:b=E)(r:c=F):f a b c=f D E F:=p▸q▸r▸N
theorem mx{k x y z:X}(h:k+x≤z)(i:k+y≤z):k+wT x y≤z:=Nat.add_max_add_left ..▸Nat.max_le.mpr ⟨h,i⟩
section
variable{w:Wd}{r:bx}{a b:OF}{p q:PS}{e d:OE}{k:lX}{c:an}
theorem PU:(OE.aa p).aw w r=match fT r p with|some v=>[v]|none=>[]:=N
theorem aea:(OE.nj p e a).aw w r=gv ((e.aw w r).filter λx=>a.aw w (bb r p x)):=N
theorem PW:(OF.d3 a).aw w r=!a.aw w r:=N
theorem aeb:(OF.eJ e d).aw w r=ci (e.aw w r=d.aw w r):=N
theorem G9:(OF.h_ c p e a).aw w r=bif c then(e.aw w r).all λx=>a.aw w (bb r p x)else(e.aw w r).any λx=>a.aw w (bb r p x):=N
theorem G_:(OF.iL c p q e a).aw w r=bif c then(e.aw w r).all λx=>(e.aw w (bb r p x)).all λy=>a.aw w (bb (bb r p x) q y)else(e.aw w r).any λx=>(e.aw w (bb r p x)).any λy=>a.aw w (bb (bb r p x) q y):=N
end
mutual
theorem OE.dA{w:Wd}:∀(e:OE) {S:PS->Prop} {r B:bx},e.sc S->(∀p,S p->fT r p=fT B p)->e.aw w r=e.aw w B
 |.gG b,S,r,B,A,h=>N
 |.aa p,S,r,B,A,h=>by
  refine (?_:(match fT r p with|some v=>[v]|none=>[])=_)
  refine eR (h p A) ?_
  rfl
 |.bj D a b,S,r,B,A,h=>c2 (rn D) (OE.dA a A.1 h) (OE.dA b A.2 h)
 |.tD a,S,r,B,A,h=>lc (tp w.f) (OE.dA a A h)
 |.nj x C f,S,r,B,A,h=>c2 (λ(l:At) (g:al->an)=>gv (l.filter g)) (OE.dA C A.1 h) (T0 λa=>OF.dA f A.2 (qH h))
 |.oh c a b,S,r,B,A,h=>by
  refine (?_:(bif c.aw w r then a.aw w r else b.aw w r)=_)
  refine eR (OF.dA c A.1 h) (eR (OE.dA a A.2.1 h) (eR (OE.dA b A.2.2 h) ?_))
  rfl
theorem OF.dA{w:Wd}:∀(e:OF) {S:PS->Prop} {r B:bx},e.sc S->(∀p,S p->fT r p=fT B p)->e.aw w r=e.aw w B
 |.jV F a b,S,r,B,A,h=>c2 (λx y=>bif F then x&&y else x||y) (OF.dA a A.1 h) (OF.dA b A.2 h)
 |.iC a b,S,r,B,A,h=>c2 (λx y=>y||!x) (OF.dA a A.1 h) (OF.dA b A.2 h)
 |.mm a b,S,r,B,A,h=>c2 (λ(x y:an)=>x==y) (OF.dA a A.1 h) (OF.dA b A.2 h)
 |.d3 a,S,r,B,A,h=>lc not (OF.dA a A h)
 |.ja a b,S,r,B,A,h=>c2 (λ(x y:At)=>x.all λz=>ci (z∈y)) (OE.dA a A.1 h) (OE.dA b A.2 h)
 |.eJ a b,S,r,B,A,h=>c2 (λ(x y:At)=>ci (x=y)) (OE.dA a A.1 h) (OE.dA b A.2 h)
 |.jb k e,S,r,B,A,h=>lc (λx:At=>bS k x.length) (OE.dA e A h)
 |.w7 k x y C f,S,r,B,A,h=>by
  have e:∀a b,f.aw w (bb (bb r x a) y b)=f.aw w (bb (bb B x a) y b):=λa b=>OF.dA f A.2 (qH (qH h))
  exact c3 (λ(D:At) (H:al->At) (g:al->al->an)=>bS k (D.flatMap λa=>((H a).filter λb=>g a b).map λb=>(a,b)).length) (OE.dA C A.1 h) (T0 (λa=>OE.dA C (OE.c8 (λp h=>Or.inr h) A.1) (qH h))) (T0 λa=>T0 (e a))
 |.h_ E x C f,S,r,B,A,h=>c2 (λ(D:At) (g:al->an)=>bif E then D.all g else D.any g) (OE.dA C A.1 h) (T0 (λa=>OF.dA f A.2 (qH h)))
 |.iL E x y C f,S,r,B,A,h=>by
  have e:∀a b,f.aw w (bb (bb r x a) y b)=f.aw w (bb (bb B x a) y b):=λa b=>OF.dA f A.2 (qH (qH h))
  exact c3 (λ(D:At) (H:al->At) (g:al->al->an)=>bif E then D.all λa=>(H a).all λb=>g a b else D.any λa=>(H a).any λb=>g a b) (OE.dA C A.1 h) (T0 (λa=>OE.dA C (OE.c8 (λp h=>Or.inr h) A.1) (qH h))) (T0 λa=>T0 (e a))
 |.ao s i j,S,r,B,A,h=>by
  cases s
  ·exact c2 (λ(x y:al)=>ci (x<y)) (ON.dA i A.1 h) (ON.dA j A.2 h)
  ·exact c2 (λ(x y:al)=>ci (x≤y)) (ON.dA i A.1 h) (ON.dA j A.2 h)
  ·exact c2 (λ(x y:al)=>ci (x=y)) (ON.dA i A.1 h) (ON.dA j A.2 h)
theorem ON.dA{w:Wd}:∀(e:ON) {S:PS->Prop} {r B:bx},e.sc S->(∀p,S p->fT r p=fT B p)->e.aw w r=e.aw w B
 |.iE k,S,r,B,A,h=>N
 |.kf e,S,r,B,A,h=>lc (λx:At=>(x.length:al)) (OE.dA e A h)
 |.lg i j,S,r,B,A,h=>c2 (λ(x y:al)=>x+y) (ON.dA i A.1 h) (ON.dA j A.2 h)
 |.lh x C i,S,r,B,A,h=>c2 (λ(D:At) (g:al->al)=>(D.map g).sum) (OE.dA C A.1 h) (T0 (λa=>ON.dA i A.2 (qH h)))
end
@[reducible]noncomputable def rO(w:Wd)(env:E2 OE)(r:bx)(A:g_):Prop:=∀v e,env.jU v=O e->e.aw w r=A v
@[reducible]noncomputable def lW(env:E2 OE)(S:PS->Prop):Prop:=∀v e,env.jU v=O e->e.sc S
theorem rO.ib{w:Wd}{env:E2 OE}{r:bx}{B:g_}{S:PS->Prop}{p:PS}(D:lW env S)(E:¬S p)(h:rO w env r B)(v:an)(a:al):rO w (env.aK v (.aa p)) (bb r p a) (cL B v [a]):=λu e A=>by
 rw [E2.uQ]at A
 unfold cL
 cases C:u==v
 ·rw [C]at A
  exact eR (OE.dA (B:=r) e (D u e A) (λq F=>by rw [t6,f0 λ(x:p=q)=>E (x▸F)])) (h u e A)
 ·rw [C]at A
  cases A
  simp only [PU,t6,qS,Nr]
theorem lW.aK{env:E2 OE}{S:PS->Prop}(B:lW env S){v:an}{e:OE}(C:e.sc S):lW (env.aK v e) S:=λu D h=>by
 rw [E2.uQ]at h
 cases A:u==v
 ·rw [A]at h;exact B u D h
 ·rw [A]at h;cases h;exact C
theorem lW.ib{env:E2 OE}{S:PS->Prop}(A:lW env S)(v:an)(p:PS):lW (env.aK v (.aa p)) λq=>q=p∨S q:=
 lW.aK (λu e h=>OE.c8 (λq B=>.inr B) (A u e h)) (.inl N)
theorem rO.aK{w:Wd}{env:E2 OE}{r:bx}{B:g_}(h:rO w env r B){v:an}{e:OE}{a:At}(D:e.aw w r=a):rO w (env.aK v e) r (cL B v a):=λu E A=>by
 rw [E2.uQ]at A
 unfold cL
 cases C:u==v
 ·rw [C]at A;exact h u E A
 ·rw [C]at A;cases A;exact D
noncomputable def dQ.oe:dQ->OE
 |.a=>.gG bn
 |.b=>.gG M
 |.fN=>.bj .jM (.gG bn) (.gG M)
theorem dQ.zD(d:dQ)(S:PS->Prop):d.oe.sc S:=by cases d<;>first|exact tt|exact ⟨tt,tt⟩
theorem dQ.CZ(d:dQ):d.oe.h≤3:=by cases d<;>exact ww N
theorem dQ.pZ(d:dQ)(w:Wd)(r:bx):d.oe.aw w r=d.aw w:=by cases d<;>rfl
section
variable(b:Wd->At->At)(a:Wd->At->an)
structure fX(s:aP)(env:E2 OE)(S:PS->Prop)(H:X)(E:OE):Prop where
 sc:E.sc S
 h:E.h≤5*s.sz+H
 aw:∀w,w.Ok->∀r ne,rO w env r ne->E.aw w r=s.aw w (b w) (a w) ne
structure iU(s:bk)(env:E2 OE)(S:PS->Prop)(H:X)(E:OF):Prop where
 sc:E.sc S
 h:E.h≤5*s.sz+H
 aw:∀w,w.Ok->∀r ne,rO w env r ne->E.aw w r=s.aw w (b w) (a w) ne
structure qv(s:di)(env:E2 OE)(S:PS->Prop)(H:X)(E:ON):Prop where
 sc:E.sc S
 h:E.h≤5*s.sz+H
 aw:∀w,w.Ok->∀r ne,rO w env r ne->E.aw w r=s.aw w (b w) (a w) ne
end
section
variable{n:Wd->At->At}{f:Wd->At->an}{env:E2 OE}{S:PS->Prop}{H:X}
theorem OI(b:an):fX n f (.b_ b) env S H (.gG b):=
 ⟨tt,L1 4353769071 N,λY Y Y Y Y=>N⟩
theorem acZ(A:env.jU v=O E)(B:E.sc S)(C:E.h≤H):fX n f (.aa v) env S H E:=
 ⟨B,L3 0x81c8b53c1338 N C,λw D r F h=>h v E A⟩
theorem ac0(h:fX n f s env S H E):fX n f (.jj s) env S H (.tD E):=
 ⟨h.sc,by have:=h.h;exact L3 0x81d08397cc388903a16678 N this,λw A r B k=>lc (tp w.f) (h.aw w A r B k)⟩
theorem aec(C:fX n f a env S H A)(D:fX n f b env S H B):fX n f (.op o a b) env S H (.bj o A B):=
 ⟨⟨C.sc,D.sc⟩,mx (by have:=C.h;exact L4 0x207420ec397cc388103a16678 N this) (by have:=D.h;exact L4 0x207420e43b7cc388103a16678 N this),λw E r F k=>c2 (rn o) (C.aw w E r F k) (D.aw w E r F k)⟩
theorem abx(D:fX n f b env S H B)(A:fX n f s (env.aK v B) S (5*b.sz+H) E):fX n f (.jc v b s) env S H E:=
 ⟨A.sc,by have:=A.h;exact L4 0x207620e422d41f3c1021d8b5316678 N this,λw C r F k=>A.aw w C r _ (k.aK (D.aw w C r F k))⟩
theorem ac1(D:iU n f c env S H C)(E:fX n f a env S H A)(F:fX n f b env S H B):fX n f (.aF c a b) env S H (.oh C A B):=
 ⟨(bt D.sc E.sc F.sc),mx (by have:=D.h;exact L5 0x81d083c0ec397cc388103a16678 N this) (mx (by have:=E.h;exact L5 0x81d083c0e43b7cc388103a16678 N this) (by have:=F.h;exact L5 0x81d08390f03b7cc388103a16678 N this)),λw I r J k=>c3 (λ(z:an) (x y:At)=>bif z then x else y) (D.aw w I r J k) (E.aw w I r J k) (F.aw w I r J k)⟩
theorem XP{v:an}{t:bk}{F:OF}(B:lW env S)(C:¬S p)(h:iU n f t (env.aK v (.aa p)) (λq=>q=p∨S q) H F):fX n f (.tq v d t) env S H (.nj p d.oe F):=
 ⟨⟨d.zD S,h.sc⟩,mx (by have:=d.CZ;exact L3 0x81d08398cc3889238 N this) (by have:=h.h;exact L3 0x81d08398cc388903a16678 N this),λw A r E k=>(c2 (λ(D:At) (g:al->an)=>gv (D.filter g)) (d.pZ w r) (T0 λa=>h.aw w A _ _ (k.ib B C v a))).trans ((d.ok A).pX _)⟩
theorem ac2(h:iU n f t env S H F):iU n f (.d3 t) env S H (.d3 F):=
 ⟨h.sc,by have:=h.h;exact L3 0x81d08397cc387903a16678 N this,λw A r B k=>lc not (h.aw w A r B k)⟩
noncomputable def PX(o:oH)(a b:OF):OF:=match o with
 |.xD=>.jV M a b
 |.or=>.jV bn a b
 |.iC=>.iC a b
 |.mm=>.mm a b
theorem ac3{o:oH}{a b:bk}{A B:OF}(E:iU n f a env S H A)(F:iU n f b env S H B):iU n f (.jV o a b) env S H (PX o A B):=by
 refine ⟨?_,?_,λw C r D k=>?_⟩
 ·cases o<;>exact ⟨E.sc,F.sc⟩
 ·have I:=E.h;have this:=F.h
  have J:1+wT A.h B.h≤5*(1+a.sz+b.sz)+H:=mx (L4 0x207420ec397cc387903a16678 N I) (L4 0x207420e43b7cc387903a16678 N this)
  cases o<;>exact J
 ·cases o
  ·exact c2 (λx y=>x&&y) (E.aw w C r D k) (F.aw w C r D k)
  ·exact c2 (λx y=>x||y) (E.aw w C r D k) (F.aw w C r D k)
  ·exact c2 (λx y=>y||!x) (E.aw w C r D k) (F.aw w C r D k)
  ·exact c2 (λ(x y:an)=>x==y) (E.aw w C r D k) (F.aw w C r D k)
noncomputable def O'(k:i_)(p:PS)(d:OE)(F:OF):OF:=match k with
 |.jx=>.h_ M p d F
 |.fL=>.h_ bn p d F
 |.no=>.d3 (.h_ bn p d F)
 |.l7=>.jb .l7 (.nj p d F)
 |.ak=>.jb .ak (.nj p d F)
theorem Lg{A:Type}(p:A->an)(l:W A):ci ((l.filter p).length=l.length)=l.all p:=eL (LP p l) (lM.mpr wu.symm)
theorem LW{A:Type}(p:A->an)(l:W A):ci ((l.filter p).length=0)=!l.any p:=by
 refine eL (yk p l) ?_
 cases (l.filter p).length<;>simp
theorem LX{v:an}(E:lW env S)(I:¬S p)(h:iU n f t (env.aK v (.aa p)) (λq=>q=p∨S q) H F):iU n f (.h_ k v d t) env S H (O' k p d.oe F):=by
 refine ⟨?_,?_,λw C r A q=>?_⟩
 ·cases k<;>exact ⟨d.zD S,h.sc⟩
 ·have J:=h.h;have this:=d.CZ
  have B:5+wT d.oe.h F.h≤5*(3+t.sz)+H:=mx (L3 0x81d08398cc3899238 N this) (L3 0x81d08398cc389903a16678 N J)
  have L:1+(3+wT d.oe.h F.h)≤5*(3+t.sz)+H:=L3 0x207420e633087117903a1073198713 N B
  have P:3+wT d.oe.h F.h≤5*(3+t.sz)+H:=L3 0x81d08398cc388903a1073198713 N B
  have R:2+(3+wT d.oe.h F.h)≤5*(3+t.sz)+H:=L3 0x207420e633087118103a1073198713 N B
  cases k<;>first|exact P|exact L|exact R
 ·have e:∀a,F.aw w (bb r p a)=t.aw w (n w) (f w) (cL A v [a]):=λa=>h.aw w C _ _ (q.ib E I v a)
  have U:gv ((d.aw w).filter λa=>t.aw w (n w) (f w) (cL A v [a]))=(d.aw w).filter λa=>t.aw w (n w) (f w) (cL A v [a]):=(d.ok C).pX _
  refine (?_:_=w8 k ((d.aw w).filter λa=>t.aw w (n w) (f w) (cL A v [a])).length (d.aw w).length)
  have D:(OE.nj p d.oe F).aw w r=(d.aw w).filter λa=>t.aw w (n w) (f w) (cL A v [a]):=by simp only [aea,d.pZ,e,U]
  cases k
  ·refine (?_:(OF.h_ M p d.oe F).aw w r=@ci (@Eq X _ _) (_))
   simp only [G9,d.pZ,e,Lg,Nr]
  ·refine (?_:(OF.h_ bn p d.oe F).aw w r=ci (0<_))
   simp only [G9,d.pZ,e,yk,FW]
  ·refine (?_:(OF.d3 (.h_ bn p d.oe F)).aw w r=ci (@Eq X _ 0))
   simp only [PW,G9,d.pZ,e,LW,FW]
  ·exact lc (λl:At=>ci (l.length<2)) D
  ·exact lc (λl:At=>ci (l.length=1)) D
noncomputable def rg(A:an)(p q:PS)(F:OF):OF:=bif A then .jV M (.d3 (.eJ (.aa q) (.aa p))) F else F
noncomputable def Cp(A:an)(p q:PS)(F:OF):OF:=bif A then .iC (.d3 (.eJ (.aa q) (.aa p))) F else F
noncomputable def Hl(k:i_)(A:an)(p q:PS)(d:OE)(F:OF):OF:=match k with
 |.jx=>.iL M p q d (Cp A p q F)
 |.fL=>.iL bn p q d (rg A p q F)
 |.no=>.d3 (.iL bn p q d (rg A p q F))
 |.l7=>.w7 .l7 p q d (rg A p q F)
 |.ak=>.w7 .ak p q d (rg A p q F)
theorem LY{w:Wd}{r:bx}{p q:PS}(A:p≠q)(a b:al):(OF.eJ (.aa q) (.aa p)).aw w (bb (bb r p a) q b)=ci (a=b):=by
 simp only [aeb,PU,t6,qS,f0 (λh:q=p=>A h.symm)]
 by_cases h:a=b
 ·subst h;simp
 ·have:¬b=a:=λq=>h q.symm
  simp [h,this]
theorem LZ{k:i_}{A:an}{d:dQ}{t:bk}{p q:PS}{F:OF}(R:lW env S)(Z:¬S p)(j:¬S q)(D:p≠q)(h:iU n f t ((env.aK bn (.aa p)).aK M (.aa q)) (λz=>z=q∨z=p∨S z) H F):iU n f (.iL k A d t) env S H (Hl k A p q d.oe F):=by
 have o:(OF.eJ (.aa q) (.aa p)).sc (λz=>z=q∨z=p∨S z):=⟨.inl N,.inr (.inl N)⟩
 refine ⟨?_,?_,λw hw r B z=>?_⟩
 ·cases k<;>cases A<;>first|exact ⟨d.zD S,h.sc⟩|exact (bt (d.zD S) o h.sc)
 ·have E:∀c:OF,c.h≤5+F.h->5+wT d.oe.h c.h≤5*(3+t.sz)+H:=λc hX=>mx (by have:=d.CZ;exact L3 0x81d08398cc3899238 N this) (by have:=h.h;exact L4 0x103b107519871320762d4f240e678 N hX this)
  have hA:(Cp A p q F).h≤5+F.h:=by
   cases A
   ·exact E' ..
   ·exact mx (GM 5 _) (Sc (by decide) _)
  have L:(rg A p q F).h≤5+F.h:=by
   cases A
   ·exact E' ..
   ·exact mx (GM 5 _) (Sc (by decide) _)
  cases k
  ·exact io (Sc (by decide:3≤5) _) (E _ hA)
  ·exact io (Sc (by decide:3≤5) _) (E _ L)
  ·exact io (io (nY (Ms 1 3 _).symm) (Sc (by decide:4≤5) _)) (E _ L)
  ·exact E _ L
  ·exact E _ L
 ·have e:∀a b,F.aw w (bb (bb r p a) q b)=t.aw w (n w) (f w) (cL (cL B bn [a]) M [b]):=λa b=>
   h.aw w hw _ _ ((z.ib R Z bn a).ib (R.ib bn p) (λx=>x.elim (λy=>D y.symm) j) M b)
  have P:∀a b,(rg A p q F).aw w (bb (bb r p a) q b)=((!A||!ci (a=b))&&t.aw w (n w) (f w) (cL (cL B bn [a]) M [b])):=λa b=>by
   refine eL (e ..) ?_
   cases A
   ·rfl
   ·exact lc (λz=>!z&&F.aw w (bb (bb r p a) q b)) (LY (w:=w) (r:=r) D a b)
  have eA:∀a b,(Cp A p q F).aw w (bb (bb r p a) q b)=(!(!A||!ci (a=b))||t.aw w (n w) (f w) (cL (cL B bn [a]) M [b])):=λa b=>by
   refine eL (e ..) ?_
   cases A
   ·rfl
   ·exact (lc (λz=>F.aw w (bb (bb r p a) q b)||!(!z)) (LY (w:=w) (r:=r) D a b)).trans (Bool.or_comm ..)
  have C:((d.aw w).any λa=>(d.aw w).any λb=>(!A||!ci (a=b))&&t.aw w (n w) (f w) (cL (cL B bn [a]) M [b]))=(lb A (d.aw w)).any λx=>t.aw w (n w) (f w) (cL (cL B bn [x.1]) M [x.2]):=by
   refine eL (LU (d.aw w) (λY=>d.aw w) (λa b=>(!A||!ci (a=b))&&t.aw w (n w) (f w) (cL (cL B bn [a]) M [b]))) ?_
   unfold lb
   exact eR List.any_filter N
  have I:((d.aw w).all λa=>(d.aw w).all λb=>!(!A||!ci (a=b))||t.aw w (n w) (f w) (cL (cL B bn [a]) M [b]))=(lb A (d.aw w)).all λx=>t.aw w (n w) (f w) (cL (cL B bn [x.1]) M [x.2]):=by
   refine eL (LS (d.aw w) (λY=>d.aw w) (λa b=>!(!A||!ci (a=b))||t.aw w (n w) (f w) (cL (cL B bn [a]) M [b]))) ?_
   unfold lb
   exact eR List.all_filter N
  have J:((d.aw w).flatMap λa=>((d.aw w).filter λb=>(!A||!ci (a=b))&&t.aw w (n w) (f w) (cL (cL B bn [a]) M [b])).map λb=>(a,b))=(lb A (d.aw w)).filter λx=>t.aw w (n w) (f w) (cL (cL B bn [x.1]) M [x.2]):=by
   refine eL (Kk (d.aw w) (λY=>d.aw w) (λa b=>(!A||!ci (a=b))&&t.aw w (n w) (f w) (cL (cL B bn [a]) M [b]))) ?_
   unfold lb
   exact eR aai (Np λx Y=>Bool.and_comm ..)
  refine (?_:_=w8 k ((lb A (d.aw w)).filter λq=>t.aw w (n w) (f w) (cL (cL B bn [q.1]) M [q.2])).length (lb A (d.aw w)).length)
  have U:((d.oe.aw w r).flatMap λx=>((d.oe.aw w (bb r p x)).filter λy=>(rg A p q F).aw w (bb (bb r p x) q y)).map λy=>(x,y))=(lb A (d.aw w)).filter λx=>t.aw w (n w) (f w) (cL (cL B bn [x.1]) M [x.2]):=by simp only [d.pZ,P,J]
  cases k
  ·refine (?_:(OF.iL M p q d.oe (Cp A p q F)).aw w r=@ci (@Eq X _ _) (_))
   simp only [G_,d.pZ,eA,I,Lg,Nr]
  ·refine (?_:(OF.iL bn p q d.oe (rg A p q F)).aw w r=ci (0<_))
   simp only [G_,d.pZ,P,C,yk,FW]
  ·refine (?_:(OF.d3 (.iL bn p q d.oe (rg A p q F))).aw w r=ci (@Eq X _ 0))
   simp only [PW,G_,d.pZ,P,C,LW,FW]
  ·exact lc (λl:W (al×al)=>ci (l.length<2)) U
  ·exact lc (λl:W (al×al)=>ci (l.length=1)) U
theorem aby(D:fX n f b env S H B)(A:iU n f s (env.aK v B) S (5*b.sz+H) E):iU n f (.jc v b s) env S H E:=
 ⟨A.sc,by have:=A.h;exact L4 0x207620e422d41f3c1021d8b5316678 N this,λw C r F k=>A.aw w C r _ (k.aK (D.aw w C r F k))⟩
theorem ac4{s:l8}{i j:di}{I J:ON}(C:qv n f i env S H I)(D:qv n f j env S H J):iU n f (.ao s i j) env S H (.ao s I J):=
 ⟨⟨C.sc,D.sc⟩,mx (by have:=C.h;exact L4 0x207420ec397cc387903a16678 N this) (by have:=D.h;exact L4 0x207420e43b7cc387903a16678 N this),λw A r B k=>by
  cases s
  ·exact c2 (λ(x y:al)=>ci (x<y)) (C.aw w A r B k) (D.aw w A r B k)
  ·exact c2 (λ(x y:al)=>ci (x≤y)) (C.aw w A r B k) (D.aw w A r B k)
  ·exact c2 (λ(x y:al)=>ci (x=y)) (C.aw w A r B k) (D.aw w A r B k)⟩
theorem abz(h:fX n f s env S H E):iU n f (.jb m s) env S H (.jb m E):=
 ⟨h.sc,by have:=h.h;exact L3 0x81d08397cc388103a16678 N this,λw A r B k=>lc (λx:At=>bS m x.length) (h.aw w A r B k)⟩
theorem abA(C:fX n f a env S H A)(D:fX n f b env S H B):iU n f (.eJ a b) env S H (.eJ A B):=
 ⟨⟨C.sc,D.sc⟩,mx (by have:=C.h;exact L4 0x81d083b08b307cc388103a16678 N this) (by have:=D.h;exact L4 0x81d083908b707cc388103a16678 N this),λw E r F k=>c2 (λ(x y:At)=>ci (x=y)) (C.aw w E r F k) (D.aw w E r F k)⟩
theorem aed(C:fX n f a env S H A)(D:fX n f b env S H B):iU n f (.ja a b) env S H (.ja A B):=
 ⟨⟨C.sc,D.sc⟩,mx (by have:=C.h;exact L4 0x207420ec397cc388103a16678 N this) (by have:=D.h;exact L4 0x207420e43b7cc388103a16678 N this),λw E r F k=>c2 (λ(x y:At)=>x.all λz=>ci (z∈y)) (C.aw w E r F k) (D.aw w E r F k)⟩
theorem abB(A:qv n f i env S H I)(B:qv n f j env S H J):qv n f (.lg i j) env S H (.lg I J):=
 ⟨⟨A.sc,B.sc⟩,mx (by have:=A.h;exact L4 0x207420ec397cc387903a16678 N this) (by have:=B.h;exact L4 0x207420e43b7cc387903a16678 N this),λw C r D k=>c2 (λ(x y:al)=>x+y) (A.aw w C r D k) (B.aw w C r D k)⟩
theorem ac5:qv n f (.iE i) env S H (.iE i):=
 ⟨tt,L1 4353769071 N,λY Y Y Y Y=>N⟩
theorem XQ(h:fX n f s env S H E):qv n f (.kf s) env S H (.kf E):=
 ⟨h.sc,by have:=h.h;exact L3 0x81d08397cc387903a16678 N this,λw A r B k=>lc (λx:At=>(x.length:al)) (h.aw w A r B k)⟩
theorem ac6{v:an}{t:di}{I:ON}(A:lW env S)(B:¬S p)(h:qv n f t (env.aK v (.aa p)) (λq=>q=p∨S q) H I):qv n f (.lh v d t) env S H (.lh p d.oe I):=
 ⟨⟨d.zD S,h.sc⟩,mx (by have:=d.CZ;exact L3 0x81d08398cc3889238 N this) (by have:=h.h;exact L3 0x81d08398cc388903a16678 N this),λw C r E k=>c2 (λ(D:At) (g:al->al)=>(D.map g).sum) (d.pZ w r) (T0 λa=>h.aw w C _ _ (k.ib A B v a))⟩
theorem XR{C:an}(F:fX n f s env S H A)(I:E.sc S)(J:E.h≤60+(5*s.sz+H))(B:∀w,w.Ok->∀r,E.aw w r=n w (A.aw w r)):fX n f (.kg C s) env S H E:=
 ⟨I,L3 0x2074208b301c5f3c1021d0b331ba98 N J,λw D r L k=>(B w D r).trans (lc (n w) (F.aw w D r L k))⟩
theorem XS(D:fX n f s env S H A)(F:E.sc S)(I:E.h≤90+(5*s.sz+H))(B:∀w,w.Ok->∀r,E.aw w r=f w (A.aw w r)):iU n f (.tr s) env S H E:=
 ⟨F,L3 0x2074208b301ddf3c1021d0b331baf8 N I,λw C r J k=>(B w C r).trans (lc (f w) (D.aw w C r J k))⟩
end
@[reducible]noncomputable def CF(v:an):PV:=.af [.ab 0,.aJ bn,.af [.ae (nm v)],T "",eV (.aA 66)]
noncomputable def f9:PV:=.af [T "sig",.ab 0,.af [T "A"],.aJ bn,T "",T "",.af [],.af [.af [.ab 0,.aJ bn,.af [T "f"],T "set",eV (.aA 66)]],.af []]
noncomputable def gp:PV:=.af [T "sig",.ab 0,.af [T "B"],.aJ bn,T "",T "A",.af [],.af [],.af []]
noncomputable def kh(A:an)(B:bk):PV:=.af [T "pred",.ab 0,T "p",.af [CF A],.af [B.pv]]
noncomputable def ou(A:aP):PV:=.af [T "fun",.ab 0,T "g",.af [CF M],T "set",eV (.aA 66),A.pv]
noncomputable def oi:PV:=.af [T "f",T "A",T "set",eV (.aA 66),.ab 0,.ab (-1)]
noncomputable def qh:W (X×PV):=[(513706785863654,.a8 [(.aA 66,f9),(.aA 67,gp)]),(4013076036340,.aj [T "A",T "B"]),(3497948461296,.aj []),
 (447738476591600,.aj [T "A",T "B"]),(1077250787088636050544,.aj [oi])]
noncomputable def PY(A:an)(B:bk)(C:aP):W (X×PV):=[(1077326293127784969588,.ah 1),(31352157548,.bG),(31370885866,.aj [f9,gp,kh A B,ou C]),
 (514152355052399,.a8 [(.aA 66,.ab 0),(.aA 67,.ab 1),(.aA 1693634,.ab 2)]),(31368900964,.a8 [(.aA 113,kh A B),(.aA 104,ou C)])]
noncomputable def aE(A:PV)(B:an)(C:bk)(D:aP):bA:=[[(31368901476,A)],qh,PY B C D]
@[reducible]noncomputable def aM(A:W (X×al))(c:X):ai:=[A,[],[(31641679972,(c:al))]]
@[reducible]noncomputable def aL(B:bA)(n a:X)(args:W PV)(A:ai)(v:PV):Prop:=∀K:PV->ai->Prop,K v A->aR B n a args A K
section
variable{a:PV}{b:an}{f:bk}{e:aP}{d:W (X×al)}{n c:X}{Q:PV->ai->Prop}
theorem PZ:aL (aE a b f e) (n+1) 478 [.ah 1,T "A"] (aM d c) (.aJ M):=λK h=>h
theorem P6:aL (aE a b f e) (n+1) 478 [.ah 1,T "B"] (aM d c) (.aJ M):=λK h=>h
theorem P9:aL (aE a b f e) (n+1) 478 [.ah 1,T "f"] (aM d c) (.aJ bn):=λK h=>h
theorem aeR:aL (aE a b f e) (n+1) 478 [.ah 1,T "g"] (aM d c) (.aJ bn):=λK h=>h
theorem aeS:aL (aE a b f e) (n+1) 478 [.ah 1,T "p"] (aM d c) (.aJ bn):=λK h=>h
theorem abC:aL (aE a b f e) (n+1) 478 [.ah 1,T "plus"] (aM d c) (.aJ bn):=λK h=>h
theorem sm:aL (aE a b f e) (n+1) 555 [.ah 1] (aM d c) (.aj [oi]):=λK h=>h
theorem L9(A:aL (aE a b f e) n 555 [.ah 1] (aM d c) (.aj [oi])):aL (aE a b f e) (n+1) 144 [.ah 2,T "f"] (aM d c) (.aj [T "A"]):=λK h=>by
 refine λY=>A _ ?_
 conv=>whnf
 exact ⟨(λh=>nomatch h),(by decide:(1:Nat)≤4096),h⟩
theorem XT(A:aL (aE a b f e) n 555 [.ah 1] (aM d c) (.aj [oi])):aL (aE a b f e) (n+1) 144 [.ah 2,T "g"] (aM d c) (.aj []):=λK h=>by
 refine λY=>A _ ?_
 conv=>whnf
 exact ⟨(by decide:(0:Nat)≤4096),h⟩
theorem XU(A:aL (aE a b f e) n 555 [.ah 1] (aM d c) (.aj [oi])):aL (aE a b f e) (n+1) 144 [.ah 2,T "p"] (aM d c) (.aj []):=λK h=>by
 refine λY=>A _ ?_
 conv=>whnf
 exact ⟨(by decide:(0:Nat)≤4096),h⟩
theorem UN(A:aL (aE a b f e) n 555 [.ah 1] (aM d c) (.aj [oi])):aL (aE a b f e) (n+1) 144 [.ah 2,T "plus"] (aM d c) (.aj []):=λK h=>by
 refine λY=>A _ ?_
 conv=>whnf
 exact ⟨(by decide:(0:Nat)≤4096),h⟩
theorem XW(A:aL (aE a b f e) n 478 [.ah 1,T "A"] (aM d c) (.aJ M)):aL (aE a b f e) (n+1) 154 [.ah 2,T "A"] (aM d c) (.ab (-1)):=λK h=>λY=>A _ h
theorem XY(A:aL (aE a b f e) n 478 [.ah 1,T "B"] (aM d c) (.aJ M)):aL (aE a b f e) (n+1) 154 [.ah 2,T "B"] (aM d c) (.ab (-1)):=λK h=>λY=>A _ h
theorem XZ(A:aL (aE a b f e) n 478 [.ah 1,T "f"] (aM d c) (.aJ bn))(B:aL (aE a b f e) n 144 [.ah 2,T "f"] (aM d c) (.aj [T "A"])):aL (aE a b f e) (n+1) 154 [.ah 2,T "f"] (aM d c) (.ab (-1)):=λK h=>λY=>A _ λY=>B _ h
theorem X0(A:aL (aE a b f e) n 478 [.ah 1,T "g"] (aM d c) (.aJ bn))(B:aL (aE a b f e) n 144 [.ah 2,T "g"] (aM d c) (.aj [])):aL (aE a b f e) (n+1) 154 [.ah 2,T "g"] (aM d c) (.ab 1):=λK h=>by
 refine λY=>A _ λY=>B _ ?_
 conv=>whnf
 exact ⟨(λh=>nomatch h),(by decide:(1:Nat)≤4096),h⟩
theorem X4(A:aL (aE a b f e) n 478 [.ah 1,T "p"] (aM d c) (.aJ bn))(B:aL (aE a b f e) n 144 [.ah 2,T "p"] (aM d c) (.aj [])):aL (aE a b f e) (n+1) 154 [.ah 2,T "p"] (aM d c) (.ab 1):=λK h=>by
 refine λY=>A _ λY=>B _ ?_
 conv=>whnf
 exact ⟨(λh=>nomatch h),(by decide:(1:Nat)≤4096),h⟩
theorem UO(A:aL (aE a b f e) n 478 [.ah 1,T "plus"] (aM d c) (.aJ bn))(B:aL (aE a b f e) n 144 [.ah 2,T "plus"] (aM d c) (.aj [])):aL (aE a b f e) (n+1) 154 [.ah 2,T "plus"] (aM d c) (.ab 2):=λK h=>λY=>A _ λY=>B _ h
end
section
variable{f:ai}{env:E2 OE}{n:X}{a b:PV}{c:PV}{d:an}{i:bk}{e:aP}
@[reducible]noncomputable def gj:PV:=.af [T "",.af []]
theorem zl(h:env.jU v=O E):Internal.gk (env.ls OE.pv) (nm v)=O E.pv:=by rw [E2.gk,h];rfl
theorem agL:Internal.gk (env.ls OE.pv) (.aA (aW "g"))=am:=E2.pY _ _ 104 (by decide) (by decide)
theorem agM:Internal.gk (env.ls OE.pv) (.aA (aW "p"))=am:=E2.pY _ _ 113 (by decide) (by decide)
theorem QH:Internal.gk (env.ls OE.pv) (.aA (aW "f"))=am:=E2.pY _ _ 103 (by decide) (by decide)
theorem ac7:Internal.gk (env.ls OE.pv) (.aA (aW "plus"))=am:=E2.pY _ _ 245217009 (by decide) (by decide)
theorem aeT(A:aL (aE c d i e) n 154 [.ah 2,T "A"] f (.ab (-1))):aL (aE c d i e) (n+1) 239 [.ah 2,eV (.aA 66),env.pv OE.pv] f gj:=λK B=>by
 conv=>whnf
 exact eR (E2.pY _ _ 66 (by decide) (by decide)) (λY=>A _ B)
theorem aeU(A:aL (aE c d i e) n 154 [.ah 2,T "B"] f (.ab (-1))):aL (aE c d i e) (n+1) 239 [.ah 2,eV (.aA 67),env.pv OE.pv] f gj:=λK B=>by
 conv=>whnf
 exact eR (E2.pY _ _ 67 (by decide) (by decide)) (λY=>A _ B)
theorem P_(A:aL (aE c d i e) n 154 [.ah 2,T "f"] f (.ab (-1))):aL (aE c d i e) (n+1) 239 [.ah 2,jv,env.pv OE.pv] f gj:=λK B=>by
 conv=>whnf
 exact eR QH (λY=>A _ B)
theorem Qa(A:aL (aE c d i e) n 154 [.ah 2,T "g"] f (.ab 1)):aL (aE c d i e) (n+1) 239 [.ah 2,ju,env.pv OE.pv] f (.af [T "g",.af []]):=λK B=>by
 conv=>whnf
 exact eR agL (λY=>A _ B)
theorem aeV(A:aL (aE c d i e) n 154 [.ah 2,T "p"] f (.ab 1)):aL (aE c d i e) (n+1) 239 [.ah 2,vb,env.pv OE.pv] f (.af [T "p",.af []]):=λK B=>by
 conv=>whnf
 exact eR agM (λY=>A _ B)
theorem abD(A:aL (aE c d i e) n 154 [.ah 2,T "plus"] f (.ab 2)):aL (aE c d i e) (n+1) 239 [.ah 2,pS,env.pv OE.pv] f (.af [T "plus",.af []]):=λK B=>by
 conv=>whnf
 exact eR ac7 (λY=>A _ B)
theorem abE(A:aL (aE c d i e) n 239 [.ah 2,ju,env.pv OE.pv] f (.af [T "g",.af []]))(B:aL (aE c d i e) n 154 [.ah 2,T "g"] f (.ab 1)):aL (aE c d i e) (n+1) 239 [.ah 2,.af [T "box",.ab 0,ju,.af [a]],env.pv OE.pv] f (.af [T "g",.af [a]]):=λK C=>λY=>A _ λY=>B _ C
theorem abF(A:aL (aE c d i e) n 239 [.ah 2,vb,env.pv OE.pv] f (.af [T "p",.af []]))(B:aL (aE c d i e) n 154 [.ah 2,T "p"] f (.ab 1)):aL (aE c d i e) (n+1) 239 [.ah 2,.af [T "box",.ab 0,vb,.af [a]],env.pv OE.pv] f (.af [T "p",.af [a]]):=λK C=>λY=>A _ λY=>B _ C
theorem Vo(A:aL (aE c d i e) n 239 [.ah 2,pS,env.pv OE.pv] f (.af [T "plus",.af []]))(B:aL (aE c d i e) n 154 [.ah 2,T "plus"] f (.ab 2)):aL (aE c d i e) (n+1) 239 [.ah 2,.af [T "box",.ab 0,pS,.af [a,b]],env.pv OE.pv] f (.af [T "plus",.af [a,b]]):=λK C=>λY=>A _ λY=>B _ C
theorem abG(A:aL (aE c d i e) n 239 [.ah 2,ju,env.pv OE.pv] f (.af [T "g",.af []]))(B:aL (aE c d i e) n 154 [.ah 2,T "g"] f (.ab 1)):aL (aE c d i e) (n+1) 239 [.ah 2,.af [T "bin",.ab 0,T ".",a,ju],env.pv OE.pv] f (.af [T "g",.af [a]]):=λK C=>λY=>A _ λY=>B _ C
theorem ac8(A:aL (aE c d i e) n 239 [.ah 2,jv,env.pv OE.pv] f gj):aL (aE c d i e) (n+1) 239 [.ah 2,.af [T "bin",.ab 0,T ".",a,jv],env.pv OE.pv] f gj:=λK B=>λY=>A _ B
theorem aee(o:gE):aL (aE c d i e) (n+1) 239 [.ah 2,.af [T "bin",.ab 0,o.jw,a,b],env.pv OE.pv] f gj:=λK A=>by
 cases o<;>
 ·exact A
theorem X5:aL (aE c d i e) (n+1) 239 [.ah 2,.af [T "compr",.ab 0,a,b],env.pv OE.pv] f gj:=λK A=>A
theorem vW(A:aL (aE c d i e) n 239 [.ah 2,x,env.pv OE.pv] f gj):aL (aE c d i e) (n+1) 246 [.ah 2,x,env.pv OE.pv] f gj:=λK B=>λY=>A _ B
theorem O_(A:aL (aE c d i e) n 239 [.ah 2,x,env.pv OE.pv] f (.af [T "g",.af [a]]))(B:aL (aE c d i e) n 154 [.ah 2,T "g"] f (.ab 1)):aL (aE c d i e) (n+1) 246 [.ah 2,x,env.pv OE.pv] f (.af [T "g",.af [a]]):=λK C=>λY=>A _ λY=>B _ C
theorem aef(A:aL (aE c d i e) n 239 [.ah 2,x,env.pv OE.pv] f (.af [T "p",.af [a]]))(B:aL (aE c d i e) n 154 [.ah 2,T "p"] f (.ab 1)):aL (aE c d i e) (n+1) 246 [.ah 2,x,env.pv OE.pv] f (.af [T "p",.af [a]]):=λK C=>λY=>A _ λY=>B _ C
theorem X6(A:aL (aE c d i e) n 239 [.ah 2,x,env.pv OE.pv] f (.af [T "plus",.af [a,b]]))(B:aL (aE c d i e) n 154 [.ah 2,T "plus"] f (.ab 2)):aL (aE c d i e) (n+1) 246 [.ah 2,x,env.pv OE.pv] f (.af [T "plus",.af [a,b]]):=λK C=>λY=>A _ λY=>B _ C
end
section
variable{d:PV}{e:an}{i:bk}{h:aP}{f:W (X×al)}{n c:X}{env:E2 OE}{a b:PV}
theorem abH:aL (aE d e i h) (n+3) 154 [.ah 2,T "A"] (aM f c) (.ab (-1)):=XW PZ
theorem abI:aL (aE d e i h) (n+3) 154 [.ah 2,T "B"] (aM f c) (.ab (-1)):=XY P6
theorem N3:aL (aE d e i h) (n+3) 154 [.ah 2,T "f"] (aM f c) (.ab (-1)):=XZ P9 (L9 sm)
theorem wC:aL (aE d e i h) (n+3) 154 [.ah 2,T "g"] (aM f c) (.ab 1):=X0 aeR (XT sm)
theorem Gq:aL (aE d e i h) (n+3) 154 [.ah 2,T "p"] (aM f c) (.ab 1):=X4 aeS (XU sm)
theorem D9:aL (aE d e i h) (n+3) 154 [.ah 2,T "plus"] (aM f c) (.ab 2):=UO abC (UN sm)
theorem N4:aL (aE d e i h) (n+5) 246 [.ah 2,eV (.aA 66),env.pv OE.pv] (aM f c) gj:=vW (aeT abH)
theorem N5:aL (aE d e i h) (n+5) 246 [.ah 2,eV (.aA 67),env.pv OE.pv] (aM f c) gj:=vW (aeU abI)
theorem Lh:aL (aE d e i h) (n+6) 246 [.ah 2,.af [T "bin",.ab 0,T ".",a,jv],env.pv OE.pv] (aM f c) gj:=vW (ac8 (P_ N3))
theorem EJ(o:gE):aL (aE d e i h) (n+6) 246 [.ah 2,.af [T "bin",.ab 0,o.jw,a,b],env.pv OE.pv] (aM f c) gj:=vW (aee o)
theorem UQ:aL (aE d e i h) (n+6) 246 [.ah 2,.af [T "compr",.ab 0,a,b],env.pv OE.pv] (aM f c) gj:=vW X5
theorem KC:aL (aE d e i h) (n+6) 246 [.ah 2,.af [T "box",.ab 0,ju,.af [a]],env.pv OE.pv] (aM f c) (.af [T "g",.af [a]]):=O_ (abE (Qa wC) wC) wC
theorem KD:aL (aE d e i h) (n+6) 246 [.ah 2,.af [T "bin",.ab 0,T ".",a,ju],env.pv OE.pv] (aM f c) (.af [T "g",.af [a]]):=O_ (abG (Qa wC) wC) wC
theorem Vp:aL (aE d e i h) (n+6) 246 [.ah 2,.af [T "box",.ab 0,vb,.af [a]],env.pv OE.pv] (aM f c) (.af [T "p",.af [a]]):=aef (abF (aeV Gq) Gq) Gq
theorem J8:aL (aE d e i h) (n+6) 246 [.ah 2,.af [T "box",.ab 0,pS,.af [a,b]],env.pv OE.pv] (aM f c) (.af [T "plus",.af [a,b]]):=X6 (Vo (abD D9) D9) D9
end
@[reducible]noncomputable def cU(v:an)(k:X):PS:=.jz (bif v then 122 else 121) k
section
variable{f:PV}{j:an}{m:bk}{l:aP}{o:W (X×al)}{n c:X}{a b:PV}{r:ai}
theorem aeW:aL (aE f j m l) (n+1) 139 [.ah 2,T "A"] (aM o c) (OE.gG bn).pv:=λK h=>h
theorem aeX:aL (aE f j m l) (n+1) 139 [.ah 2,T "B"] (aM o c) (OE.gG M).pv:=λK h=>h
@[reducible]noncomputable def rA:PV:=.af [T "rel",.ab 2]
theorem aeY:aL (aE f j m l) (n+1) 139 [.ah 2,T "A.f"] (aM o c) rA:=λK h=>h
theorem Wr:aL (aE f j m l) (n+1) 111 [.aj [a]] r a:=λK h=>h
theorem Pa:tw (aW "A") 47 (aW "f")=1693634:=by kernel_rfl
theorem Qb:jg 1693634=M:=by kernel_rfl
theorem abJ(A:aL (aE f j m l) n 478 [.ah 1,T "A"] (aM o c) (.aJ M))(B:aL (aE f j m l) n 139 [.ah 2,T "A"] (aM o c) (OE.gG bn).pv):aL (aE f j m l) (n+1) 159 [.ah 2,.ae (.aA 66),.ab 0] (aM o c) (OE.gG bn).pv:=λK h=>λY=>A _ λY=>B _ h
theorem abK(A:aL (aE f j m l) n 478 [.ah 1,T "B"] (aM o c) (.aJ M))(B:aL (aE f j m l) n 139 [.ah 2,T "B"] (aM o c) (OE.gG M).pv):aL (aE f j m l) (n+1) 159 [.ah 2,.ae (.aA 67),.ab 0] (aM o c) (OE.gG M).pv:=λK h=>λY=>A _ λY=>B _ h
theorem abL(A:aL (aE f j m l) n 478 [.ah 1,T "f"] (aM o c) (.aJ bn))(B:aL (aE f j m l) n 144 [.ah 2,T "f"] (aM o c) (.aj [T "A"]))(C:aL (aE f j m l) n 139 [.ah 2,T "A.f"] (aM o c) rA)
  (D:aL (aE f j m l) n 111 [.aj [rA]] (aM o c) rA):aL (aE f j m l) (n+1) 159 [.ah 2,T "f",.ab 0] (aM o c) rA:=λK h=>by
 refine λY=>A _ λY=>B _ ?_
 conv=>(whnf;try dsimp only)
 refine eR Pa (eR Qb (λY=>C _ ?_))
 conv=>(whnf;try dsimp only)
 exact ⟨(λh=>nomatch h),(by decide:(1:Nat)≤4096),λY=>D _ h⟩
theorem X7(E:OE):aL (aE f j m l) (n+1) 315 [.ah 2,E.pv,T "set",.ab 0] r E.pv:=λK h=>by
 cases E with
 |bj A a b=>cases A<;>(conv=>whnf)<;>exact h
 |_=>(conv=>whnf);exact h
theorem Qc:aL (aE f j m l) (n+1) 218 [.ah 2,T "g"] (aM o c) (T "set"):=λK h=>h
theorem abM:aL (aE f j m l) (n+1) 218 [.ah 2,T "plus"] (aM o c) (T "number"):=λK h=>h
theorem N6{v:an}{K:PV->ai->Prop}(A:c+1≤1000000)(h:K (.ae (cU v (c+1))) (aM o (c+1))):aR (aE f j m l) (n+1) 132 [.ah 2,.ae (nm v)] (aM o c) K:=by
 have e:u8 (c+1) 1000000=M:=qY A
 cases v
 ·conv=>(whnf;try dsimp only)
  exact eR e h
 ·conv=>(whnf;try dsimp only)
  exact eR e h
theorem D_:aL (aE f j m l) (n+1) 569 [.ah 1] (aM o c) (.aj []):=λK h=>h
theorem HP(i:al)(A:i≠2)(B:aL (aE f j m l) n 555 [.ah 1] (aM o c) (.aj [oi]))(C:aL (aE f j m l) n 569 [.ah 1] (aM o c) (.aj [])):aL (aE f j m l) (n+1) 190 [.ah 2,.ab i] (aM o c) (.ab 1):=λK h=>by
 refine λY=>B _ ?_
 conv=>(whnf;try dsimp only)
 refine eR Pa (eR Qb ?_)
 conv=>(whnf;try dsimp only)
 refine eR (EQ λq=>A q.symm) (λY=>C _ ?_)
 conv=>(whnf;try dsimp only)
 exact ⟨(by decide:(0:Nat)≤4096),h⟩
theorem Ha{b:an}(A:aL (aE f j m l) n 190 [.ah 2,.ab (bif b then 1 else 0)] (aM o c) (.ab 1)):aL (aE f j m l) (n+1) 185 [.ah 2,(OE.gG b).pv] (aM o c) (.ab 1):=λK h=>λY=>A _ h
theorem X8{x y:OE}(A:aL (aE f j m l) n 185 [.ah 2,x.pv] (aM o c) (.ab 1)):aL (aE f j m l) (n+1) 185 [.ah 2,(OE.bj .jM x y).pv] (aM o c) (.ab 1):=λK h=>λY=>A _ h
theorem L'(d:dQ):aL (aE f j m l) (n+4) 185 [.ah 2,d.oe.pv] (aM o c) (.ab 1):=by
 cases d with
 |a=>exact Ha (b:=bn) (HP 0 (by decide) sm D_)
 |b=>exact Ha (b:=M) (HP 1 (by decide) sm D_)
 |fN=>exact X8 (Ha (b:=bn) (HP 0 (by decide) sm D_))
theorem ac9:aL (aE f j m l) (n+3) 159 [.ah 2,.ae (.aA 66),.ab 0] (aM o c) (OE.gG bn).pv:=abJ PZ aeW
theorem ada:aL (aE f j m l) (n+3) 159 [.ah 2,.ae (.aA 67),.ab 0] (aM o c) (OE.gG M).pv:=abK P6 aeX
theorem adb:aL (aE f j m l) (n+3) 159 [.ah 2,T "f",.ab 0] (aM o c) rA:=abL P9 (L9 sm) aeY Wr
end
theorem dR{C:iK}{H:bA}{A:W X}{s:MS}{r:W MS}{B:av}{D:ai}{Q:Fl->av->ai->Prop}(E:av)(F:ai)(I:∀R:Fl->av->ai->Prop,R .bp E F->cY C H A s B D R)(J:fy C H A r E F Q):fy C H A (s::r) B D Q:=I (λf B D=>match f with|.bp=>fy C H A r B D Q|.aB v=>Q (.aB v) B D) J
noncomputable def i7(C:iK)(E:bA)(A:W X)(t:eK)(B:W MS):PV->av->ai->Nx->Rt->Prop:=λv D F a R=>oS (eS t v D) λD=>nc C E A B D F a R
theorem uR{C:iK}{F:bA}{B:W X}{t:eK}{k:ky}{x:X}{D:W MS}{E:av}{H:ai}{Q:Fl->av->ai->Prop}{v:PV}{A:W PV}(I:aG E x=O (.ax v))(J:jT k [v]=O A)(L:lj t k=M)
  (h:jY (i7 C F B t D) A E H Q):cY C F B (.d9 t k [.aa x] D) E H Q:=by
 refine (?_:oT (lj t k) (oC E x λv E=>oS (jT k [v]) λA=>jY (i7 C F B t D) A E H Q))
 refine eR L (?_:oC E x λv E=>oS (jT k [v]) λA=>jY (i7 C F B t D) A E H Q)
 unfold oC
 refine eR I (?_:oS (jT k [v]) λA=>jY (i7 C F B t D) A E H Q)
 exact eR J h
theorem jq{C:iK}{F:bA}{A:W X}{t:eK}{B:W MS}{D:av}{E:ai}{Q:Fl->av->ai->Prop}{v:PV}{r:W PV}(H I:av)(J:ai)(L:eS t v D=O H)(P:∀R:Fl->av->ai->Prop,R .bp I J->fy C F A B H E R)
  (S:jY (i7 C F A t B) r I J Q):jY (i7 C F A t B) (v::r) D E Q:=by
 refine (?_:i7 C F A t B v D E _ _)
 unfold i7
 exact eR L (P (λf D E=>match f with|.bp=>jY (i7 C F A t B) r D E Q|.aB v=>Q (.aB v) D E) S)
theorem wO{A:PV->av->ai->Nx->Rt->Prop}{B:av}{C:ai}{Q:Fl->av->ai->Prop}(h:Q .bp B C):jY A [] B C Q:=h
noncomputable def bf(l:W MS):X->MS:=HT .eE l
noncomputable def Cq:MS->W MS
 |.d9 _ _ _ b=>b
 |_=>[]
section
variable{j:PV}{o:an}{s:bk}{r:aP}{m:W (X×al)}{n c:X}{a b:PV}{env:E2 OE}
theorem Hm{A:Type}(f:A->PV)(e:E2 A)(k:X)(B:k≤100):u8 ((e.ls f).length+k) 4000=M:=
 qY (io (yl (by cases e<;>exact ww N:(e.ls f).length≤2) B) (by decide))
theorem Gr(v:an)(p:PS):fE (env.ls OE.pv) (nm v) (.af [T "var",.ae p])=(env.aK v (.aa p)).ls OE.pv:=E2.fE OE.pv env v (.aa p)
@[reducible]noncomputable def nq:W X:=[27346712679,1964006,31649741026]
@[reducible]noncomputable def Ik(B e C D:PV)(A:av):av:=[(217805684,.ax (.ah 2)),(31368754021,.ax B),(1964006,.aX e),(27346712679,.aX C),(31649741026,.aX D)]++A
@[reducible]noncomputable def dV(B e C D E F H:PV)(A:av):av:=Ik B e C D ([(247216372,.ax (.ab 0)),(474605373897322,.ax E),(31354237295,.ax F),(247167854,.ax (T "")),(215578735,.ax H)]++A)
@[reducible]noncomputable def dT(A B:PV):av:=[(3842592454757,.ax A),(215726196,.ax B)]
@[reducible]noncomputable def iF(A B k name:PV):av:=[(3842592454757,.ax A),(215726196,.ax B),(108,.ax k),(215724399,.ax name)]
noncomputable def dB:W MS:=Cq (bf vM 1)
noncomputable def dI:W MS:=Cq (bf dB 3)
variable{w e A E B F t f H:PV}{C:iK}{D:ai}
theorem Rc{I:av}{R:Fl->av->ai->Prop}(h:R .bp (dV w e A E B F t I) D):cY C (aE j o s r) nq (bf dB 0) (dV w e A E B F t I) D R:=h
theorem ade{v:an}(I:f.dS=M)(J:aL (aE j o s r) n 289 [.ah 2,t,e] (aM m c) f)(L:∀K:PV->ai->Prop,K (.ae (cU v (c+1))) (aM m (c+1))->aR (aE j o s r) n 132 [.ah 2,.ae (nm v)] (aM m c) K){R:Fl->av->ai->Prop}
  (h:R .bp (dV w e A E B (.af [.ae (nm v)]) t (dT f (.aj [.ae (cU v (c+1))]))) (aM m (c+1))):cY (ba (aE j o s r) n) (aE j o s r) nq (bf dB 1) (dV w e A E B (.af [.ae (nm v)]) t []) (aM m c) R:=by
 exact λY=>J _ ⟨I,λY=>L _ (bt (λY=>N) (by decide:(1:Nat)≤4096) h)⟩
theorem adf(L:f.dS=M)(P:aL (aE j o s r) n 289 [.ah 2,t,e] (aM m c) f)(I:∀(v:an) (c:X) (K:PV->ai->Prop),K (.ae (cU v (c+1))) (aM m (c+1))->c+1≤1000000->aR (aE j o s r) n 132 [.ah 2,.ae (nm v)] (aM m c) K)(J:c+2≤1000000){R:Fl->av->ai->Prop}
  (h:R .bp (dV w e A E B (.af [T "x",T "y"]) t (dT f (.aj [.ae (cU bn (c+1)),.ae (cU M (c+2))]))) (aM m (c+2))):cY (ba (aE j o s r) n) (aE j o s r) nq (bf dB 1) (dV w e A E B (.af [T "x",T "y"]) t []) (aM m c) R:=by
 refine λY=>P _ ⟨L,λY=>I bn c _ ?_ (L1 0x8370dc370dc370dcf0bf041b86e1b86e1b86e78618 N J)⟩
 refine ⟨λY=>N,λY=>I M (c+1) _ ?_ (L1 0x20dc370dc370dc373c2f0bf041b86e1b86e1b86e78618 N J)⟩
 exact (bt (λY=>N) (by decide:(2:Nat)≤4096) h)
theorem Rd{I:av}(J:aL (aE j o s r) n 185 [.ah 2,f] D (.ab 1)){R:Fl->av->ai->Prop}(h:R .bp (dV w e A E B F t (dT f H)) D):cY (ba (aE j o s r) n) (aE j o s r) nq (bf dB 2) (dV w e A E B F t (dT f H)) D R:=λY=>J _ h
theorem T1(h:l.length≤4000):mQ 3500345686242 (.aj l) u=O (.aj (l++[u])):=by
 refine (?_:gd (u8 l.length 4000) (O (PV.aj (l++[u])))=_)
 exact eR (qY h) N
theorem Il{I:W PV}{i:al}{x:PV}(J:I.length≤10){R:Fl->av->ai->Prop}(h:R .bp (dV w e (.aj (I++[.af [x,f]])) E B F t (iF f H (.ab i) x)) D):cY C (aE j o s r) nq (bf dI 0) (dV w e (.aj I) E B F t (iF f H (.ab i) x)) D R:=by
 conv=>whnf
 exact eR (T1 (L1 0x8370dc374b041b9f8 N J)) h
theorem adg{x:PV}{R:Fl->av->ai->Prop}(h:R .bp (dV w e A (.aj []) B F t (iF f (.aj [x]) (.ab 0) x)) D):cY C (aE j o s r) nq (bf dI 1) (dV w e A (.aj []) B F t (iF f (.aj [x]) (.ab 0) x)) D R:=by
 conv=>whnf
 exact ⟨(by decide:(0:Nat)≤4096),h⟩
theorem abN{x y:PV}{R:Fl->av->ai->Prop}(h:R .bp (dV w e A (.aj []) B F t (iF f (.aj [x,y]) (.ab 0) x)) D):cY C (aE j o s r) nq (bf dI 1) (dV w e A (.aj []) B F t (iF f (.aj [x,y]) (.ab 0) x)) D R:=by
 conv=>whnf
 exact ⟨(by decide:(0:Nat)≤4096),h⟩
noncomputable def zb(I:an)(x y:PV):W PV:=bif I then [.af [T "not",.af [T "same",.af [T "var",y],.af [T "var",x]]]]else []
theorem abO{x y:PS}{I:an}{R:Fl->av->ai->Prop}(h:R .bp (dV w e A (.aj (zb I (.ae x) (.ae y))) (.aJ I) F t (iF f (.aj [.ae x,.ae y]) (.ab 1) (.ae y))) D):cY C (aE j o s r) nq (bf dI 1) (dV w e A (.aj []) (.aJ I) F t (iF f (.aj [.ae x,.ae y]) (.ab 1) (.ae y))) D R:=by
 cases I
 ·conv=>whnf
  exact ⟨(by decide:(0:Nat)≤4096),h⟩
 ·conv=>whnf
  exact (bt (λY=>N) (by decide:(1:Nat)≤4096) h)
theorem TF(v:an)(p:PS):mQ 3536307452150 (.a8 (env.ls OE.pv)) (.aj ([]++[.af [.ae (nm v),.af [.ae (.aA 1896823),.ae p]]]))=O (.a8 ((env.aK v (.aa p)).ls OE.pv)):=by
 refine (?_:gd (u8 ((env.ls OE.pv).length+1) 4000) ((O (fE (env.ls OE.pv) (nm v) (.af [T "var",.ae p]))).map PV.a8)=_)
 refine eR (Hm _ _ 1 (by decide) ..) (eR (Gr ..) ?_)
 rfl
theorem TG(p q:PS):mQ 3536307452150 (.a8 (env.ls OE.pv)) (.aj ([]++[.af [T "x",.af [.ae (.aA 1896823),.ae p]]]++[.af [T "y",.af [.ae (.aA 1896823),.ae q]]]))=O (.a8 (((env.aK bn (.aa p)).aK M (.aa q)).ls OE.pv)):=by
 refine (?_:gd (u8 ((env.ls OE.pv).length+2) 4000) ((O (fE (fE (env.ls OE.pv) (nm bn) (.af [T "var",.ae p])) (nm M) (.af [T "var",.ae q]))).map PV.a8)=_)
 refine eR (Hm _ _ 2 (by decide) ..) (eR (Gr ..) (eR (Gr ..) ?_))
 rfl
theorem adh{v:an}{p:PS}{k x:PV}{R:Fl->av->ai->Prop}(h:R .bp (dV w (.a8 ((env.aK v (.aa p)).ls OE.pv)) A E B (.af [.ae (nm v)]) t (iF f (.aj [.ae p]) k x)) D):cY C (aE j o s r) nq (bf dB 4) (dV w (.a8 (env.ls OE.pv)) A E B (.af [.ae (nm v)]) t (iF f (.aj [.ae p]) k x)) D R:=by
 conv=>whnf
 refine (bt (λY=>N) (by decide:(1:Nat)≤4096) ?_)
 conv=>whnf
 exact eR (TF v p) h
theorem adi{p q:PS}{k x:PV}{R:Fl->av->ai->Prop}(h:R .bp (dV w (.a8 (((env.aK bn (.aa p)).aK M (.aa q)).ls OE.pv)) A E B (.af [T "x",T "y"]) t (iF f (.aj [.ae p,.ae q]) k x)) D):cY C (aE j o s r) nq (bf dB 4) (dV w (.a8 (env.ls OE.pv)) A E B (.af [T "x",T "y"]) t (iF f (.aj [.ae p,.ae q]) k x)) D R:=by
 conv=>whnf
 refine ⟨λY=>N,?_⟩
 conv=>whnf
 refine (bt (λY=>N) (by decide:(2:Nat)≤4096) ?_)
 conv=>whnf
 exact eR (TG p q) h
theorem X9{v:an}{d:dQ}{K:PV->ai->Prop}(J:c+1≤1000000)(L:aL (aE j o s r) n 289 [.ah 2,d.pv,env.pv OE.pv] (aM m c) d.oe.pv)
  (P:∀(v:an) (c:X) (K:PV->ai->Prop),K (.ae (cU v (c+1))) (aM m (c+1))->c+1≤1000000->aR (aE j o s r) n 132 [.ah 2,.ae (nm v)] (aM m c) K) (S:aL (aE j o s r) n 185 [.ah 2,d.oe.pv] (aM m (c+1)) (.ab 1))
  (h:K (.af [.af [fj (cU v (c+1)) d.oe.pv],(env.aK v (.aa (cU v (c+1)))).pv OE.pv,.aj []]) (aM m (c+1))):aR (aE j o s r) (n+1) 275 [.ah 2,.af [lU v d],env.pv OE.pv] (aM m c) K:=by
 have U:d.oe.pv.dS=M:=by cases d<;>rfl
 refine (?_:fy (ba (aE j o s r) n) (aE j o s r) nq [bf vM 0,.d9 (.bS [247216372,474605373897322,31354237295,247167854,215578735]) .bK [.aa 31368754021] [bf dB 0,bf dB 1,bf dB 2,.d9 (.bS [108,215724399]) .p9 [.aa 215726196] [bf dI 0,bf dI 1],bf dB 4],bf vM 2]
  [(217805684,.ax (.ah 2)),(31368754021,.ax (.af [lU v d])),(1964006,.ax (.a8 (env.ls OE.pv)))] (aM m c) (kQ K))
 refine dR (Ik (.af [lU v d]) (.a8 (env.ls OE.pv)) (.aj []) (.aj []) []) (aM m c) (λR I=>by(conv=>whnf);exact I) ?_
 refine dR (dV (.af [lU v d]) (.a8 ((env.aK v (.aa (cU v (c+1)))).ls OE.pv)) (.aj [.af [.ae (cU v (c+1)),d.oe.pv]]) (.aj []) (.aJ bn) (.af [.ae (nm v)]) d.pv (iF d.oe.pv (.aj [.ae (cU v (c+1))]) (.ab 0) (.ae (cU v (c+1))))) (aM m (c+1)) (λR I=>?_) ?_
 ·refine uR N N N (jq (dV (.af [lU v d]) (.a8 (env.ls OE.pv)) (.aj []) (.aj []) (.aJ bn) (.af [.ae (nm v)]) d.pv []) _ (aM m (c+1)) N (λR I=>?_) (wO I))
  refine dR _ _ (λR I=>Rc I) (dR _ _ (λR I=>ade U L (λK Y=>P v c K Y J) I) (dR _ _ (λR I=>Rd (I:=[]) S I) ?_))
  refine dR (dV (.af [lU v d]) (.a8 (env.ls OE.pv)) (.aj [.af [.ae (cU v (c+1)),d.oe.pv]]) (.aj []) (.aJ bn) (.af [.ae (nm v)]) d.pv (iF d.oe.pv (.aj [.ae (cU v (c+1))]) (.ab 0) (.ae (cU v (c+1))))) (aM m (c+1)) (λR I=>?_) ?_
  ·refine uR N N N (jq (dV (.af [lU v d]) (.a8 (env.ls OE.pv)) (.aj []) (.aj []) (.aJ bn) (.af [.ae (nm v)]) d.pv (iF d.oe.pv (.aj [.ae (cU v (c+1))]) (.ab 0) (.ae (cU v (c+1))))) _ (aM m (c+1)) N (λR I=>?_) (wO I))
   exact dR _ _ (λR I=>Il (I:=[]) (by decide) I) (dR _ _ (λR I=>adg I) I)
  ·exact dR _ _ (λR I=>adh I) I
 ·exact h
theorem X'{I:an}{d:dQ}{K:PV->ai->Prop}(L:c+2≤1000000)(P:aL (aE j o s r) n 289 [.ah 2,d.pv,env.pv OE.pv] (aM m c) d.oe.pv)
  (S:∀(v:an) (c:X) (K:PV->ai->Prop),K (.ae (cU v (c+1))) (aM m (c+1))->c+1≤1000000->aR (aE j o s r) n 132 [.ah 2,.ae (nm v)] (aM m c) K) (U:aL (aE j o s r) n 185 [.ah 2,d.oe.pv] (aM m (c+2)) (.ab 1))
  (h:K (.af [.af [fj (cU bn (c+1)) d.oe.pv,fj (cU M (c+2)) d.oe.pv],((env.aK bn (.aa (cU bn (c+1)))).aK M (.aa (cU M (c+2)))).pv OE.pv,.aj (zb I (.ae (cU bn (c+1))) (.ae (cU M (c+2))))]) (aM m (c+2))):aR (aE j o s r) (n+1) 275 [.ah 2,.af [la I d],env.pv OE.pv] (aM m c) K:=by
 have Y:d.oe.pv.dS=M:=by cases d<;>rfl
 refine (?_:fy (ba (aE j o s r) n) (aE j o s r) nq [bf vM 0,.d9 (.bS [247216372,474605373897322,31354237295,247167854,215578735]) .bK [.aa 31368754021] [bf dB 0,bf dB 1,bf dB 2,.d9 (.bS [108,215724399]) .p9 [.aa 215726196] [bf dI 0,bf dI 1],bf dB 4],bf vM 2]
  [(217805684,.ax (.ah 2)),(31368754021,.ax (.af [la I d])),(1964006,.ax (.a8 (env.ls OE.pv)))] (aM m c) (kQ K))
 refine dR (Ik (.af [la I d]) (.a8 (env.ls OE.pv)) (.aj []) (.aj []) []) (aM m c) (λR J=>by(conv=>whnf);exact J) ?_
 generalize Z:cU bn (c+1)=p at*
 generalize y:cU M (c+2)=q at*
 refine dR (dV (.af [la I d]) (.a8 (((env.aK bn (.aa p)).aK M (.aa q)).ls OE.pv)) (.aj [.af [.ae p,d.oe.pv],.af [.ae q,d.oe.pv]]) (.aj (zb I (.ae p) (.ae q))) (.aJ I) (.af [T "x",T "y"]) d.pv (iF d.oe.pv (.aj [.ae p,.ae q]) (.ab 1) (.ae q))) (aM m (c+2)) (λR J=>?_) ?_
 ·refine uR N N N (jq (dV (.af [la I d]) (.a8 (env.ls OE.pv)) (.aj []) (.aj []) (.aJ I) (.af [T "x",T "y"]) d.pv []) _ (aM m (c+2)) N (λR J=>?_) (wO J))
  refine dR _ _ (λR J=>Rc J) (dR (dV (.af [la I d]) (.a8 (env.ls OE.pv)) (.aj []) (.aj []) (.aJ I) (.af [T "x",T "y"]) d.pv (dT d.oe.pv (.aj [.ae p,.ae q]))) (aM m (c+2)) (λR J=>adf Y P S L (eR Z (eR y J))) (dR _ _ (λR J=>Rd (I:=[]) U J) ?_))
  refine dR (dV (.af [la I d]) (.a8 (env.ls OE.pv)) (.aj [.af [.ae p,d.oe.pv],.af [.ae q,d.oe.pv]]) (.aj (zb I (.ae p) (.ae q))) (.aJ I) (.af [T "x",T "y"]) d.pv (iF d.oe.pv (.aj [.ae p,.ae q]) (.ab 1) (.ae q))) (aM m (c+2)) (λR J=>?_) ?_
  ·refine uR N N N ?_
   refine jq (dV (.af [la I d]) (.a8 (env.ls OE.pv)) (.aj []) (.aj []) (.aJ I) (.af [T "x",T "y"]) d.pv (iF d.oe.pv (.aj [.ae p,.ae q]) (.ab 0) (.ae p))) (dV (.af [la I d]) (.a8 (env.ls OE.pv)) (.aj [.af [.ae p,d.oe.pv]]) (.aj []) (.aJ I) (.af [T "x",T "y"]) d.pv (iF d.oe.pv (.aj [.ae p,.ae q]) (.ab 0) (.ae p))) (aM m (c+2)) N (λR J=>?_) ?_
   ·exact dR _ _ (λR J=>Il (I:=[]) (by decide) J) (dR _ _ (λR J=>abN J) J)
   ·refine jq (dV (.af [la I d]) (.a8 (env.ls OE.pv)) (.aj [.af [.ae p,d.oe.pv]]) (.aj []) (.aJ I) (.af [T "x",T "y"]) d.pv (iF d.oe.pv (.aj [.ae p,.ae q]) (.ab 1) (.ae q))) _ (aM m (c+2)) N (λR J=>?_) (wO J)
    exact dR _ _ (λR J=>Il (I:=[.af [.ae p,d.oe.pv]]) (by simp) J) (dR _ _ (λR J=>abO J) J)
  ·exact dR _ _ (λR J=>adi J) J
 ·exact h
end
section
variable{d:PV}{i:an}{l:bk}{j:aP}{r:W (X×al)}{n c:X}{a b x y z:PV}{env:E2 OE}{m:ai}
@[reducible]noncomputable def cn(d:PV)(i:an)(l:bk)(j:aP)(r:W (X×al))(n f:X)(args:W PV)(c:X)(P:PV->X->Prop):Prop:=∀K:PV->ai->Prop,(∀v A,P v A->K v (aM r A))->aR (aE d i l j) n f args (aM r c) K
theorem sh:aL (aE d i l j) (n+1) 104 [.aj [a]] m a:=λK h=>h
theorem Ws:aL (aE d i l j) (n+1) 104 [.aj [a,b]] m (.af [T "and",.af [a,b]]):=λK h=>h
theorem abP(h:env.jU v=O E):aL (aE d i l j) (n+1) 211 [.ah 2,eV (nm v),env.pv OE.pv] m (T "set"):=λK A=>by
 conv=>(whnf;try dsimp only)
 refine eR (zl h) ?_
 cases E with
 |bj B a b=>cases B<;>(conv=>(whnf;try dsimp only))<;>exact eR (show eN (.a8 (env.ls OE.pv)) (.ae (nm v))=_ from zl h) A
 |_=>(conv=>whnf);exact eR (show eN (.a8 (env.ls OE.pv)) (.ae (nm v))=_ from zl h) A
theorem aeg(A:aL (aE d i l j) n 246 [.ah 2,eV (.aA 66),env.pv OE.pv] m gj):aL (aE d i l j) (n+1) 211 [.ah 2,eV (.aA 66),env.pv OE.pv] m (T "set"):=λK B=>by
 conv=>(whnf;try dsimp only)
 exact eR (E2.pY _ _ 66 (by decide) (by decide)) (λY=>A _ B)
theorem aeh(A:aL (aE d i l j) n 246 [.ah 2,eV (.aA 67),env.pv OE.pv] m gj):aL (aE d i l j) (n+1) 211 [.ah 2,eV (.aA 67),env.pv OE.pv] m (T "set"):=λK B=>by
 conv=>(whnf;try dsimp only)
 exact eR (E2.pY _ _ 67 (by decide) (by decide)) (λY=>A _ B)
theorem abQ(A:aL (aE d i l j) n 246 [.ah 2,.af [T "bin",.ab 0,T ".",a,jv],env.pv OE.pv] m gj):aL (aE d i l j) (n+1) 211 [.ah 2,.af [T "bin",.ab 0,T ".",a,jv],env.pv OE.pv] m (T "set"):=λK B=>λY=>A _ B
theorem adj(o:gE)(A:aL (aE d i l j) n 246 [.ah 2,.af [T "bin",.ab 0,o.jw,a,b],env.pv OE.pv] m gj):aL (aE d i l j) (n+1) 211 [.ah 2,.af [T "bin",.ab 0,o.jw,a,b],env.pv OE.pv] m (T "set"):=λK B=>by
 cases o<;>
 ·exact λY=>A _ B
theorem Wt(A:aL (aE d i l j) n 246 [.ah 2,.af [T "compr",.ab 0,a,b],env.pv OE.pv] m gj):aL (aE d i l j) (n+1) 211 [.ah 2,.af [T "compr",.ab 0,a,b],env.pv OE.pv] m (T "set"):=λK B=>λY=>A _ B
theorem X_(A:aL (aE d i l j) n 246 [.ah 2,.af [T "box",.ab 0,ju,.af [a]],env.pv OE.pv] m (.af [T "g",.af [a]]))(B:aL (aE d i l j) n 218 [.ah 2,T "g"] m (T "set")):aL (aE d i l j) (n+1) 211 [.ah 2,.af [T "box",.ab 0,ju,.af [a]],env.pv OE.pv] m (T "set"):=λK C=>λY=>A _ λY=>B _ C
theorem Yb(A:aL (aE d i l j) n 246 [.ah 2,.af [T "bin",.ab 0,T ".",a,ju],env.pv OE.pv] m (.af [T "g",.af [a]]))(B:aL (aE d i l j) n 218 [.ah 2,T "g"] m (T "set")):aL (aE d i l j) (n+1) 211 [.ah 2,.af [T "bin",.ab 0,T ".",a,ju],env.pv OE.pv] m (T "set"):=λK C=>λY=>A _ λY=>B _ C
theorem Yc(A:aL (aE d i l j) n 246 [.ah 2,.af [T "box",.ab 0,pS,.af [a,b]],env.pv OE.pv] m (.af [T "plus",.af [a,b]]))(B:aL (aE d i l j) n 218 [.ah 2,T "plus"] m (T "number")):aL (aE d i l j) (n+1) 211 [.ah 2,.af [T "box",.ab 0,pS,.af [a,b]],env.pv OE.pv] m (T "number"):=λK C=>λY=>A _ λY=>B _ C
theorem abR:aL (aE d i l j) (n+1) 211 [.ah 2,.af [T "num",.ab 0,a],env.pv OE.pv] m (T "number"):=λK A=>A
theorem abS:aL (aE d i l j) (n+1) 211 [.ah 2,.af [T "quant",.ab 0,T "sum",a,b],env.pv OE.pv] m (T "number"):=λK A=>A
theorem Wu:aL (aE d i l j) (n+1) 211 [.ah 2,.af [T "un",.ab 0,T "#",a],env.pv OE.pv] m (T "number"):=λK A=>A
theorem adk{K:PV->ai->Prop}(h:aR (aE d i l j) n 211 [.ah 2,x,env.pv OE.pv] m K):aR (aE d i l j) (n+1) 211 [.ah 2,.af [T "if",.ab 0,a,x,b],env.pv OE.pv] m K:=λY=>h
theorem abT{K:PV->ai->Prop}{P:PV->X->Prop}(B:cn d i l j r n 232 [.ah 2,.af [T "let",.ab 0,a,b,x],env.pv OE.pv] c P)(h:∀v A,P v A->aR (aE d i l j) n 211 [.ah 2,x,v] (aM r A) K):aR (aE d i l j) (n+1) 211 [.ah 2,.af [T "let",.ab 0,a,b,x],env.pv OE.pv] (aM r c) K:=λY=>B _ λv A C=>λY=>h v A C
theorem Yd{K:PV->ai->Prop}{P:PV->X->Prop}(C:cn d i l j r n 211 [.ah 2,x,env.pv OE.pv] c λv A=>v=T "set" ∧P v A)(D:∀A,P (T "set") A->aR (aE d i l j) n 289 [.ah 2,x,env.pv OE.pv] (aM r A) K):aR (aE d i l j) (n+1) 225 [.ah 2,x,env.pv OE.pv] (aM r c) K:=by
 refine λY=>C _ λv A B=>?_
 obtain ⟨rfl,B⟩:=B
 exact λY=>D A B
theorem adl{A:Type}(f:A->PV)(e:E2 A):u8 (e.ls f).length 4000=M:=Hm f e 0 (by decide)
theorem adm{K:PV->ai->Prop}{v:an}{P:OE->X->Prop}(C:cn d i l j r n 225 [.ah 2,b,env.pv OE.pv] c λu A=>∃E:OE,u=E.pv∧P E A)(h:∀E A,P E A->K ((env.aK v E).pv OE.pv) (aM r A)):aR (aE d i l j) (n+1) 232 [.ah 2,.af [T "let",.ab 0,.ae (nm v),b,x],env.pv OE.pv] (aM r c) K:=by
 refine λY=>C _ λu A B=>?_
 obtain ⟨E,rfl,B⟩:=B
 conv=>(whnf;try dsimp only)
 refine eR (adl ..) ?_
 conv=>(whnf;try dsimp only)
 exact eR (show fE (env.ls OE.pv) (nm v) E.pv=(env.aK v E).ls OE.pv from E2.fE OE.pv env v E ..) (h E A B)
theorem Wv{K:PV->ai->Prop}{P:OE->X->Prop}(C:cn d i l j r n 225 [.ah 2,a,env.pv OE.pv] c λu A=>∃E:OE,u=E.pv∧P E A)(h:∀E A,P E A->K ((E2.y E).pv OE.pv) (aM r A)):aR (aE d i l j) (n+1) 251 [.ah 2,T "g",.af [a],env.pv OE.pv] (aM r c) K:=by
 conv=>(whnf;try dsimp only)
 refine ⟨(λh=>nomatch h),(by decide:(1:Nat)≤4096),λY=>C _ λu A B=>?_⟩
 obtain ⟨E,rfl,B⟩:=B
 conv=>(whnf;try dsimp only)
 exact ⟨(λh=>nomatch h),(by decide:(1:Nat)≤4096),h E A B⟩
theorem Ww{K:PV->ai->Prop}{P:OE->X->Prop}(C:cn d i l j r n 225 [.ah 2,a,env.pv OE.pv] c λu A=>∃E:OE,u=E.pv∧P E A)(h:∀E A,P E A->K ((E2.aU.aK i E).pv OE.pv) (aM r A)):aR (aE d i l j) (n+1) 251 [.ah 2,T "p",.af [a],env.pv OE.pv] (aM r c) K:=by
 conv=>(whnf;try dsimp only)
 refine ⟨(λh=>nomatch h),(by decide:(1:Nat)≤4096),λY=>C _ λu A B=>?_⟩
 obtain ⟨E,rfl,B⟩:=B
 conv=>(whnf;try dsimp only)
 refine ⟨(λh=>nomatch h),(by decide:(1:Nat)≤4096),?_⟩
 conv=>(whnf;try dsimp only)
 have:=h E A B
 cases i<;>exact this
end
section
variable{d:PV}{j:an}{l:bk}{e:aP}{m:W (X×al)}{n c:X}{a b x y z:PV}{env:E2 OE}{r:ai}{K:PV->ai->Prop}{P R:PV->X->Prop}
@[reducible]noncomputable def WP(d:PV)(j:an)(l:bk)(e:aP)(m:W (X×al))(n f:X)(args:W PV)(c:X)(K:PV->ai->Prop):Prop:=aR (aE d j l e) n f args (aM m c) K
theorem abU(h:env.jU v=O E)(A:aL (aE d j l e) n 315 [.ah 2,E.pv,T "set",.ab 0] r E.pv):aL (aE d j l e) (n+1) 289 [.ah 2,eV (nm v),env.pv OE.pv] r E.pv:=λK B=>by
 conv=>(whnf;try dsimp only)
 refine eR (zl h) ?_
 conv=>(whnf;try dsimp only)
 exact eR (show eN (.a8 (env.ls OE.pv)) (.ae (nm v))=_ from zl h) (λY=>A _ B)
theorem aei(A:aL (aE d j l e) n 246 [.ah 2,eV (.aA 66),env.pv OE.pv] r gj)(B:aL (aE d j l e) n 159 [.ah 2,.ae (.aA 66),.ab 0] r a):aL (aE d j l e) (n+1) 289 [.ah 2,eV (.aA 66),env.pv OE.pv] r a:=λK C=>by
 conv=>(whnf;try dsimp only)
 exact eR (E2.pY _ _ 66 (by decide) (by decide)) (λY=>A _ (λY=>B _ C))
theorem aej(A:aL (aE d j l e) n 246 [.ah 2,eV (.aA 67),env.pv OE.pv] r gj)(B:aL (aE d j l e) n 159 [.ah 2,.ae (.aA 67),.ab 0] r a):aL (aE d j l e) (n+1) 289 [.ah 2,eV (.aA 67),env.pv OE.pv] r a:=λK C=>by
 conv=>(whnf;try dsimp only)
 exact eR (E2.pY _ _ 67 (by decide) (by decide)) (λY=>A _ (λY=>B _ C))
theorem aek(A:aL (aE d j l e) n 246 [.ah 2,jv,env.pv OE.pv] r gj)(B:aL (aE d j l e) n 159 [.ah 2,T "f",.ab 0] r a):aL (aE d j l e) (n+1) 289 [.ah 2,jv,env.pv OE.pv] r a:=λK C=>by
 conv=>(whnf;try dsimp only)
 exact eR QH (λY=>A _ (λY=>B _ C))
theorem abV(B:aL (aE d j l e) n 246 [.ah 2,.af [T "bin",.ab 0,T ".",a,jv],env.pv OE.pv] (aM m c) gj)(C:cn d j l e m n 289 [.ah 2,a,env.pv OE.pv] c P)
  (D:∀A,aL (aE d j l e) n 289 [.ah 2,jv,env.pv OE.pv] (aM m A) rA) (h:∀v A,P v A->K (.af [T "join",v,rA]) (aM m A)):WP d j l e m (n+1) 289 [.ah 2,.af [T "bin",.ab 0,T ".",a,jv],env.pv OE.pv] c K:=by
 exact λY=>B _ λY=>C _ λv A E=>λY=>D _ _ (h v A E)
theorem OJ{o:gE}(C:aL (aE d j l e) n 246 [.ah 2,.af [T "bin",.ab 0,o.jw,a,b],env.pv OE.pv] (aM m c) gj)(D:cn d j l e m n 289 [.ah 2,a,env.pv OE.pv] c P)
  (E:∀v B,P v B->cn d j l e m n 289 [.ah 2,b,env.pv OE.pv] B λu A=>K (.af [o.uS,v,u]) (aM m A)):WP d j l e m (n+1) 289 [.ah 2,.af [T "bin",.ab 0,o.jw,a,b],env.pv OE.pv] c K:=by
 cases o<;>
 ·exact λY=>C _ λY=>D _ λv B F=>λY=>E v B F _ λu A H=>H
theorem Ye(A:aL (aE d j l e) n 246 [.ah 2,.af [T "box",.ab 0,ju,.af [a]],env.pv OE.pv] (aM m c) (.af [T "g",.af [a]]))(h:WP d j l e m n 322 [.ah 2,T "g",.af [a],env.pv OE.pv,.ab 0] c K):WP d j l e m (n+1) 289 [.ah 2,.af [T "box",.ab 0,ju,.af [a]],env.pv OE.pv] c K:=λY=>A _ λY=>h
theorem Yg(A:aL (aE d j l e) n 246 [.ah 2,.af [T "bin",.ab 0,T ".",a,ju],env.pv OE.pv] (aM m c) (.af [T "g",.af [a]]))(h:WP d j l e m n 322 [.ah 2,T "g",.af [a],env.pv OE.pv,.ab 0] c K):WP d j l e m (n+1) 289 [.ah 2,.af [T "bin",.ab 0,T ".",a,ju],env.pv OE.pv] c K:=λY=>A _ λY=>h
theorem abW(B:cn d j l e m n 251 [.ah 2,T "g",.af [a],env.pv OE.pv] c P)(h:∀v A,P v A->WP d j l e m n 289 [.ah 2,e.pv,v] A K):WP d j l e m (n+1) 322 [.ah 2,T "g",.af [a],env.pv OE.pv,.ab 0] c K:=λY=>B _ λv A C=>λY=>h v A C
theorem Wx(C:∀K:PV->ai->Prop,K (.af [D,B,.aj []]) (aM m (c+1))->WP d j l e m n 275 [.ah 2,a,env.pv OE.pv] c K)(E:cn d j l e m n 256 [.ah 2,t,B] (c+1) P)
  (F:∀v A,aL (aE d j l e) n 104 [.aj [v]] (aM m A) v) (h:∀v A,P v A->K (.af [T "comp",D,v]) (aM m A)):WP d j l e m (n+1) 289 [.ah 2,.af [T "compr",.ab 0,a,t],env.pv OE.pv] c K:=by
 exact λY=>C _ λY=>E _ λv A H=>λY=>F v A _ (h v A H)
theorem adn(D:cn d j l e m n 256 [.ah 2,t,env.pv OE.pv] c P)(E:∀v B,P v B->cn d j l e m n 289 [.ah 2,a,env.pv OE.pv] B λu A=>cn d j l e m n 289 [.ah 2,b,env.pv OE.pv] A λw C=>K (.af [T "either",v,u,w]) (aM m C)):
  WP d j l e m (n+1) 289 [.ah 2,.af [T "if",.ab 0,t,a,b],env.pv OE.pv] c K:=by
 exact λY=>D _ λv B F=>λY=>E v B F _ λu A H=>λY=>H _ λw C I=>I
theorem abX(B:cn d j l e m n 232 [.ah 2,.af [T "let",.ab 0,a,b,x],env.pv OE.pv] c P)(h:∀v A,P v A->WP d j l e m n 289 [.ah 2,x,v] A K):WP d j l e m (n+1) 289 [.ah 2,.af [T "let",.ab 0,a,b,x],env.pv OE.pv] c K:=λY=>B _ λv A C=>λY=>h v A C
theorem Wy:aL (aE d j l e) (n+1) 329 [.ah 2,.af [T "num",.ab 0,.ab i],env.pv OE.pv] r (.af [T "num",.ab i]):=λK A=>A
theorem UR(h:cn d j l e m n 289 [.ah 2,a,env.pv OE.pv] c λv A=>K (.af [T "count",v]) (aM m A)):WP d j l e m (n+1) 329 [.ah 2,.af [T "un",.ab 0,T "#",a],env.pv OE.pv] c K:=λY=>h _ λv A B=>B
theorem Vq(D:aL (aE d j l e) n 246 [.ah 2,.af [T "box",.ab 0,pS,.af [a,b]],env.pv OE.pv] (aM m c) (.af [T "plus",.af [a,b]]))
  (h:cn d j l e m n 329 [.ah 2,a,env.pv OE.pv] c λv C=>cn d j l e m n 329 [.ah 2,b,env.pv OE.pv] C λu A=>K (.af [T "plus",v,u]) (aM m A)):WP d j l e m (n+1) 329 [.ah 2,.af [T "box",.ab 0,pS,.af [a,b]],env.pv OE.pv] c K:=by
 exact λY=>D _ λY=>h _ λv C B=>λY=>B _ λu A B=>B
theorem Wz(C:∀K:PV->ai->Prop,K (.af [D,A,.aj []]) (aM m (c+1))->WP d j l e m n 275 [.ah 2,a,env.pv OE.pv] c K)(E:cn d j l e m n 329 [.ah 2,t,A] (c+1) λv B=>K (.af [T "sum",D,v]) (aM m B)):
  WP d j l e m (n+1) 329 [.ah 2,.af [T "quant",.ab 0,T "sum",a,t],env.pv OE.pv] c K:=by
 exact λY=>C _ λY=>E _ λv B F=>F
end
section
variable{d:PV}{i:an}{f:bk}{j:aP}{e:W (X×al)}{n c:X}{a b x y z:PV}{env:E2 OE}{m:ai}{K:PV->ai->Prop}{P R:PV->X->Prop}
theorem WA(s:aP):aL (aE d i f j) (n+1) 336 [.ah 2,s.pv] m (.aJ bn):=λK B=>by
 cases s with
 |kg A s=>cases A<;>(conv=>whnf)<;>exact B
 |_=>(conv=>whnf);exact B
theorem WB(B:cn d i f j e n 289 [.ah 2,b,env.pv OE.pv] c P)(C:∀A,aL (aE d i f j) n 336 [.ah 2,b] (aM e A) (.aJ bn))(D:∀v A,aL (aE d i f j) n 104 [.aj [v]] (aM e A) v)
  (h:∀v A,P v A->K (.af [T "in",a,v]) (aM e A)):WP d i f j e (n+1) 343 [.ah 2,a,b,env.pv OE.pv] c K:=by
 exact λY=>B _ λv A E=>λY=>C A _ λY=>D _ A _ (h v A E)
theorem abY{o:oH}(h:cn d i f j e n 256 [.ah 2,a,env.pv OE.pv] c λv C=>cn d i f j e n 256 [.ah 2,b,env.pv OE.pv] C λu A=>K (match o with|.xD=>.af [T "and",.af [v,u]]|.or=>.af [T "or",.af [v,u]]|.iC=>.af [T "implies",v,u]|.mm=>.af [T "iff",v,u]) (aM e A)):
  WP d i f j e (n+1) 270 [.ah 2,.af [T "bin",.ab 0,o.pv,a,b],env.pv OE.pv] c K:=by
 cases o<;>
 ·exact λY=>h _ λv C B=>λY=>B _ λu A B=>B
theorem Yh(D:cn d i f j e n 211 [.ah 2,a,env.pv OE.pv] c λv B=>v=T "set" ∧cn d i f j e n 289 [.ah 2,a,env.pv OE.pv] B λv B=>cn d i f j e n 289 [.ah 2,b,env.pv OE.pv] B λu C=>K (.af [T "same",v,u]) (aM e C)):
  WP d i f j e (n+1) 270 [.ah 2,.af [T "bin",.ab 0,T "=",a,b],env.pv OE.pv] c K:=by
 refine λY=>D _ λv B A=>?_
 obtain ⟨rfl,A⟩:=A
 exact λY=>A _ λv B A=>λY=>A _ λu C A=>A
theorem ado(h:cn d i f j e n 289 [.ah 2,a,env.pv OE.pv] c λv A=>WP d i f j e n 343 [.ah 2,v,b,env.pv OE.pv] A K):
  WP d i f j e (n+1) 270 [.ah 2,.af [T "bin",.ab 0,T "in",a,b],env.pv OE.pv] c K:=by
 exact λY=>h _ λv A B=>λY=>B
theorem abZ{s:l8}(D:s=.eq->aL (aE d i f j) n 211 [.ah 2,a,env.pv OE.pv] (aM e c) (T "number"))(h:cn d i f j e n 329 [.ah 2,a,env.pv OE.pv] c λv C=>cn d i f j e n 329 [.ah 2,b,env.pv OE.pv] C λu B=>K (.af [s.uS,v,u]) (aM e B)):
  WP d i f j e (n+1) 270 [.ah 2,.af [T "bin",.ab 0,s.pv,a,b],env.pv OE.pv] c K:=by
 cases s
 ·exact λY=>h _ λv C A=>λY=>A _ λu B A=>A
 ·exact λY=>h _ λv C A=>λY=>A _ λu B A=>A
 ·exact λY=>D N _ λY=>h _ λv C A=>λY=>A _ λu B A=>A
noncomputable def zm(k:i_)(A v:PV):PV:=match k with
 |.jx=>.af [T "all",A,v]
 |.fL=>.af [T "exists",A,v]
 |.no=>.af [T "not",.af [T "exists",A,v]]
 |.l7=>.af [T "lone",.af [T "comp",A,v]]
 |.ak=>.af [T "one",.af [T "comp",A,v]]
theorem Li(D:∀K:PV->ai->Prop,K (.af [F,B,.aj []]) (aM e H)->WP d i f j e n 275 [.ah 2,a,env.pv OE.pv] c K)(I:∀v A,aL (aE d i f j) n 104 [.aj [v]] (aM e A) v)
  (E:cn d i f j e n 256 [.ah 2,t,B] H λv A=>K (zm k F v) (aM e A)):WP d i f j e (n+1) 282 [.ah 2,k.pv,a,t,env.pv OE.pv] c K:=by
 cases k
 ·exact λY=>D _ λY=>E _ λv A C=>C
 all_goals
 ·exact λY=>D _ λY=>E _ λv A C=>λY=>I v A _ C
theorem Vr(F:∀K:PV->ai->Prop,K (.af [I,C,.aj [B]]) (aM e J)->WP d i f j e n 275 [.ah 2,a,env.pv OE.pv] c K)(L:∀v A,aL (aE d i f j) n 104 [.aj [v]] (aM e A) v)(D:∀u v A,aL (aE d i f j) n 104 [.aj [u,v]] (aM e A) (.af [T "and",.af [u,v]]))
  (H:cn d i f j e n 256 [.ah 2,t,C] J λv A=>K (zm k I (match k with|.jx=>.af [T "implies",B,v]|_=>.af [T "and",.af [B,v]])) (aM e A)):WP d i f j e (n+1) 282 [.ah 2,k.pv,a,t,env.pv OE.pv] c K:=by
 cases k
 ·exact λY=>F _ λY=>H _ λv A E=>λY=>L B A _ E
 all_goals
 ·exact λY=>F _ λY=>H _ λv A E=>λY=>D B v A _ E
theorem Yi(h:cn d i f j e n 256 [.ah 2,a,env.pv OE.pv] c λv A=>K (.af [T "not",v]) (aM e A)):WP d i f j e (n+1) 256 [.ah 2,.af [T "un",.ab 0,T "!",a],env.pv OE.pv] c K:=λY=>h _ λv A B=>B
theorem WC{k:lX}(h:cn d i f j e n 289 [.ah 2,a,env.pv OE.pv] c λv A=>K (.af [k.pv,v]) (aM e A)):WP d i f j e (n+1) 256 [.ah 2,.af [T "un",.ab 0,k.pv,a],env.pv OE.pv] c K:=by
 cases k<;>
 ·exact λY=>h _ λv A B=>B
theorem Yj{o:oH}(h:WP d i f j e n 270 [.ah 2,.af [T "bin",.ab 0,o.pv,a,b],env.pv OE.pv] c K):WP d i f j e (n+1) 256 [.ah 2,.af [T "bin",.ab 0,o.pv,a,b],env.pv OE.pv] c K:=by
 cases o<;>
 ·exact λY=>h
theorem L_{s:l8}(h:WP d i f j e n 270 [.ah 2,.af [T "bin",.ab 0,s.pv,a,b],env.pv OE.pv] c K):WP d i f j e (n+1) 256 [.ah 2,.af [T "bin",.ab 0,s.pv,a,b],env.pv OE.pv] c K:=by
 cases s<;>
 ·exact λY=>h
theorem ab0(h:WP d i f j e n 270 [.ah 2,.af [T "bin",.ab 0,T "in",a,b],env.pv OE.pv] c K):WP d i f j e (n+1) 256 [.ah 2,.af [T "bin",.ab 0,T "in",a,b],env.pv OE.pv] c K:=λY=>h
theorem Yk(B:cn d i f j e n 232 [.ah 2,.af [T "let",.ab 0,a,b,x],env.pv OE.pv] c P)(h:∀v A,P v A->WP d i f j e n 256 [.ah 2,x,v] A K):WP d i f j e (n+1) 256 [.ah 2,.af [T "let",.ab 0,a,b,x],env.pv OE.pv] c K:=λY=>B _ λv A C=>λY=>h v A C
theorem Ea{k:i_}(h:WP d i f j e n 282 [.ah 2,k.pv,a,b,env.pv OE.pv] c K):WP d i f j e (n+1) 256 [.ah 2,.af [T "quant",.ab 0,k.pv,a,b],env.pv OE.pv] c K:=by
 cases k<;>
 ·exact λY=>h
theorem Vs(C:aL (aE d i f j) n 246 [.ah 2,.af [T "box",.ab 0,vb,.af [a]],env.pv OE.pv] (aM e c) (.af [T "p",.af [a]]))(D:cn d i f j e n 251 [.ah 2,T "p",.af [a],env.pv OE.pv] c P)
  (E:∀v B,aL (aE d i f j) n 104 [.aj [v]] (aM e B) v) (h:∀v B,P v B->cn d i f j e n 256 [.ah 2,f.pv,v] B λu A=>K u (aM e A)):WP d i f j e (n+1) 256 [.ah 2,.af [T "box",.ab 0,vb,.af [a]],env.pv OE.pv] c K:=by
 exact λY=>C _ λY=>D _ λv B F=>λY=>h v B F _ λu A H=>(bt (λh=>nomatch h) (by decide:(1:Nat)≤4096) (λY=>E u A _ H))
theorem ab1(A:dY (x::l)=M):p_ .NotEq (.af (x::l)) (.af [])=O M:=by
 refine (?_:(gd (dY (x::l)) (O bn)).map (!·)=_)
 rw [A];rfl
theorem US(B:D=.af [.af [E,F]])(H:dY [.af [E,F]]=M)(I:∀K:PV->ai->Prop,K (.af [D,C,.aj []]) (aM e (c+1))->WP d i f j e n 275 [.ah 2,.af [CF i],.a8 []] c K)
  (J:∀v A,aL (aE d i f j) n 104 [.aj [v]] (aM e A) v) (L:cn d i f j e n 256 [.ah 2,f.pv,C] (c+1) λv A=>K (.af [T "exists",D,v]) (aM e A)):WP d i f j e (n+1) 400 [.ah 2,T "p",.ab 0] c K:=by
 subst B
 refine λY=>I _ λY=>L _ λv A S=>(bt (λh=>nomatch h) (by decide:(1:Nat)≤4096) (λY=>J v A _ ?_))
 conv=>(whnf;try dsimp only)
 exact eR (ab1 H) S
theorem ab2(h:WP d i f j e n 400 [.ah 2,T "p",.ab 0] c K):WP d i f j e (n+1) 388 [.ah 2,.af [T "run",.ab 0,T "p",.bG]] c K:=λY=>h
theorem WD(B:∀v A,aL (aE d i f j) n 104 [.aj [v]] (aM e A) v)(h:cn d i f j e n 256 [.ah 2,a,.a8 []] c λv A=>K (.af [T "not",v]) (aM e A)):WP d i f j e (n+1) 388 [.ah 2,.af [T "check",.ab 0,T "",.af [a]]] c K:=λY=>h _ λv A C=>(bt (λh=>nomatch h) (by decide:(1:Nat)≤4096) (λY=>B v A _ C))
end
structure iA(sc:W an)(env:E2 OE)(S:PS->Prop)(H c:X):Prop where
 zR:qg sc env
 jx:∀v e,env.jU v=O e->e.sc S∧e.h≤H
 ak:1≤H
 below:∀q,S q->∃d k,q=.jz d k∧k≤c
section
variable{a:W an}{env:E2 OE}{S:PS->Prop}{H c:X}
theorem iA.bU(h:iA a env S H c)(A:c≤B):iA a env S H B:=
 ⟨h.zR,h.jx,h.ak,λq C=>let⟨d,k,e,D⟩:=h.below q C;(fV d k e (io D A))⟩
theorem iA.bz(h:iA a env S H c):lW env S:=λv e A=>(h.jx v e A).1
theorem iA.aK(h:iA a env S H c)(D:B.sc S)(E:B.h≤m+H):iA (a++[v]) (env.aK v B) S (m+H) c:=
 ⟨h.zR.aK v B,λu e A=>by
  rw [E2.uQ]at A
  cases C:u==v
  ·rw [C]at A
   have:=h.jx u e A
   exact ⟨this.1,by have:=this.2;exact L3 139379610424 N this⟩
  ·rw [C]at A;cases A;exact ⟨D,E⟩,by have:=h.ak;exact L2 139344712463 N this,h.below⟩
theorem iA.iJ(h:iA a env S H c)(v:an):¬S (cU v (c+1)):=λq=>by
 refine eD (h.below _ q) λd k e A=>?_
 injection e with e1 B
 exact nw A (My (B▸uz c))
theorem iA.ib(h:iA a env S H c)(v:an):iA (a++[v]) (env.aK v (.aa (cU v (c+1)))) (λq=>q=cU v (c+1)∨S q) H (c+1):=
 ⟨h.zR.aK v _,λu e A=>by
  rw [E2.uQ]at A
  cases C:u==v
  ·rw [C]at A
   have:=h.jx u e A
   exact ⟨OE.c8 (λq B=>.inr B) this.1,this.2⟩
  ·rw [C]at A;cases A;exact ⟨.inl N,h.ak⟩,h.ak,λq B=>by
   rcases B with rfl|B
   ·exact (fV _ _ N (ul _))
   ·refine eD (h.below q B) λd k e D=>?_
    exact (fV d k e (L2 139043017528 N D))⟩
end
section
variable(b:Wd->At->At)(a:Wd->At->an)
noncomputable def PE(s:aP)(env:E2 OE)(S:PS->Prop)(H c:X)(v:PV)(A:X):Prop:=∃E:OE,v=E.pv∧fX b a s env S H E∧c≤A∧A≤c+s.sz
noncomputable def PF(s:bk)(env:E2 OE)(S:PS->Prop)(H c:X)(v:PV)(A:X):Prop:=∃E:OF,v=E.pv∧iU b a s env S H E∧c≤A∧A≤c+s.sz
noncomputable def PN(s:di)(env:E2 OE)(S:PS->Prop)(H c:X)(v:PV)(A:X):Prop:=∃E:ON,v=E.pv∧qv b a s env S H E∧c≤A∧A≤c+s.sz
noncomputable def rP(s:aP)(env:E2 OE)(S:PS->Prop)(H c:X)(E:OE)(A:X):Prop:=fX b a s env S H E∧c≤A∧A≤c+2*s.sz
end
noncomputable def z9(z c:X)(v:PV)(A:X):Prop:=v=T "set" ∧c≤A∧A≤c+z
section
variable{e:PV}{j:an}{m:bk}{l:aP}{i:W (X×al)}
theorem fJ(h:cn e j m l i n f args c P)(k:∀v A,P v A->B v A):cn e j m l i n f args c B:=λK C=>h K λv A D=>C v A (k v A D)
theorem kW{n f c:X}{args:W PV}{x:PV}{P:PV->X->Prop}(h:aL (aE e j m l) n f args (aM i c) x)(k:P x c):cn e j m l i n f args c P:=λK A=>h K (A x c k)
theorem HC{n c:X}{env:E2 OE}:aL (aE e j m l) (n+6) 289 [.ah 2,eV (.aA 66),env.pv OE.pv] (aM i c) (OE.gG bn).pv:=aei N4 (ac9 (n:=n+2))
theorem HD{n c:X}{env:E2 OE}:aL (aE e j m l) (n+6) 289 [.ah 2,eV (.aA 67),env.pv OE.pv] (aM i c) (OE.gG M).pv:=aej N5 (ada (n:=n+2))
theorem aeZ{n c:X}{env:E2 OE}:aL (aE e j m l) (n+6) 289 [.ah 2,jv,env.pv OE.pv] (aM i c) rA:=aek (vW (P_ N3)) (adb (n:=n+2))
theorem OK{n c:X}{env:E2 OE}(d:dQ):aL (aE e j m l) (n+7) 289 [.ah 2,d.pv,env.pv OE.pv] (aM i c) d.oe.pv:=by
 cases d with
 |a=>exact HC (n:=n+1)
 |b=>exact HD (n:=n+1)
 |fN=>
  exact λK E=>OJ (o:=.jM) (P:=λv C=>v=(OE.gG bn).pv∧C=c) (EJ .jM) (kW HC ⟨N,N⟩) (λv C D=>by
   refine rB D λA B=>?_
   clear D
   subst A
   subst B
   exact kW HD E)
theorem BY{n c:X}{env:E2 OE}{v:an}{d:dQ}{K:PV->ai->Prop}(A:c+1≤1000000)(h:K (.af [.af [fj (cU v (c+1)) d.oe.pv],(env.aK v (.aa (cU v (c+1)))).pv OE.pv,.aj []]) (aM i (c+1))):WP e j m l i (n+8) 275 [.ah 2,.af [lU v d],env.pv OE.pv] c K:=
 X9 A (OK d) (λv c K B A=>N6 A B) (L' (n:=n+3) d) h
theorem N7{n c:X}{env:E2 OE}{A:an}{d:dQ}{K:PV->ai->Prop}(B:c+2≤1000000)(h:K (.af [.af [fj (cU bn (c+1)) d.oe.pv,fj (cU M (c+2)) d.oe.pv],((env.aK bn (.aa (cU bn (c+1)))).aK M (.aa (cU M (c+2)))).pv OE.pv,.aj (zb A (.ae (cU bn (c+1))) (.ae (cU M (c+2))))]) (aM i (c+2))):
  WP e j m l i (n+8) 275 [.ah 2,.af [la A d],env.pv OE.pv] c K:=
 X' B (OK d) (λv c K C B=>N6 B C) (L' (n:=n+3) d) h
variable{f:Wd->At->At}{a:Wd->At->an}
theorem Gs(F:cn e j m l i n 211 [.ah 2,b.pv,env.pv OE.pv] c (z9 b.sz c))(I:∀A,c≤A->A≤c+b.sz->cn e j m l i n 289 [.ah 2,b.pv,env.pv OE.pv] A (PE f a b env S H A)):
  cn e j m l i (n+1) 225 [.ah 2,b.pv,env.pv OE.pv] c λu A=>∃E:OE,u=E.pv∧rP f a b env S H c E A:=λK J=>
 Yd (P:=λY A=>c≤A∧A≤c+b.sz) (fJ F λv A B=>⟨B.1,B.2⟩) λA B=>I A B.1 B.2 K λv L D=>by
  refine dn D λE C R U Z=>?_
  clear D
  subst C
  exact J _ _ (dG E N R (L3 5317331817272 N B.1 U) (L4 0x408b50cec81d63640eb38 N B.2 Z))
theorem Pb(B:cn e j m l i n 211 [.ah 2,b.pv,env.pv OE.pv] c (z9 b.sz c))(C:∀A,c≤A->A≤c+b.sz->cn e j m l i n 289 [.ah 2,b.pv,env.pv OE.pv] A (PE f a b env S H A)):
  cn e j m l i (n+2) 232 [.ah 2,.af [T "let",.ab 0,.ae (nm v),b.pv,x],env.pv OE.pv] c λu A=>∃E:OE,u=(env.aK v E).pv OE.pv∧rP f a b env S H c E A:=λK D=>
 adm (P:=rP f a b env S H c) (Gs B C) λE A F=>D _ _ (ay E N F)
theorem Yl(B:cn e j m l i n 211 [.ah 2,b.pv,env.pv OE.pv] c (z9 b.sz c))(C:∀A,c≤A->A≤c+b.sz->cn e j m l i n 289 [.ah 2,b.pv,env.pv OE.pv] A (PE f a b env S H A)):
  cn e j m l i (n+2) 251 [.ah 2,T "g",.af [b.pv],env.pv OE.pv] c λu A=>∃E:OE,u=(E2.y E).pv OE.pv∧rP f a b env S H c E A:=λK D=>
 Wv (P:=rP f a b env S H c) (Gs B C) λE A F=>D _ _ (ay E N F)
theorem Ym(B:cn e j m l i n 211 [.ah 2,b.pv,env.pv OE.pv] c (z9 b.sz c))(C:∀A,c≤A->A≤c+b.sz->cn e j m l i n 289 [.ah 2,b.pv,env.pv OE.pv] A (PE f a b env S H A)):
  cn e j m l i (n+2) 251 [.ah 2,T "p",.af [b.pv],env.pv OE.pv] c λu A=>∃E:OE,u=(E2.aU.aK j E).pv OE.pv∧rP f a b env S H c E A:=λK D=>
 Ww (P:=rP f a b env S H c) (Gs B C) λE A F=>D _ _ (ay E N F)
theorem Lj(k:i_)(p:PS)(d:OE)(F:OF):zm k (.af [fj p d.pv]) F.pv=(O' k p d F).pv:=by cases k<;>rfl
theorem Vt(k:i_)(p q:PS)(d:OE)(F:OF):zm k (.af [fj p d.pv,fj q d.pv]) F.pv=(Hl k bn p q d F).pv:=by cases k<;>rfl
theorem Vu(k:i_)(p q:PS)(d:OE)(F:OF):zm k (.af [fj p d.pv,fj q d.pv]) (match k with|.jx=>.af [T "implies",(OF.d3 (.eJ (.aa q) (.aa p))).pv,F.pv]|_=>.af [T "and",.af [(OF.d3 (.eJ (.aa q) (.aa p))).pv,F.pv]])=(Hl k M p q d F).pv:=by cases k<;>rfl
end
section
variable{e:PV}{f:an}{D:bk}{y:aP}{h:W (X×al)}{P:Wd->At->At}{L:Wd->At->an}{l F:X}
 (R:0<l->∀(n c:X) (S:PS->Prop) (H:X) (A:OE),F≤n->A.sc S->A.h≤H->1≤H->(∀q,S q->∃d k,q=.jz d k∧k≤c)->c+12≤100000->
  cn e f D y h n 289 [.ah 2,y.pv,(E2.y A).pv OE.pv] c λv c'=>∃E:OE,v=E.pv∧(E.sc S∧E.h≤60+H∧∀w,w.Ok->∀r,E.aw w r=P w (A.aw w r))∧c≤c'∧c'≤c+12)
 (U:1<l->∀(n c:X) (S:PS->Prop) (H:X) (A:OE),F≤n->A.sc S->A.h≤H->1≤H->(∀q,S q->∃d k,q=.jz d k∧k≤c)->c+18≤100000->
  cn e f D y h n 256 [.ah 2,D.pv,(E2.aU.aK f A).pv OE.pv] c λv c'=>∃E:OF,v=E.pv∧(E.sc S∧E.h≤90+H∧∀w,w.Ok->∀r,E.aw w r=L w (A.aw w r))∧c≤c'∧c'≤c+18)
include R U
mutual
theorem aP.du:∀(s:aP) (sc:W an) (n:X) (env:E2 OE) (S:PS->Prop) (H c:X),s.ok l sc->iA sc env S H c->c+s.sz≤100000->4*s.sz+6+F≤n->
  cn e f D y h n 211 [.ah 2,s.pv,env.pv OE.pv] c (z9 s.sz c)∧cn e f D y h n 289 [.ah 2,s.pv,env.pv OE.pv] c (PE P L s env S H c)
 |.b_ b,sc,n,env,S,H,c,Y,J,Z,I=>by
  obtain ⟨m,rfl⟩:∃m,n=m+6:=⟨n-6,by exact (lm (L2 0x26684c8701a09f2 N I)).symm⟩
  cases b with
  |false=>exact ⟨kW (aeg N4) (bt N (ul _) (GM ..)),kW HC (dG _ N (OI bn) (ul _) (GM ..))⟩
  |true=>exact ⟨kW (aeh N5) (bt N (ul _) (GM ..)),kW HD (dG _ N (OI M) (ul _) (GM ..))⟩
 |.aa v,sc,n,env,S,H,c,Y,J,Z,I=>by
  obtain ⟨m,rfl⟩:∃m,n=m+2:=⟨n-2,by exact (lm (L2 0x26604c8701a09f2 N I)).symm⟩
  obtain ⟨E,hE⟩:=Bz.mp (J.zR v Y)
  have:=J.jx v E hE
  exact ⟨kW (abP hE) (bt N (ul _) (GM ..)),kW (abU hE (X7 E)) (dG _ N (acZ hE this.1 this.2) (ul _) (GM ..))⟩
 |.jj s,sc,n,env,S,H,c,Y,J,Z,I=>by
  obtain ⟨m,rfl⟩:∃m,n=m+7:=⟨n-7,by exact (lm (L3 0x9aa9341c86820e1f2 N I)).symm⟩
  refine ⟨kW (abQ Lh) (bt N (ul _) (GM ..)),λK hK=>abV Lh (aP.du s sc (m+6) env S H c Y J (L2 0x22839c11410e5f8 N Z) (L3 0x2069a0e434162440d741c86820e1f2 N I)).2 (λj=>aeZ) λv j hp=>dn hp λE gx h1 h2 h3=>?_⟩
  clear hp
  subst gx
  exact hK _ _ (dG (.tD E) N (ac0 h1) h2 (L3 0x2043a7e7040eb38 N h3))
 |.op o a b,sc,n,env,S,H,c,Y,J,Z,I=>by
  obtain ⟨m,rfl⟩:∃m,n=m+7:=⟨n-7,by exact (lm (L4 0x26ea4d8741a08390e1f2 N I)).symm⟩
  refine ⟨kW (adj o (EJ o)) (bt N (ul _) (GM ..)),λK hK=>OJ (EJ o) (aP.du a sc (m+6) env S H c Y.1 J (L3 0x8a0e7045043a0e5f8 N Z) (L4 0x81a6c3a0d05891035d8741a08390e1f2 N I)).2 λv j hp=>?_⟩
  obtain ⟨A,rfl,h1,h2,h3⟩:=hp
  refine fJ (aP.du b sc (m+6) env S H j Y.2 (J.bU h2) (L4 0x1141d6c81ce3645043a0e5f8 N Z h3) (L4 0x81a6c3a0d05991035d8741a08390e1f2 N I)).2 λv d5 hq=>dn hq λB o9 h4 h5 h6=>?_
  clear hq
  subst o9
  exact hK _ _ (dG (.bj o A B) N (aec h1 h4) (L3 5317331817272 N h2 h5) (L5 0x1021e074fcec81e63640eb38 N h3 h6))
 |.kg dot s,sc,n,env,S,H,c,Y,J,Z,I=>by
  obtain ⟨m,rfl⟩:∃m,n=m+10:=⟨n-10,by exact (lm (L3 0x2686e79341c868208b101c5f2 N I)).symm⟩
  have fin:∀K:PV->ai->Prop,(∀v j,PE P L (.kg dot s) env S H c v j->K v (aM h j))->WP e f D y h (m+9) 322 [.ah 2,T "g",.af [s.pv],env.pv OE.pv,.ab 0] c K:=λK hK=>by
   refine abW (Yl (n:=m+6) (b:=s) (aP.du s sc (m+6) env S H c Y.2 J (L2 0x22839c114108b301c5f8 N Z) (L3 0x81a68390d0589102373f41c868208b101c5f2 N I)).1 λj h1 h2=>(aP.du s sc (m+6) env S H j Y.2 (J.bU h1) (L3 0x45073a20738d114108b301c5f8 N Z h2) (L3 0x81a68390d0589102373f41c868208b101c5f2 N I)).2) λv j hp=>?_
   obtain ⟨A,rfl,h1,h2,h3⟩:=hp
   refine R Y.1 _ j S (5*s.sz+H) A (L3 0x206dac902373f41c868208b101c5f2 N I) h1.sc h1.h (by have:=J.ak;exact L2 0x81c0b337930f N this) (J.bU h2).below (L3 0x4504707e88116618d114108b301c5f8 N Z h3) K λv d5 hq=>?_
   refine dn hq λE AE RL e4 e5=>?_
   clear hq
   subst AE
   refine oK RL λe1 e2 e3=>?_
   clear RL
   exact hK _ _ (dG E N (XR h1 e1 e2 e3) (L3 5317331817272 N h2 e4) (L4 0x40845a80e2fcec811c1f8d9022d4338 N h3 e5))
  cases dot with
  |false=>exact ⟨kW (X_ (KC (n:=m+3)) Qc) (bt N (ul _) (GM ..)),λK hK=>Ye (KC (n:=m+3)) (fin K hK)⟩
  |true=>exact ⟨kW (Yb (KD (n:=m+3)) Qc) (bt N (ul _) (GM ..)),λK hK=>Yg (KD (n:=m+3)) (fin K hK)⟩
 |.tq v d t,sc,n,env,S,H,c,Y,J,Z,I=>by
  obtain ⟨m,rfl⟩:∃m,n=m+9:=⟨n-9,by exact (lm (L3 0x9ab9341c86820e232 N I)).symm⟩
  refine ⟨kW (Wt (UQ (n:=m+2))) (bt N (ul _) (GM ..)),λK hK=>Wx (λK hK=>BY (n:=m) (L2 0x20dc370dc370dc373c2fc11410e638 N Z) hK) (bk.du t _ (m+8) _ _ H (c+1) Y (J.ib v) (L2 0x8a0e42fc11410e638 N Z) (L3 0x206da0e434162440df41c86820e232 N I)) (λv j=>sh) λv j hp=>dn hp λE Aw h1 h2 h3=>?_⟩
  clear hp
  subst Aw
  exact hK _ _ (dG (.nj _ d.oe E) N (XP J.bz (J.iJ v) h1) (L2 165092820472 N h2) (L3 0x810ea39c103a0bf38 N h3))
 |.jc v b s,sc,n,env,S,H,c,Y,J,Z,I=>by
  obtain ⟨m,rfl⟩:∃m,n=m+3:=⟨n-3,by exact (lm (L4 0x9b89361d06820e422c41f2 N I)).symm⟩
  have hl:cn e f D y h (m+2) 232 [.ah 2,(aP.jc v b s).pv,env.pv OE.pv] c λu j=>∃E:OE,u=(env.aK v E).pv OE.pv∧rP P L b env S H c E j:=
   Pb (n:=m) (aP.du b sc m env S H c Y.1 J (L3 0x22839c11410e822cc1f8 N Z) (L4 0x9b0e834162440c761d06820e422c41f2 N I)).1 λj h1 h2=>(aP.du b sc m env S H j Y.1 (J.bU h1) (L4 0x45073b20738d91410e822cc1f8 N Z h2) (L4 0x9b0e834162440c761d06820e422c41f2 N I)).2
  refine ⟨λK hK=>abT hl λv' j hp=>?_,λK hK=>abX hl λv' j hp=>?_⟩
  ·obtain ⟨B,rfl,h1,h2,h3⟩:=hp
   refine (aP.du s _ (m+2) _ S (5*b.sz+H) j Y.2 ((J.bU h2).aK h1.sc h1.h) (L4 0x1141d6c8116618d91410e822cc1f8 N Z h3) (L4 0x2061b0e834166440c761d06820e422c41f2 N I)).1 K λv d5 hq=>?_
   exact hK _ _ (bt hq.1 (by have:=hq.2;exact L3 5317331817272 N h2 this.1) (by have:=hq.2;exact L5 0x1021e045a83f3b20798d9022d4338 N h3 this.2))
  ·obtain ⟨B,rfl,h1,h2,h3⟩:=hp
   refine (aP.du s _ (m+2) _ S (5*b.sz+H) j Y.2 ((J.bU h2).aK h1.sc h1.h) (L4 0x1141d6c8116618d91410e822cc1f8 N Z h3) (L4 0x2061b0e834166440c761d06820e422c41f2 N I)).2 K λv d5 hq=>dn hq λE JP h4 h5 h6=>?_
   clear hq
   subst JP
   exact hK _ _ (dG E N (abx h1 h4) (L3 5317331817272 N h2 h5) (L5 0x1021e045a83f3b20798d9022d4338 N h3 h6))
 |.aF t a b,sc,n,env,S,H,c,Y,J,Z,I=>by
  obtain ⟨m,rfl⟩:∃m,n=m+1:=⟨n-1,by exact (lm (L5 0x9c79381d86820e8390e1f2 N I)).symm⟩
  refine ⟨λK hK=>adk ((aP.du a sc m env S H c Y.2.1 J (L4 0x2283ac11410ec3a0e5f8 N Z) (L5 0x9c0ec34166440bf81d86820e8390e1f2 N I)).1 K λv j hp=>hK _ _ (bt hp.1 hp.2.1 (by have:=hp.2.2;exact L5 0x2043c0e83b7e7040eb38 N this))),λK hK=>?_⟩
  refine adn (bk.du t sc m env S H c Y.1 J (L4 0x22839c11410ec3a0e5f8 N Z) (L5 0x9c0ec34162440bf81d86820e8390e1f2 N I)) λv j hp=>dn hp λC ajt h1 h2 h3=>?_
  clear hp
  subst ajt
  refine fJ (aP.du a sc m env S H j Y.2.1 (J.bU h2) (L5 0x45075c20738e11410ec3a0e5f8 N Z h3) (L5 0x9c0ec34166440bf81d86820e8390e1f2 N I)).2 λv d5 hq=>dn hq λA akr h4 h5 h6=>?_
  clear hq
  subst akr
  refine fJ (aP.du b sc m env S H d5 Y.2.2 (J.bU (L3 5317331817272 N h2 h5)) (L6 0x8a0efa40eb9d20738e11410ec3a0e5f8 N Z h3 h6) (L5 0x9c0ec3416a440bf81d86820e8390e1f2 N I)).2 λv c3 hq=>dn hq λB ajN h7 h8 h9=>?_
  clear hq
  subst ajN
  exact hK _ _ (dG (.oh C A B) N (ac1 h1 h4 h7) (L4 0x26f04de89ac9338 N h2 h5 h8) (L7 0x810f83c0e9f9e903edf481e63640eb38 N h3 h6 h9))
theorem bk.du:∀(s:bk) (sc:W an) (n:X) (env:E2 OE) (S:PS->Prop) (H c:X),s.ok l sc->iA sc env S H c->c+s.sz≤100000->4*s.sz+6+F≤n->
  cn e f D y h n 256 [.ah 2,s.pv,env.pv OE.pv] c (PF P L s env S H c)
 |.d3 t,sc,n,env,S,H,c,hk,Z,hc,C=>λK hK=>by
  obtain ⟨m,rfl⟩:∃m,n=m+1:=⟨n-1,by exact (lm (L3 0x9a79341c86820e1f2 N C)).symm⟩
  refine Yi (fJ (bk.du t sc m env S H c hk Z (L2 0x22839c11410e5f8 N hc) (L3 0x9a0e434162440bf41c86820e1f2 N C)) λv c' hp=>dn hp λE ajR h1 h2 h3=>?_)
  clear hp
  subst ajR
  exact hK _ _ (dG (.d3 E) N (ac2 h1) (L2 161223480 N h2) (L3 0x2043a7e7040eb38 N h3))
 |.jV o a b,sc,n,env,S,H,c,hk,Z,hc,C=>λK hK=>by
  obtain ⟨m,rfl⟩:∃m,n=m+2:=⟨n-2,by exact (lm (L4 0x26e04d8741a08390e1f2 N C)).symm⟩
  refine Yj (abY (fJ (bk.du a sc m env S H c hk.1 Z (L3 0x8a0e7045043a0e5f8 N hc) (L4 0x26c3a0d05891030d8741a08390e1f2 N C)) λv c' hp=>dn hp λA ai7 h1 h2 h3=>?_))
  clear hp
  subst ai7
  refine fJ (bk.du b sc m env S H c' hk.2 (Z.bU h2) (L4 0x1141d6c81ce3645043a0e5f8 N hc h3) (L4 0x26c3a0d05991030d8741a08390e1f2 N C)) λv d5 hq=>dn hq λB aj4 h4 h5 h6=>?_
  clear hq
  subst aj4
  exact hK _ _ (dG (PX o A B) (by cases o<;>rfl) (ac3 h1 h4) (L3 5317331817272 N h2 h5) (L5 0x1021e074fcec81e63640eb38 N h3 h6))
 |.h_ k v d t,sc,n,env,S,H,c,hk,Z,hc,C=>λK hK=>by
  obtain ⟨m,rfl⟩:∃m,n=m+10:=⟨n-10,by exact (lm (L3 0x2686e79341c86820e232 N C)).symm⟩
  refine Ea (Li (λK hK=>BY (n:=m) (L2 0x20dc370dc370dc373c2fc11410e638 N hc) hK) (λv c'=>sh) (fJ (bk.du t _ (m+8) _ _ H (c+1) hk (Z.ib v) (L2 0x8a0e42fc11410e638 N hc) (L3 0x81b68390d0589102373f41c86820e232 N C)) λu c' hp=>dn hp λE aiH h1 h2 h3=>?_))
  clear hp
  subst aiH
  exact eR (Lj ..) (hK _ _ (dG _ N (LX Z.bz (Z.iJ v) h1) (L2 165092820472 N h2) (L3 0x810ea39c103a0bf38 N h3)))
 |.iL k disj d t,sc,n,env,S,H,c,hk,Z,hc,C=>λK hK=>by
  obtain ⟨m,rfl⟩:∃m,n=m+10:=⟨n-10,by exact (lm (L3 0x2686e79341c86820e232 N C)).symm⟩
  have hb:=(Z.ib bn).ib M
  rw [qU]at hb
  have ih:=bk.du t _ (m+8) _ _ H (c+1+1) hk hb (L2 0x228390bc2fc11410e638 N hc) (L3 0x81b68390d0589102373f41c86820e232 N C)
  have ef:cU bn (c+1)≠cU M (c+2):=by intro q;injection q with q1 q2;exact nw q2 (PP (uz _))
  have gx:¬S (cU M (c+2)):=(Z.bU (Fe c)).iJ M
  cases disj with
  |false=>
   refine Ea (Li (H:=c+2) (λK hK=>N7 (n:=m) (A:=bn) (L2 0x20dc370dc370dc373c30c11410e638 N hc) hK) (λv c'=>sh) (fJ ih λu c' hp=>?_))
   obtain ⟨E,rfl,h1,h2,h3⟩:=hp
   exact eR (Vt ..) (hK _ _ (dG _ N (LZ Z.bz (Z.iJ bn) gx ef h1) (L2 0x99c1321785f8 N h2) (L3 0x2043a8e7040e82f0bf38 N h3)))
  |true=>
   refine Ea (Vr (J:=c+2) (λK hK=>N7 (n:=m) (A:=M) (L2 0x20dc370dc370dc373c30c11410e638 N hc) hK) (λv c'=>sh) (λu v c'=>Ws) (fJ ih λu c' hp=>dn hp λE ak5 h1 h2 h3=>?_))
   clear hp
   subst ak5
   exact hK _ _ (dG _ (Vu k (cU bn (c+1)) (cU M (c+2)) d.oe E) (LZ Z.bz (Z.iJ bn) gx ef h1) (L2 0x99c1321785f8 N h2) (L3 0x2043a8e7040e82f0bf38 N h3))
 |.tr s,sc,n,env,S,H,c,hk,Z,hc,C=>λK hK=>by
  obtain ⟨m,rfl⟩:∃m,n=m+9:=⟨n-9,by exact (lm (L3 0x9ab9341c868208b101ddf2 N C)).symm⟩
  refine Vs (Vp (n:=m+2)) (Ym (n:=m+6) (b:=s) (aP.du s sc (m+6) env S H c hk.2 Z (L2 0x22839c114108b301ddf8 N hc) (L3 0x2069a0e434162440df41c868208b101ddf2 N C)).1 λc' h1 h2=>(aP.du s sc (m+6) env S H c' hk.2 (Z.bU h1) (L3 0x45073a20738d114108b301ddf8 N hc h2) (L3 0x2069a0e434162440df41c868208b101ddf2 N C)).2) (λv c'=>sh) λv c' hp=>dn hp λA ajB h1 h2 h3=>?_
  clear hp
  subst ajB
  refine fJ (U hk.1 _ c' S (5*s.sz+H) A (L3 0x81b6b240df41c868208b101ddf2 N C) h1.sc h1.h (by have:=Z.ak;exact L2 0x81c0b337930f N this) (Z.bU h2).below (L3 0x4504767e88116618d114108b301ddf8 N hc h3)) λv d5 hq=>?_
  refine dn hq λE aka Sv e4 e5=>?_
  clear hq
  subst aka
  refine oK Sv λe1 e2 e3=>?_
  clear Sv
  exact hK _ _ (dG E N (XS h1 e1 e2 e3) (L3 5317331817272 N h2 e4) (L4 0x40845a80eefcec811d9f8d9022d4338 N h3 e5))
 |.jc v b s,sc,n,env,S,H,c,hk,Z,hc,C=>λK hK=>by
  obtain ⟨m,rfl⟩:∃m,n=m+3:=⟨n-3,by exact (lm (L4 0x9b89361d06820e422c41f2 N C)).symm⟩
  have hl:cn e f D y h (m+2) 232 [.ah 2,(bk.jc v b s).pv,env.pv OE.pv] c λu c'=>∃E:OE,u=(env.aK v E).pv OE.pv∧rP P L b env S H c E c':=
   Pb (n:=m) (aP.du b sc m env S H c hk.1 Z (L3 0x22839c11410e822cc1f8 N hc) (L4 0x9b0e834162440c761d06820e422c41f2 N C)).1 λc' h1 h2=>(aP.du b sc m env S H c' hk.1 (Z.bU h1) (L4 0x45073b20738d91410e822cc1f8 N hc h2) (L4 0x9b0e834162440c761d06820e422c41f2 N C)).2
  refine Yk hl λv' c' hp=>?_
  obtain ⟨B,rfl,h1,h2,h3⟩:=hp
  refine bk.du s _ (m+2) _ S (5*b.sz+H) c' hk.2 ((Z.bU h2).aK h1.sc h1.h) (L4 0x1141d6c8116618d91410e822cc1f8 N hc h3) (L4 0x2061b0e834166440c761d06820e422c41f2 N C) K λv d5 hq=>dn hq λE ak7 h4 h5 h6=>?_
  clear hq
  subst ak7
  exact hK _ _ (dG E N (aby h1 h4) (L3 5317331817272 N h2 h5) (L5 0x1021e045a83f3b20798d9022d4338 N h3 h6))
 |.ao s i j,sc,n,env,S,H,c,hk,Z,hc,C=>λK hK=>by
  obtain ⟨m,rfl⟩:∃m,n=m+9:=⟨n-9,by exact (lm (L4 0x26ee4d8741a08390e1f2 N C)).symm⟩
  refine L_ (abZ (λY=>?_) (fJ (di.du i sc (m+7) env S H c hk.1 Z (L3 0x8a0e7045043a0e5f8 N hc) (L4 0x81aec3a0d05891037d8741a08390e1f2 N C)).2 λv c' hp=>?_))
  ·exact (di.du i sc (m+7) env S H c hk.1 Z (L3 0x8a0e7045043a0e5f8 N hc) (L4 0x81aec3a0d05891037d8741a08390e1f2 N C)).1
  ·refine dn hp λI aiB h1 h2 h3=>?_
   clear hp
   subst aiB
   refine fJ (di.du j sc (m+7) env S H c' hk.2 (Z.bU h2) (L4 0x1141d6c81ce3645043a0e5f8 N hc h3) (L4 0x81aec3a0d05991037d8741a08390e1f2 N C)).2 λv d5 hq=>dn hq λJ ai9 h4 h5 h6=>?_
   clear hq
   subst ai9
   exact hK _ _ (dG (.ao s I J) N (ac4 h1 h4) (L3 5317331817272 N h2 h5) (L5 0x1021e074fcec81e63640eb38 N h3 h6))
 |.jb k s,sc,n,env,S,H,c,hk,Z,hc,C=>λK hK=>by
  obtain ⟨m,rfl⟩:∃m,n=m+1:=⟨n-1,by exact (lm (L3 0x9a79341c86820e1f2 N C)).symm⟩
  refine WC (fJ (aP.du s sc m env S H c hk Z (L2 0x22839c11410e5f8 N hc) (L3 0x9a0e434162440bf41c86820e1f2 N C)).2 λv c' hp=>dn hp λE akk h1 h2 h3=>?_)
  clear hp
  subst akk
  exact hK _ _ (dG (.jb k E) N (abz h1) (L2 161223480 N h2) (L3 0x2043a7e7040eb38 N h3))
 |.eJ a b,sc,n,env,S,H,c,hk,Z,hc,C=>λK hK=>by
  obtain ⟨m,rfl⟩:∃m,n=m+2:=⟨n-2,by exact (lm (L4 0x9b81361d06820e422c41f2 N C)).symm⟩
  refine L_ (s:=.eq) (Yh (fJ (aP.du a sc m env S H c hk.1 Z (L3 0x22839c11410e822cc1f8 N hc) (L4 0x9b0e834162440c361d06820e422c41f2 N C)).1 λv c' hp=>⟨hp.1,?_⟩))
  have r7:=hp.2
  refine fJ (aP.du a sc m env S H c' hk.1 (Z.bU r7.1) (L4 0x45073b20738d91410e822cc1f8 N hc r7.2) (L4 0x9b0e834162440c361d06820e422c41f2 N C)).2 λv d5 hq=>dn hq λA ajd h1 h2 h3=>?_
  clear hq
  subst ajd
  refine fJ (aP.du b sc m env S H d5 hk.2 (Z.bU (L3 5317331817272 N r7.1 h2)) (L5 0x8a0eb840e77c20738d91410e822cc1f8 N hc r7.2 h3) (L4 0x9b0e834166440c361d06820e422c41f2 N C)).2 λv c3 hq=>dn hq λB ai4 h4 h5 h6=>?_
  clear hq
  subst ai4
  exact hK _ _ (dG (.eJ A B) N (abA h1 h4) (L4 0x26f04de89ac9338 N r7.1 h2 h5) (L6 0x810f422d41f9e103ddf081d63640eb38 N r7.2 h3 h6))
 |.ja a b,sc,n,env,S,H,c,hk,Z,hc,C=>λK hK=>by
  obtain ⟨m,rfl⟩:∃m,n=m+4:=⟨n-4,by exact (lm (L4 0x26e44d8741a08390e1f2 N C)).symm⟩
  refine ab0 (ado (fJ (aP.du a sc (m+2) env S H c hk.1 Z (L3 0x8a0e7045043a0e5f8 N hc) (L4 0x8186c3a0d05891032d8741a08390e1f2 N C)).2 λv c' hp=>dn hp λA ajI h1 h2 h3=>?_))
  clear hp
  subst ajI
  refine WB (aP.du b sc (m+1) env S H c' hk.2 (Z.bU h2) (L4 0x1141d6c81ce3645043a0e5f8 N hc h3) (L4 0x817ec3a0d05991032d8741a08390e1f2 N C)).2 (λc'=>WA b) (λv c'=>sh) λv d5 hq=>dn hq λB ajX h4 h5 h6=>?_
  clear hq
  subst ajX
  exact hK _ _ (dG (.ja A B) N (aed h1 h4) (L3 5317331817272 N h2 h5) (L5 0x1021e074fcec81e63640eb38 N h3 h6))
theorem di.du:∀(s:di) (C:W an) (n:X) (env:E2 OE) (S:PS->Prop) (H c:X),s.ok l C->iA C env S H c->c+s.sz≤100000->4*s.sz+6+F≤n->
  aL (aE e f D y) n 211 [.ah 2,s.pv,env.pv OE.pv] (aM h c) (T "number")∧cn e f D y h n 329 [.ah 2,s.pv,env.pv OE.pv] c (PN P L s env S H c)
 |.lg i j,C,n,env,S,H,c,b,Y,Z,B=>by
  obtain ⟨m,rfl⟩:∃m,n=m+7:=⟨n-7,by exact (lm (L4 0x26ea4d8741a08390e1f2 N B)).symm⟩
  refine ⟨Yc J8 abM,λK o=>Vq J8 (fJ (di.du i C (m+6) env S H c b.1 Y (L3 0x8a0e7045043a0e5f8 N Z) (L4 0x81a6c3a0d05891035d8741a08390e1f2 N B)).2 λv c' a=>dn a λI w h1 r t=>?_)⟩
  clear a
  subst w
  refine fJ (di.du j C (m+6) env S H c' b.2 (Y.bU r) (L4 0x1141d6c81ce3645043a0e5f8 N Z t) (L4 0x81a6c3a0d05991035d8741a08390e1f2 N B)).2 λv d5 hq=>dn hq λJ alb h4 h5 h6=>?_
  clear hq
  subst alb
  exact o _ _ (dG (.lg I J) N (abB h1 h4) (L3 5317331817272 N r h5) (L5 0x1021e074fcec81e63640eb38 N t h6))
 |.lh v d i,C,n,env,S,H,c,b,Y,Z,B=>by
  obtain ⟨m,rfl⟩:∃m,n=m+9:=⟨n-9,by exact (lm (L3 0x9ab9341c86820e232 N B)).symm⟩
  refine ⟨abS,λK o=>Wz (λK o=>BY (n:=m) (L2 0x20dc370dc370dc373c2fc11410e638 N Z) o) (fJ (di.du i _ (m+8) _ _ H (c+1) b (Y.ib v) (L2 0x8a0e42fc11410e638 N Z) (L3 0x206da0e434162440df41c86820e232 N B)).2 λu c' a=>dn a λE ajW h1 r t=>?_)⟩
  clear a
  subst ajW
  exact o _ _ (dG (.lh _ d.oe E) N (ac6 Y.bz (Y.iJ v) h1) (L2 165092820472 N r) (L3 0x810ea39c103a0bf38 N t))
 |.iE k,C,n,env,S,H,c,b,Y,Z,B=>by
  obtain ⟨m,rfl⟩:∃m,n=m+1:=⟨n-1,by exact (lm (L2 0x265e4c8701a09f2 N B)).symm⟩
  exact ⟨abR,kW Wy (dG (.iE k) N ac5 (ul _) (GM ..))⟩
 |.kf s,C,n,env,S,H,c,b,Y,Z,B=>by
  obtain ⟨m,rfl⟩:∃m,n=m+1:=⟨n-1,by exact (lm (L3 0x9a79341c86820e1f2 N B)).symm⟩
  refine ⟨Wu,λK o=>UR (fJ (aP.du s C m env S H c b Y (L2 0x22839c11410e5f8 N Z) (L3 0x9a0e434162440bf41c86820e1f2 N B)).2 λv c' a=>dn a λE ajY h1 r t=>?_)⟩
  clear a
  subst ajY
  exact o _ _ (dG (.kf E) N (XQ h1) (L2 161223480 N r) (L3 0x2043a7e7040eb38 N t))
end
end
@[reducible]noncomputable def g0:At->At:=λY=>[]
@[reducible]noncomputable def p0:At->an:=λY=>bn
noncomputable def gF(A:aP)(w:Wd)(a:At):At:=A.aw w g0 p0 (E2.y a).fn
noncomputable def pF(A:an)(B:bk)(C:aP)(w:Wd)(a:At):an:=B.aw w (gF C w) p0 (E2.aU.aK A a).fn
structure iw(pr:an)(pb:bk)(gb:aP)(br:bk):Prop where
 Rf:gb.ok 0 [M]
 gz:gb.sz≤12
 Im:pb.ok 1 [pr]
 pz:pb.sz≤18
 Rg:br.ok 2 []
 nz:br.sz≤58
@[reducible]noncomputable def uZ:PS->Prop:=λY=>wn
theorem Ma(A:an)(a:At):(E2.aU.aK A a).fn=cL (λY=>[]) A a:=by
 rw [E2.rf];rfl
section
variable{f:PV}{b:an}{o:bk}{j:aP}{i:bk}{s:W (X×al)}
theorem HE(D:iw b o j i):∀(n c:X) (S:PS->Prop) (H:X) (A:OE),54≤n->A.sc S->A.h≤H->1≤H->(∀q,S q->∃d k,q=.jz d k∧k≤c)->c+12≤100000->
  cn f b o j s n 289 [.ah 2,j.pv,(E2.y A).pv OE.pv] c λv I=>∃E:OE,v=E.pv∧(E.sc S∧E.h≤60+H∧∀w,w.Ok->∀r,E.aw w r=gF j w (A.aw w r))∧c≤I∧I≤c+12:=λn c S H A R U Z B y hc=>by
 have C:=D.gz
 have he:iA [M] (E2.y A) S H c:=⟨λv L=>by rw [IR]at L;subst L;rfl,λv e h=>by cases v<;>cases h;exact ⟨U,Z⟩,B,y⟩
 refine fJ (aP.du (P:=λY=>g0) (L:=λY=>p0) (l:=0) (F:=0) (λh=>nw h (by decide)) (λh=>nw h (by decide)) j [M] n (E2.y A) S H c D.Rf he (L2 0x45073820e0fc91411c1f8 N hc C) (L2 0x980b834166484208383f24c0e53 N R C)).2 λv I P=>dn P λE J B h2 h3=>?_
 clear P
 subst J
 refine (dG E N (bt B.sc (by have:=B.h;exact L3 0x103a1ba9920742c4f28421041c1f8 N C this) (λw hw r=>?_)) h2 (L3 0x408e0fd6481c6b241c1f8 N C h3))
 exact B.aw w hw r _ λv e h=>by cases v<;>cases h;rfl
theorem ae0(D:iw b o j i):∀(n c:X) (S:PS->Prop) (H:X) (A:OE),132≤n->A.sc S->A.h≤H->1≤H->(∀q,S q->∃d k,q=.jz d k∧k≤c)->c+18≤100000->
  cn f b o j s n 256 [.ah 2,o.pv,(E2.aU.aK b A).pv OE.pv] c λv I=>∃E:OF,v=E.pv∧(E.sc S∧E.h≤90+H∧∀w,w.Ok->∀r,E.aw w r=pF b o j w (A.aw w r))∧c≤I∧I≤c+18:=λn c S H A R U Z B y hc=>by
 have C:=D.pz
 have he:iA [b] (E2.aU.aK b A) S H c:=⟨λv L=>by rw [IR]at L;subst L;cases v<;>rfl,λv e h=>by cases b<;>cases v<;>cases h<;>exact ⟨U,Z⟩,B,y⟩
 refine fJ (bk.du (P:=gF j) (L:=λY=>p0) (l:=1) (F:=54) (λY=>HE D) (λh=>nw h (by decide)) o [b] n (E2.aU.aK b A) S H c D.Im he (L2 0x45073820ecfc91411d9f8 N hc C) (L2 0x9808e530d0599210820ecfc930380e2f N R C)) λv I P=>dn P λE J B h2 h3=>?_
 clear P
 subst J
 refine (dG E N (bt B.sc (by have:=B.h;exact L3 0x103a1baf920742c4f28421041d9f8 N C this) (λw hw r=>?_)) h2 (L3 0x408ecfd6481c6b241d9f8 N C h3))
 exact B.aw w hw r _ λv e h=>by cases b<;>cases v<;>cases h<;>rfl
noncomputable def jR(b:an)(o:bk)(j:aP)(i:bk)(w:Wd):an:=i.aw w (gF j w) (pF b o j w) E2.aU.fn
noncomputable def qi(b:an)(o:bk)(j:aP)(w:Wd):an:=w.a.any λa=>o.aw w (gF j w) p0 (E2.aU.aK b [a]).fn
noncomputable def iZ(k:X)(m:Wd->an)(E:OF):Prop:=E.sc uZ∧E.h≤k∧∀w,w.Ok->E.aw w []=m w
theorem OL:iA [] E2.aU uZ 1 c where
 zR:=λv A=>nomatch A
 jx:=λv e h=>by cases h
 ak:=ul _
 below:=λq h=>Ps h
theorem OM(D:iw b o j i)(C:400≤n)(R:c≤1000):cn f b o j s n 256 [.ah 2,i.pv,.a8 []] c λv I=>∃E:OF,v=E.pv∧iZ 300 (jR b o j i) E∧c≤I∧I≤c+58:=by
 have B:=D.nz
 refine fJ (bk.du (P:=gF j) (L:=pF b o j) (l:=2) (F:=132) (λY n c S H A C=>HE D n c S H A (L1 0x260729930380e2f N C)) (λY=>ae0 D) i [] n E2.aU uZ 1 c D.Rg OL (L2 0x1141ce083b4f241b86e1b9f8 N R B) (L2 0x2602380e2f0d0599210820ed3c930370dd2 N C B)) λv I P=>dn P λE J L U Z=>?_
 clear P
 subst J
 exact (dG E N (bt L.sc (by have:=L.h;exact L2 0x106e1ba39205e2c4f28421041da78 N B this) (λw y=>L.aw w y [] _ λv e h=>by cases h)) U (L3 0x408ed3d6481c6b241da78 N B Z))
theorem Yn(D:iw b o j i)(F:410≤n)(I:c≤1000):cn f b o j s n 388 [.ah 2,.af [T "check",.ab 0,T "",.af [i.pv]]] c λv B=>∃E:OF,v=E.pv∧iZ 301 (λw=>!jR b o j i w) E∧c≤B∧B≤c+58:=λK J=>by
 obtain ⟨m,rfl⟩:∃m,n=m+2:=⟨n-2,(lm (L1 0x988130370df2 N F)).symm⟩
 refine WD (λv B=>sh) (fJ (OM D (L1 0x817e06e1ba440c30370df2 N F) I) λv B H=>dk H λE C A L=>?_)
 clear H
 subst C
 refine oK A λP R S=>?_
 clear A
 exact J _ _ (cq (.d3 E) N (bt P (L1 0x20de3744387906e1ba38 N R) (λw U=>lc not (S w U))) L)
theorem ael{d:dQ}{env:E2 OE}{x y:PV}(A:x=d.pv)(B:y=env.pv OE.pv)(C:c≤1000)(K:PV->ai->Prop)(D:K (.af [.af [.af [.ae (cU b (c+1)),d.oe.pv]],(env.aK b (.aa (cU b (c+1)))).pv OE.pv,.aj []]) (aM s (c+1))):WP f b o j s (m+8) 275 [.ah 2,.af [.af [.ab 0,.aJ bn,.af [.ae (nm b)],T "",x]],y] c K:=by
 subst A;subst B
 exact BY (n:=m) (L1 0x8370dc370dc370dcf0bf041b86e1b9f8 N C) D
theorem ab3(D:iw b o j i)(hn:410≤n)(hc:c≤1000):cn f b o j s n 388 [.ah 2,.af [T "run",.ab 0,T "p",.bG]] c λv A=>∃E:OF,v=E.pv∧iZ 301 (qi b o j) E∧c≤A∧A≤c+58:=by
 have L:=D.pz
 obtain ⟨m,rfl⟩:∃m,n=m+10:=⟨n-10,(lm (L1 0x2606e7930370df2 N hn)).symm⟩
 have hb:iA [b] (E2.aU.aK b (.aa (cU b (c+1)))) (λq=>q=cU b (c+1)∨uZ q) 1 (c+1):=OL.ib b
 have C:=bk.du (e:=f) (h:=s) (P:=gF j) (L:=λY=>p0) (l:=1) (F:=54) (λY=>HE D) (λh=>nw h (by decide)) o [b] (m+8) (E2.aU.aK b (.aa (cU b (c+1)))) (λq=>q=cU b (c+1)∨uZ q) 1 (c+1) D.Im hb (L2 0x4507217e083b3f241b86e1b9f8 N hc L) (L2 0x206d908e530d0589102373f2370df2421041d9f8 N L hn)
 generalize P:cU b (c+1)=p at hb C
 have R:∀K:PV->ai->Prop,K (.af [.af [.af [.ae p,dQ.a.oe.pv]],(E2.aU.aK b (.aa p)).pv OE.pv,.aj []]) (aM s (c+1))->WP f b o j s (m+8) 275 [.ah 2,.af [CF b],.a8 []] c K:=λK B=>by
  subst P
  have U:PV.a8 []=(E2.aU:E2 OE).pv OE.pv:=N
  with_reducible exact ael (N:(eV (.aA 66))=dQ.a.pv) U hc K B
 have Z:∀(K:PV->ai->Prop),(∀v A,(∃E:OF,v=E.pv∧iZ 301 (qi b o j) E∧c≤A∧A≤c+58)->K v (aM s A))->∀v A,PF (gF j) (λY=>p0) o (E2.aU.aK b (.aa p)) (λq=>q=p∨uZ q) 1 (c+1) v A->K (.af [T "exists",.af [.af [.ae p,dQ.a.oe.pv]],v]) (aM s A):=λK B v A P=>by
  refine dn P λE I h1 U h3=>?_
  clear P
  subst I
  have y:=LX (n:=gF j) (f:=λY=>p0) (k:=.fL) (v:=b) (d:=.a) (t:=o) (env:=.aU) (S:=uZ) (H:=1) (p:=p) (λv e h=>by cases h) (λh=>h) h1
  refine B _ _ (dG _ (Lj .fL p dQ.a.oe E) (bt y.sc (by have:=y.h;exact L2 0x41bc6e8e481788388cf28421041d9f8 N L this) (λw hw=>?_)) (L2 165092820472 N U) (L3 0x1023b4f59207017eb241d9f8 N L h3))
  refine eR (y.aw w hw [] (λY=>[]) λv e h=>by cases h) ((yk _ _).trans (?_:_=w.a.any λa=>o.aw w (gF j w) p0 (E2.aU.aK b [a]).fn))
  simp only [Ma]
  rfl
 have J:∀(K:PV->ai->Prop),(∀v A,(∃E:OF,v=E.pv∧iZ 301 (qi b o j) E∧c≤A∧A≤c+58)->K v (aM s A))->cn f b o j s (m+8) 256 [.ah 2,o.pv,(E2.aU.aK b (.aa p)).pv OE.pv] (c+1) λv A=>K (.af [T "exists",.af [.af [.ae p,dQ.a.oe.pv]],v]) (aM s A):=λK B=>by
  with_reducible exact fJ C (Z K B)
 intro K B
 with_reducible exact ab2 (US N N R (λv A=>sh) (J K B))
end
@[reducible]noncomputable def eZ(B:W al)(A:bA):bA:=[(31368901476,PV.aj (B.map .ab))]::A
@[reducible]noncomputable def cu(k:X)(b:al)(L:X):W (X×al):=[(31641679972,(k:al)),(27346450147,b),(31368900964,(L:al))]
section
variable{j:W al}{d:bA}{b:al}{L k n:X}{c:ai}
@[reducible]noncomputable def iQ(j:W al)(d:bA)(b:al)(L:X)(c:ai)(n f:X)(args:W PV)(k:X)(P:PV->X->Prop):Prop:=∀K:PV->ai->Prop,(∀v A,P v A->K v (cu A b L::c))->aR (eZ j d) n f args (cu k b L::c) K
theorem yW{A B:Type}(f:A->B):∀(l:W A) (i:X) (h:i<l.length),aY (l.map f) i=O (f l[i])
 |a::l,0,_=>N
 |a::l,i+1,h=>by
  refine (?_:aY (l.map f) i=_)
  refine eR (yW f l i (by simpa using h)) ?_
  rfl
theorem N8(a:al){m:X}(A:0<m):∃r:X,r<m∧ZB a m=(r:al):=by
 have B:=Int.fmod_nonneg_of_pos a (HH A:(0:al)<m)
 have C:=aak a (HH A:(0:al)<m)
 exact (ay ((ZB a m).toNat) ((Int.toNat_lt B).mpr C) ((Int.toNat_of_nonneg B).symm))
theorem Hb(a:al){m:X}(A:0<m):ko .Mod (.ab a) (.ab (m:al))=O (.ab (ZB a m)):=by
 refine (?_:gd (ci ((0:al)<(m:al))) (O (PV.ab (ZB a m)))=_)
 exact eR (FB (HH A)) N
theorem Bf(A: -1000000000<a∧a<1000000000)(B: -1000000000<b∧b<1000000000):ko .Mult (.ab a) (.ab b)=O (.ab (a*b)):=by
 refine (?_:gd (kY a&&kY b) (O (PV.ab (a*b)))=_)
 have e:kY a=M∧kY b=M:=by
  unfold kY
  simp only [mH,yr]
  exact ⟨A,B⟩
 rw [e.1,e.2];rfl
theorem adp{m:X}(C:0<m)(H:k≤100000)(I:0≤b∧b≤100000){K:PV->ai->Prop}(D:∀r:X,r<m->K (.ab r) (cu (k+1) b L::c))(A:(k:al)<((j.map PV.ab).length:al)):aR (eZ j d) (n+1) 583 [.ah 0,.ab (m:al)] (cu k b L::c) K:=by
 have B:k<j.length:=by rw [sw]at A;exact afG A
 have E:eN (.aj (j.map .ab)) (.ab (k:al))=O (.ab j[k]):=yW PV.ab j k B
 conv=>(whnf;try dsimp only)
 refine eR (FB A) ?_
 conv=>(whnf;try dsimp only)
 refine eR E ?_
 conv=>(whnf;try dsimp only)
 refine eR (Hb _ C) (aQ (N8 (j[k].natAbs:al) C) λr F e=>?_)
 have:=D r F
 rw [←e]at this
 exact this
theorem rh{C:iK}{D:bA}{E:Bn}{a b:MX}{x y z:PV}{A:av}{B:ai}(e:ko E x y=O z)(F:∀R:PV->av->ai->Prop,R x A B->bB C D a A B R)(H:∀R:PV->av->ai->Prop,R y A B->bB C D b A B R)(R:PV->av->ai->Prop)(h:R z A B):bB C D (.bj E a b) A B R:=by
 refine (?_:bB C D a A B λx A B=>bB C D b A B λy A B=>oS (ko E x y) λu=>R u A B)
 exact F _ (H _ (eR e h))
theorem zq(R:PV->av->ai->Prop)(h:R (.ab i) A B):bB C D (.ab i) A B R:=h
@[reducible]noncomputable def vc(m k:X):av:=[(213496679,.ax (.ah 0)),(257683822,.ax (.ab (m:al))),(108,.ax (.ab (k:al)))]
theorem GH(a b:al):ko .Add (.ab a) (.ab b)=O (.ab (a+b)):=N
theorem aem{C:iK}{E:bA}{A:W X}{e:MX}{B:av}{D:ai}{Q:Fl->av->ai->Prop}(h:bB C E e B D λv B D=>Q (.aB v) B D):fy C E A [.aB e] B D Q:=h
@[reducible]noncomputable def jI(C:iK)(D:bA)(e:MX)(A:av)(B:ai)(x:PV):Prop:=∀R:PV->av->ai->Prop,R x A B->bB C D e A B R
theorem Yo{C:iK}{B:bA}{D:av}{E:ai}{A b:al}{m:X}(U:0<m)(I: -1000000000<b∧b<1000000000)(F: -1000000000<A∧A<1000000000)(H: -1000000000<31*A∧31*A<1000000000)
  (J:jI C B (.aa 108) D E (.ab A)) (Y:jI C B (.aa 257683822) D E (.ab (m:al))) (Z:jI C B (.ag (.aa 213496679) (.ae 27346450147)) D E (.ab b)):
  jI C B (.bj .Mod (.bj .Mod (.bj .Add (.bj .Add (.bj .Add (.bj .Mult (.ab 7) (.ag (.aa 213496679) (.ae 27346450147))) (.bj .Mult (.bj .Mult (.ab 31) (.aa 108)) (.aa 108))) (.bj .Mult (.ab 13) (.aa 108))) (.ab 5)) (.ab 97)) (.aa 257683822)) D E (.ab (ZB (ZB (7*b+31*A*A+13*A+5) 97) m)):=by
 have a:(-1000000000:al)<7∧(7:al)<1000000000:=by decide
 have P:(-1000000000:al)<31∧(31:al)<1000000000:=by decide
 have S:(-1000000000:al)<13∧(13:al)<1000000000:=by decide
 have e:ko .Mod (.ab (7*b+31*A*A+13*A+5)) (.ab 97)=O (.ab (ZB (7*b+31*A*A+13*A+5) 97)):=Hb (m:=97) _ (by decide)
 have f:jI C B (.bj .Mult (.ab 7) (.ag (.aa 213496679) (.ae 27346450147))) D E (.ab (7*b)):=by with_reducible exact rh (Bf a I) (λR h=>zq R h) Z
 have i:jI C B (.bj .Mult (.ab 31) (.aa 108)) D E (.ab (31*A)):=by with_reducible exact rh (Bf P F) (λR h=>zq R h) J
 have l:jI C B (.bj .Mult (.bj .Mult (.ab 31) (.aa 108)) (.aa 108)) D E (.ab (31*A*A)):=by with_reducible exact rh (Bf H F) i J
 have o:jI C B (.bj .Mult (.ab 13) (.aa 108)) D E (.ab (13*A)):=by with_reducible exact rh (Bf S F) (λR h=>zq R h) J
 have r:jI C B (.bj .Add (.bj .Mult (.ab 7) (.ag (.aa 213496679) (.ae 27346450147))) (.bj .Mult (.bj .Mult (.ab 31) (.aa 108)) (.aa 108))) D E (.ab (7*b+31*A*A)):=by with_reducible exact rh (GH _ _) f l
 have s:jI C B (.bj .Add (.bj .Add (.bj .Mult (.ab 7) (.ag (.aa 213496679) (.ae 27346450147))) (.bj .Mult (.bj .Mult (.ab 31) (.aa 108)) (.aa 108))) (.bj .Mult (.ab 13) (.aa 108))) D E (.ab (7*b+31*A*A+13*A)):=by with_reducible exact rh (GH _ _) r o
 have t:jI C B (.bj .Add (.bj .Add (.bj .Add (.bj .Mult (.ab 7) (.ag (.aa 213496679) (.ae 27346450147))) (.bj .Mult (.bj .Mult (.ab 31) (.aa 108)) (.aa 108))) (.bj .Mult (.ab 13) (.aa 108))) (.ab 5)) D E (.ab (7*b+31*A*A+13*A+5)):=by with_reducible exact rh (GH _ _) s (λR h=>zq R h)
 have w:jI C B (.bj .Mod (.bj .Add (.bj .Add (.bj .Add (.bj .Mult (.ab 7) (.ag (.aa 213496679) (.ae 27346450147))) (.bj .Mult (.bj .Mult (.ab 31) (.aa 108)) (.aa 108))) (.bj .Mult (.ab 13) (.aa 108))) (.ab 5)) (.ab 97)) D E (.ab (ZB (7*b+31*A*A+13*A+5) 97)):=by with_reducible exact rh e t (λR h=>zq R h)
 with_reducible exact rh (Hb _ U) w Y
theorem ab4{m:X}(I:0<m)(J:k≤100000)(P:0≤b∧b≤100000){K:PV->ai->Prop}(C:∀r:X,r<m->K (.ab r) (cu (k+1) b L::c))(D:¬(k:al)<((j.map PV.ab).length:al)):aR (eZ j d) (n+1) 583 [.ah 0,.ab (m:al)] (cu k b L::c) K:=by
 refine (?_:fy (ba (eZ j d) n) (eZ j d) [] [bf A3 0,bf A3 1,bf A3 2,.aB (.bj .Mod (.bj .Mod (.bj .Add (.bj .Add (.bj .Add (.bj .Mult (.ab 7) (.ag (.aa 213496679) (.ae 27346450147))) (.bj .Mult (.bj .Mult (.ab 31) (.aa 108)) (.aa 108))) (.bj .Mult (.ab 13) (.aa 108))) (.ab 5)) (.ab 97)) (.aa 257683822))] [(213496679,.ax (.ah 0)),(257683822,.ax (.ab (m:al)))] (cu k b L::c) (kQ K))
 refine dR (vc m k) (cu k b L::c) (λR A=>by(conv=>whnf);exact A) ?_
 refine dR (vc m k) (cu (k+1) b L::c) (λR A=>by(conv=>whnf);exact A) ?_
 refine dR (vc m k) (cu (k+1) b L::c) (λR A=>?_) ?_
 ·conv=>(whnf;try dsimp only)
  exact eR (EQ D) A
 ·have E: -1000000000<b∧b<1000000000:=by clear C;exact afH P
  have F: -1000000000<(k:al)∧(k:al)<1000000000:=by clear C;exact afI J
  have B: -1000000000<31*(k:al)∧31*(k:al)<1000000000:=by clear C;exact afJ J
  have S:jI (ba (eZ j d) n) (eZ j d) (.aa 108) (vc m k) (cu (k+1) b L::c) (.ab (k:al)):=λR h=>h
  have U:jI (ba (eZ j d) n) (eZ j d) (.aa 257683822) (vc m k) (cu (k+1) b L::c) (.ab (m:al)):=λR h=>h
  have Y:jI (ba (eZ j d) n) (eZ j d) (.ag (.aa 213496679) (.ae 27346450147)) (vc m k) (cu (k+1) b L::c) (.ab b):=λR h=>by(conv=>whnf);exact h
  refine aQ (N8 (ZB (7*b+31*(k:al)*(k:al)+13*(k:al)+5) 97) I) λr Z e=>?_
  have H:jI (ba (eZ j d) n) (eZ j d) (.bj .Mod (.bj .Mod (.bj .Add (.bj .Add (.bj .Add (.bj .Mult (.ab 7) (.ag (.aa 213496679) (.ae 27346450147))) (.bj .Mult (.bj .Mult (.ab 31) (.aa 108)) (.aa 108))) (.bj .Mult (.ab 13) (.aa 108))) (.ab 5)) (.ab 97)) (.aa 257683822)) (vc m k) (cu (k+1) b L::c) (.ab (r:al)):=by
   refine eL e ?_
   with_reducible exact Yo I E F B S U Y
  with_reducible refine aem ?_
  with_reducible refine H _ ?_
  exact C r Z
theorem adq{m:X}(B:0<m)(C:k≤100000)(D:0≤b∧b≤100000):iQ j d b L c (n+1) 583 [.ah 0,.ab (m:al)] k λv E=>∃r:X,r<m∧v=.ab (r:al)∧E=k+1:=λK F=>by
 have h:∀r:X,r<m->K (.ab r) (cu (k+1) b L::c):=λr H=>F _ _ (cq r H N N)
 by_cases A:(k:al)<((j.map PV.ab).length:al)
 ·exact adp B C D h A
 ·exact ab4 B C D h A
end
section
variable{e:W al}{c:bA}{b:al}{L k n:X}{a:ai}
@[reducible]noncomputable def iy(e:W al)(c:bA)(b:al)(L:X)(a:ai)(n:X):Prop:=∀(m k:X),0<m->k≤100000->iQ e c b L a n 583 [.ah 0,.ab (m:al)] k λv A=>∃r:X,r<m∧v=.ab (r:al)∧A=k+1
theorem iy.go(A:iy e c b L a n)(m k:X)(B:0<m)(C:k≤100000){K:PV->ai->Prop}(f:∀r:X,r<m->K (.ab (r:al)) (cu (k+1) b L::a)):aR (eZ e c) n 583 [.ah 0,.ab (m:al)] (cu k b L::a) K:=A m k B C K λv I D=>dk D λr E F H=>F▸H▸f r E
theorem xy0:eN (.ae (.aA 15737)) (.ab 0)=O (.ae (nm bn)):=by kernel_rfl
theorem xy1:eN (.ae (.aA 15737)) (.ab 1)=O (.ae (nm M)):=by kernel_rfl
theorem sg0:eN (.ae (.aA 758700)) (.ab 0)=O gE.cS.jw:=by kernel_rfl
theorem sg1:eN (.ae (.aA 758700)) (.ab 1)=O gE.qd.jw:=by kernel_rfl
theorem sg2:eN (.ae (.aA 758700)) (.ab 2)=O gE.jM.jw:=by kernel_rfl
theorem ae1{r:X}(h:r<2):∃u:an,eN (.ae (.aA 15737)) (.ab (r:al))=O (.ae (nm u)):=by
 apply rI h
 ·exact ⟨bn,xy0⟩
 ·exact ⟨M,xy1⟩
theorem Qd{r:X}(h:r<3):∃o:gE,eN (.ae (.aA 758700)) (.ab (r:al))=O o.jw:=by
 apply oM h
 ·exact ⟨.cS,sg0⟩
 ·exact ⟨.qd,sg1⟩
 ·exact ⟨.jM,sg2⟩
theorem ads(A:iy e c b L a n)(B:k≤100000):iQ e c b L a (n+1) 590 [.ah 0] k λv C=>∃u:an,v=.ae (nm u)∧C=k+1:=λK D=>by
 refine λY=>A.go 2 k (by decide) B λr E=>?_
 obtain ⟨u,F⟩:=ae1 E
 conv=>(whnf;try dsimp only)
 exact eR F (D _ _ (ay u N N))
@[reducible]noncomputable def oy(B:an)(k:X)(v:PV)(C:X):Prop:=((∃(u:an) (d:dQ),v=lU u d)∨(B=M∧∃(A:an) (d:dQ),v=la A d))∧k≤C∧C≤k+4
@[reducible]noncomputable def oz(e:W al)(c:bA)(b:al)(L:X)(a:ai)(n:X):Prop:=∀(k:X),k≤100000->iQ e c b L a n 590 [.ah 0] k λv A=>∃u:an,v=.ae (nm u)∧A=k+1
theorem oz.go(A:oz e c b L a n)(k:X)(B:k≤100000){K:PV->ai->Prop}(f:∀u:an,K (.ae (nm u)) (cu (k+1) b L::a)):aR (eZ e c) n 590 [.ah 0] (cu k b L::a) K:=A k B K λv F C=>aQ C λu D E=>D▸E▸f u
theorem ab5(E:iy e c b L a n)(B:oz e c b L a n)(A:k≤99990):iQ e c b L a (n+1) 597 [.ah 0,.ab 0] k (oy bn k):=λK C=>by
 refine λY=>E.go 3 k (by decide) (L1 0x8ac106e1dc771def8 N A) λr F=>?_
 apply oM F
 ·exact λY=>B.go (k+1) (L1 0x2282fc106e1dc771def8 N A) λu=>C _ _ (bt (.inl (dC u .a N)) (L1 4344299288 N) (L1 4452540450296 N))
 ·refine λY=>B (k+1) (L1 0x2282fc106e1dc771def8 N A) _ λv H D=>?_
  obtain ⟨u,rfl,rfl⟩:=D
  exact C _ _ (bt (.inl (dC u .b N)) (L1 4344299288 N) (L1 4452540450296 N))
 ·refine λY=>B (k+1) (L1 0x2282fc106e1dc771def8 N A) _ λv H D=>?_
  obtain ⟨u,rfl,rfl⟩:=D
  exact C _ _ (bt (.inl (dC u .fN N)) (L1 4344299288 N) (L1 4452540450296 N))
theorem ab6(E:iy e c b L a n)(B:oz e c b L a n)(A:k≤99990):iQ e c b L a (n+1) 597 [.ah 0,.ab 1] k (oy bn k):=λK C=>by
 refine λY=>E.go 3 k (by decide) (L1 0x8ac106e1dc771def8 N A) λr F=>?_
 apply oM F
 ·exact λY=>B.go (k+1) (L1 0x2282fc106e1dc771def8 N A) λu=>C _ _ (bt (.inl (dC u .a N)) (L1 4344299288 N) (L1 4452540450296 N))
 ·refine λY=>B (k+1) (L1 0x2282fc106e1dc771def8 N A) _ λv H D=>?_
  obtain ⟨u,rfl,rfl⟩:=D
  exact C _ _ (bt (.inl (dC u .b N)) (L1 4344299288 N) (L1 4452540450296 N))
 ·refine λY=>B (k+1) (L1 0x2282fc106e1dc771def8 N A) _ λv H D=>?_
  obtain ⟨u,rfl,rfl⟩:=D
  exact C _ _ (bt (.inl (dC u .fN N)) (L1 4344299288 N) (L1 4452540450296 N))
theorem ab7(D:iy e c b L a n)(E:oz e c b L a n)(A:k≤99990):iQ e c b L a (n+1) 597 [.ah 0,.ab 2] k (oy M k):=λK C=>by
 refine λY=>D.go 3 k (by decide) (L1 0x8ac106e1dc771def8 N A) λr J=>λY=>D.go 2 (k+1) (by decide) (L1 0x2282fc106e1dc771def8 N A) λq F=>?_
 apply oM J
 ·apply rI F
  ·exact λY=>E.go (k+1+1) (L1 0x8a0bc2fc106e1dc771def8 N A) λu=>C _ _ (bt (.inl (dC u .a N)) (L1 4448561708824 N) (L1 4559401421080056 N))
  ·exact λY=>D.go 2 (k+1+1) (by decide) (L1 0x8a0bc2fc106e1dc771def8 N A) λs I=>C _ _ (bt (.inr (ff N (dC (ci ((s:al)=1)) .a N))) (L1 4448561708824 N) (L1 4559401421080056 N))
 ·apply rI F
  ·refine λY=>E (k+1+1) (L1 0x8a0bc2fc106e1dc771def8 N A) _ λv H B=>?_
   obtain ⟨u,rfl,rfl⟩:=B
   exact C _ _ (bt (.inl (dC u .b N)) (L1 4448561708824 N) (L1 4559401421080056 N))
  ·refine λY=>D 2 (k+1+1) (by decide) (L1 0x8a0bc2fc106e1dc771def8 N A) _ λv H B=>?_
   obtain ⟨s,I,rfl,rfl⟩:=B
   exact C _ _ (bt (.inr (ff N (dC (ci ((s:al)=1)) .b N))) (L1 4448561708824 N) (L1 4559401421080056 N))
 ·apply rI F
  ·refine λY=>E (k+1+1) (L1 0x8a0bc2fc106e1dc771def8 N A) _ λv H B=>?_
   obtain ⟨u,rfl,rfl⟩:=B
   exact C _ _ (bt (.inl (dC u .fN N)) (L1 4448561708824 N) (L1 4559401421080056 N))
  ·refine λY=>D 2 (k+1+1) (by decide) (L1 0x8a0bc2fc106e1dc771def8 N A) _ λv H B=>?_
   obtain ⟨s,I,rfl,rfl⟩:=B
   exact C _ _ (bt (.inr (ff N (dC (ci ((s:al)=1)) .fN N))) (L1 4448561708824 N) (L1 4559401421080056 N))
end
section
variable{m:W al}{j:bA}{b:al}{L k n:X}{i:ai}
@[reducible]noncomputable def lz(A:W an):PV:=.aj (A.map λv=>.ae (nm v))
@[reducible]noncomputable def agN(L:X)(C:W an)(B D k:X)(v:PV)(A:X):Prop:=∃s:aP,v=s.pv∧s.ok L C∧s.sz≤B∧k≤A∧A≤k+D
@[reducible]noncomputable def aen(L:X)(C:W an)(B D k:X)(v:PV)(A:X):Prop:=∃s:bk,v=s.pv∧s.ok L C∧s.sz≤B∧k≤A∧A≤k+D
@[reducible]noncomputable def agO(L:X)(C:W an)(B D k:X)(v:PV)(A:X):Prop:=∃s:di,v=s.pv∧s.ok L C∧s.sz≤B∧k≤A∧A≤k+D
@[reducible]noncomputable def g7(m:W al)(j:bA)(b:al)(L:X)(i:ai)(n:X)(C:al)(B D a E:X):Prop:=∀(A:W an) (k:X),A.length≤a->k≤E->iQ m j b L i n 604 [.ah 0,lz A,.ab C] k (agN L A B D k)
@[reducible]noncomputable def jJ(m:W al)(j:bA)(b:al)(L:X)(i:ai)(n:X)(C:al)(B D a E:X):Prop:=∀(A:W an) (k:X),A.length≤a->k≤E->iQ m j b L i n 618 [.ah 0,lz A,.ab C] k (aen L A B D k)
@[reducible]noncomputable def oJ(m:W al)(j:bA)(b:al)(L:X)(i:ai)(n:X)(C:al)(B D a E:X):Prop:=∀(A:W an) (k:X),A.length≤a->k≤E->iQ m j b L i n 611 [.ah 0,lz A,.ab C] k (agO L A B D k)
theorem g7.go{E:al}{B D e F:X}(h:g7 m j b L i n E B D e F)(C:W an)(k:X)(H:C.length≤e)(I:k≤F){K:PV->ai->Prop}(f:∀(s:aP) (A:X),s.ok L C->s.sz≤B->k≤A->A≤k+D->K s.pv (cu A b L::i)):aR (eZ m j) n 604 [.ah 0,lz C,.ab E] (cu k b L::i) K:=h C k H I K λv A J=>rD J λs q a b c d=>q▸f s A a b c d
theorem jJ.go{E:al}{B D e F:X}(h:jJ m j b L i n E B D e F)(C:W an)(k:X)(H:C.length≤e)(I:k≤F){K:PV->ai->Prop}(f:∀(s:bk) (A:X),s.ok L C->s.sz≤B->k≤A->A≤k+D->K s.pv (cu A b L::i)):aR (eZ m j) n 618 [.ah 0,lz C,.ab E] (cu k b L::i) K:=h C k H I K λv A J=>rD J λs q a b c d=>q▸f s A a b c d
theorem oJ.go{E:al}{B D e F:X}(h:oJ m j b L i n E B D e F)(C:W an)(k:X)(H:C.length≤e)(I:k≤F){K:PV->ai->Prop}(f:∀(s:di) (A:X),s.ok L C->s.sz≤B->k≤A->A≤k+D->K s.pv (cu A b L::i)):aR (eZ m j) n 611 [.ah 0,lz C,.ab E] (cu k b L::i) K:=h C k H I K λv A J=>rD J λs q a b c d=>q▸f s A a b c d
theorem Mb{A:Type}:∀(x:A) (l:W A),∃y,aY (x::l) l.length=O y∧(l=[]∧y=x∨y∈l)
 |x,[]=>(ay x N (.inl ⟨N,N⟩))
 |x,z::l=>by
  refine aQ (Mb z l) λy e h=>(ay y e (.inr ?_))
  rcases h with⟨_,rfl⟩|h
  ·exact wf ..
  ·exact wv _ h
theorem adt(A:W an):∃p:PS,eN (.aj (T "A" ::A.map λv=>.ae (nm v))) (.ab (-1))=O (.ae p)∧∃s:aP,s.pv=eV p∧s.ok L A∧s.sz=1:=by
 refine aQ (Mb (T "A") (A.map λv=>PV.ae (nm v))) λy e h=>?_
 have C:eN (.aj (T "A" ::A.map λv=>.ae (nm v))) (.ab (-1))=aY (T "A" ::A.map λv=>.ae (nm v)) (A.map λv=>PV.ae (nm v)).length:=by
  refine (?_:(jh (T "A" ::A.map λv=>PV.ae (nm v)).length (EO 0)).bind (aY (T "A" ::A.map λv=>PV.ae (nm v)))=_)
  have:jh (T "A" ::A.map λv=>PV.ae (nm v)).length (EO 0)=O (A.map λv=>PV.ae (nm v)).length:=by
   refine (?_:gd (u8 (0+1) ((A.map λv=>PV.ae (nm v)).length+1)) (O ((A.map λv=>PV.ae (nm v)).length+1-(0+1)))=_)
   refine eR (qY (by exact L1 4345038318 N)) ?_
   rfl
  exact lc (FT · (aY (T "A" ::A.map λv=>PV.ae (nm v)))) this
 rcases h with⟨_,rfl⟩|h
 ·exact (ay (.aA 66) (C.trans e) (cq (.b_ bn) N tt N))
 ·refine aQ (No.mp h) λu D B=>?_
  subst B
  exact (ay (nm u) (C.trans e) (cq (.aa u) N D N))
theorem FY(h:x.length+y.length≤4096):ko .Add (.aj x) (.aj y)=O (.aj (x++y)):=by
 refine (?_:gd (u8 (x.length+y.length) 4096) (O (PV.aj (x++y)))=_)
 exact eR (qY h) N
theorem Yp(B:x.length≤10)(h:A.length≤100):ko .Add (.aj x) (lz A)=O (.aj (x++A.map λv=>.ae (nm v))):=FY (eR (sw ..) (L2 0x458738237241b9f8 N B h))
theorem nX(h:A.length≤100):ko .Add (lz A) (.aj [.ae (nm u)])=O (lz (A++[u])):=by
 have:=FY (x:=A.map λv=>PV.ae (nm v)) (y:=[.ae (nm u)]) (by rw [sw];simp;exact L1 0x20e63b8dd2c11b8 N h)
 refine eR this (?_:_=O (PV.aj (mM _ (A++[u]))))
 rw [uk];rfl
theorem Lk(h:A.length≤100):ko .Add (lz A) (.aj [T "x",T "y"])=O (lz (A++[bn,M])):=by
 have:=FY (x:=A.map λv=>PV.ae (nm v)) (y:=[T "x",T "y"]) (by rw [sw];simp;exact L1 0x20e43b8dd2c11b8 N h)
 refine eR this (?_:_=O (PV.aj (mM _ (A++[bn,M]))))
 rw [uk];rfl
theorem agP(D:iy m j b L i n):g7 m j b L i (n+1) 0 2 2 100 99000:=λA k H E K B=>by
 have F:K (aP.b_ bn).pv (cu (k+1) b L::i):=B _ _ (cz (.b_ bn) N tt (ww N) (by exact L1 4243224 N) (by exact L1 4346086904 N))
 refine λY=>D.go 4 k (by decide) (by exact L1 0x8ac106e1b86e1def8 N E) λr C=>?_
 apply xm C
 ·exact F
 ·exact B _ _ (cz (.b_ M) N tt (ww N) (by exact L1 4243224 N) (by exact L1 4346086904 N))
 ·cases A with
  |nil=>
   exact F
  |cons u A=>
   refine λY=>D.go ((u::A).map λv=>PV.ae (nm v)).length (k+1) (by simp) (by exact L1 0x2282fc106e1b86e1def8 N E) λr C=>?_
   rw [sw]at C
   conv=>(whnf;try dsimp only)
   exact eR (show eN (lz (u::A)) (.ab (r:al))=_ from(yW (λv=>PV.ae (nm v)) (u::A) r C)) (B _ _ (cz (.aa (u::A)[r]) N (Nt _) (ww N) (by exact L1 4344299288 N) (by exact L1 4450392966648 N)))
 ·obtain ⟨p,I,s,J,P,R⟩:=adt (L:=L) A
  conv=>(whnf;try dsimp only)
  refine eR (Yp (by decide) H) ?_
  conv=>(whnf;try dsimp only)
  refine eR (show eN (.aj ([.ae (.aA 66)]++A.map λv=>.ae (nm v))) (.ab (-1))=_ from I) (B _ _ (cz (.jj s) ?_ P (by exact L1 154678041080 N R) (by exact L1 4243224 N) (by exact L1 4346086904 N)))
  refine (?_:_=PV.af [T "bin",.ab 0,T ".",s.pv,jv])
  rw [J];rfl
end
section
variable{e:W al}{c:bA}{b:al}{L k n:X}{a:ai}
theorem Hc{r:X}(h:r<4):∃m:lX,eN (.aj [.ae (.aA 215726196),.ae (.aA 14447),.ae (.aA 215742573),.ae (.aA 1685488)]) (.ab (r:al))=O m.pv:=by
 apply xm h
 ·exact ⟨.fL,N⟩
 ·exact ⟨.no,N⟩
 ·exact ⟨.l7,N⟩
 ·exact ⟨.ak,N⟩
theorem aeo(d:iy e c b L a n)(C:g7 e c b L a n 0 2 2 100 99000):jJ e c b L a (n+1) 0 7 5 100 98000:=λD k E A K P=>by
 refine λY=>d.go 3 k (by decide) (L1 0x8ac106e1b86e1daf8 N A) λr f=>?_
 apply oM f
 ·exact λY=>C.go D (k+1) E (L1 0x20dc370dc3bdc2fc106e1b86e1daf8 N A) λx J F H I B=>λY=>C.go D J E (L2 0x41b86e1b877be481805f8c906e1b86e1daf8 N A B) λy h R S U Z=>P _ _ (cz (.ja x y) N ⟨F,R⟩ (L2 0x4a8721c3c90c9218 N H S) (L3 5444947780863480 N I U) (L3 0x40cf3a20618d10300bf38 N B Z))
 ·exact λY=>C.go D (k+1) E (L1 0x20dc370dc3bdc2fc106e1b86e1daf8 N A) λx J F H I B=>λY=>C.go D J E (L2 0x41b86e1b877be481805f8c906e1b86e1daf8 N A B) λy h R S U Z=>P _ _ (cz (.eJ x y) N ⟨F,R⟩ (L2 0x2543908b107921941218 N H S) (L3 5444947780863480 N I U) (L3 0x40cf3a20618d10300bf38 N B Z))
 ·refine λY=>d.go 4 (k+1) (by decide) (L1 0x2282fc106e1b86e1daf8 N A) λq i=>?_
  obtain ⟨m,j⟩:=Hc i
  conv=>(whnf;try dsimp only)
  exact eR j (λY=>C.go D (k+1+1) E (L1 0x8370dc370ef70bc2fc106e1b86e1daf8 N A) λx J F H I B=>P _ _ (cz (.jb m x) N F (L1 160046748184 N H) (L2 0x99c1321785f8 N I) (L2 0x819e7040c02f0bf38 N B)))
theorem adu(B:iy e c b L a n)(D:g7 e c b L a n 0 2 2 100 99000):oJ e c b L a (n+1) 0 3 3 100 98000:=λE k F A K C=>by
 refine λY=>B.go 4 k (by decide) (L1 0x8ac106e1b86e1daf8 N A) λr H=>?_
 apply xm H
 ·exact λY=>B.go 3 (k+1) (by decide) (L1 0x2282fc106e1b86e1daf8 N A) λq S=>C _ _ (cz (.iE q) N tt (L0 4655 N) (L1 4344299288 N) (L1 4451466708472 N))
 all_goals
 ·exact λY=>D.go E (k+1) F (L1 0x20dc370dc3bdc2fc106e1b86e1daf8 N A) λx U I J P R=>C _ _ (cz (.kf x) N I (L1 155751780888 N J) (L2 165092820472 N P) (L2 0x20639c10300bf38 N R))
theorem ab8(f:iy e c b L a n)(j:g7 e c b L a n 0 2 2 100 99000)(I:oJ e c b L a n 0 3 3 100 98000)(o:∀k,k≤99990->iQ e c b L a n 597 [.ah 0,.ab 0] k (oy bn k)):oJ e c b L a (n+1) 1 7 8 99 97000:=λE k C A K F=>by
 refine λY=>f.go 4 k (by decide) (L1 0x8ac106e1b86e1d6f8 N A) λr hr=>?_
 apply xm hr
 ·exact λY=>f.go 3 (k+1) (by decide) (L1 0x2282fc106e1b86e1d6f8 N A) λq hq=>F _ _ (cz (.iE q) N tt (L0 4783 N) (L1 4344299288 N) (L1 4456835417592 N))
 ·exact λY=>j.go E (k+1) (L1 152207220472 N C) (L1 0x20dc370dc3bdc2fc106e1b86e1d6f8 N A) λx H J P D B=>F _ _ (cz (.kf x) N J (L1 160046748184 N P) (L2 165092820472 N D) (L2 0x206d9c10300bf38 N B))
 ·exact λY=>I.go E (k+1) (L1 152207220472 N C) (L1 0x20dc370dc3b5c2fc106e1b86e1d6f8 N A) λx H J P D B=>λY=>I.go E H (L1 152207220472 N C) (L2 0x41b86e1b876be481885f8c906e1b86e1d6f8 N A B) λy k2 R S U Z=>F _ _ (cz (.lg x y) N ⟨J,R⟩ (L2 0x4a8721c3c91c9238 N P S) (L3 5444947780863480 N D U) (L3 0x40db3a20638d10310bf38 N B Z))
 ·refine λY=>o (k+1) (L1 0x20dc3b8ee3bdc2fc106e1b86e1d6f8 N A) _ λv H hp=>?_
  obtain ⟨⟨u,d,rfl⟩|⟨h,_⟩,D,B⟩:=hp
  ·conv=>(whnf;try dsimp only)
   refine eR (nX (L1 152207220472 N C)) (λY=>I.go (E++[u]) H (by rw [xz];simp;exact L1 0x83bdf041def8 N C) (L2 0x41b86e1b876be481905f8c906e1b86e1d6f8 N A B) λy k2 R S U Z=>?_)
   exact F _ _ (cz (.lh u d y) N R (L1 160046813752 N S) (L3 5444947780863480 N D U) (L3 0x40db3a20638d10320bf38 N B Z))
  ·cases h
end
section
variable{e:W al}{c:bA}{b:al}{L k n:X}{a:ai}
theorem Mc:ci ((0:al)<(L:al))=ci (0<L):=lM.mpr (pD (n:=0))
theorem Me:ci ((1:al)<(L:al))=ci (1<L):=lM.mpr (pD (n:=1))
theorem OO{r:X}(h:r<4):∃o:oH,eN (.aj [.ae (.aA 5031),.ae (.aA 16125),.ae (.aA 8126),.ae (.aA 1040189)]) (.ab (r:al))=O o.pv:=by
 apply xm h
 ·exact ⟨.xD,N⟩
 ·exact ⟨.or,N⟩
 ·exact ⟨.iC,N⟩
 ·exact ⟨.mm,N⟩
theorem OP{r:X}(h:r<3):∃o:l8,eN (.aj [.ae (.aA 61),.ae (.aA 7997),.ae (.aA 62)]) (.ab (r:al))=O o.pv:=by
 apply oM h
 ·exact ⟨.lt,N⟩
 ·exact ⟨.le,N⟩
 ·exact ⟨.eq,N⟩
theorem B'{r:X}(h:r<5):∃o:i_,eN (.aj [.ae (.aA 1799906),.ae (.aA 215726196),.ae (.aA 14447),.ae (.aA 215742573),.ae (.aA 1685488)]) (.ab (r:al))=O o.pv:=by
 apply QU h
 ·exact ⟨.jx,N⟩
 ·exact ⟨.fL,N⟩
 ·exact ⟨.no,N⟩
 ·exact ⟨.l7,N⟩
 ·exact ⟨.ak,N⟩
theorem agQ(hB:12≤B)(Jf:0<L->17≤B)(S:B1+10≤B)(hd:iy e c b L a n)(hn:oz e c b L a n)(hD:∀k,k≤99990->iQ e c b L a n 597 [.ah 0,.ab 0] k (oy bn k))(hS:g7 e c b L a n 0 2 2 100 99000)(hT:jJ e c b L a n 0 7 5 100 98000)
  (U:g7 e c b L a n 0 B1 2 100 99000):g7 e c b L a (n+1) 1 B 10 98 96000:=λC k E D K H=>by
 have fA:K (aP.b_ bn).pv (cu (k+1) b L::a):=H _ _ (cz (.b_ bn) N tt (L1 163717058063 N hB) (L1 4243224 N) (L1 4436113753592 N))
 refine λY=>hd.go 9 k (by decide) (L1 0x8ac106e1b86e1d2f8 N D) λr hr=>?_
 apply H0 hr
 ·exact fA
 ·exact H _ _ (cz (.b_ M) N tt (L1 163717058063 N hB) (L1 4243224 N) (L1 4436113753592 N))
 ·cases C with
  |nil=>
   exact fA
  |cons u C=>
   refine λY=>hd.go ((u::C).map λv=>PV.ae (nm v)).length (k+1) (by simp) (L1 0x2282fc106e1b86e1d2f8 N D) λr hr=>?_
   rw [sw]at hr
   conv=>(whnf;try dsimp only)
   exact eR (show eN (lz (u::C)) (.ab (r:al))=_ from(yW (λv=>PV.ae (nm v)) (u::C) r hr)) (H _ _ (cz (.aa (u::C)[r]) N (Nt _) (L1 163717058063 N hB) (L1 4344299288 N) (L1 4542580483655160 N)))
 ·exact λY=>hS.go C (k+1) (L1 152207219448 N E) (L1 0x20dc370dc3bdc2fc106e1b86e1d2f8 N D) λx I J P F A=>H _ _ (cz (.jj x) N J (L2 0x4c072f24324c0e0f N hB P) (L2 165092820472 N F) (L2 0x811b9f9c10300bf38 N A))
 ·refine λY=>hd.go 3 (k+1) (by decide) (L1 0x2282fc106e1b86e1d2f8 N D) λq hq=>?_
  obtain ⟨o,ho⟩:=Qd hq
  conv=>(whnf;try dsimp only)
  exact eR ho (λY=>U.go C (k+1+1) (L1 152207219448 N E) (L1 0x8370dc370ef70bc2fc106e1b86e1d2f8 N D) λx I J P F A=>λY=>hS.go C I (L1 152207219448 N E) (L2 0x106e1b86e1def920601785f8c906e1b86e1d2f8 N D A) λy k2 Z f j R=>H _ _ (cz (.op o x y) N ⟨J,Z⟩ (L4 0x2643b0e9e486c98d13211b9f8 N S P f) (L3 0x4d609ac9321785f8 N F j) (L3 0x408dcfce881863440c02f0bf38 N A R)))
 ·conv=>(whnf;try dsimp only)
  refine eR Mc ?_
  by_cases hL:0<L
  ·refine eR (FB hL) (λY=>hS.go C (k+1) (L1 152207219448 N E) (L1 0x20dc370dc3bdc2fc106e1b86e1d2f8 N D) λx I J P F A=>λY=>hd.go 2 I (by decide) (L2 0x456481805f8c906e1b86e1d2f8 N D A) λq hq=>?_)
   have:=Jf hL
   apply rI hq
   ·exact H _ _ (cz (.kg bn x) N ⟨hL,J⟩ (L2 0x9908b101c5e4c8eaf41218 N P this) (L2 0x817e704c85f8 N F) (L2 0x2046e7e42fc10300bf38 N A))
   ·exact H _ _ (cz (.kg M x) N ⟨hL,J⟩ (L2 0x9908b101c5e4c8eaf41218 N P this) (L2 0x817e704c85f8 N F) (L2 0x2046e7e42fc10300bf38 N A))
  ·exact eR (EQ hL) fA
 ·refine λY=>hD (k+1) (L1 0x20dc3b8ee3bdc2fc106e1b86e1d2f8 N D) _ λv I hp=>?_
  obtain ⟨⟨u,d,rfl⟩|⟨h,_⟩,F,A⟩:=hp
  ·conv=>(whnf;try dsimp only)
   refine eR (nX (L1 152207219448 N E)) (λY=>hT.go (C++[u]) I (by rw [xz];simp;exact L1 0x83bdf041daf8 N E) (L2 0x41b86e1b876be481905f8c906e1b86e1d2f8 N D A) λy k2 Z f j R=>?_)
   exact H _ _ (cz (.tq u d y) N Z (L2 0x4c073125724c0e0f N hB f) (L3 5444947780863480 N F j) (L3 0x102373f3a20678d10320bf38 N A R))
  ·cases h
 ·refine λY=>hn (k+1) (L1 0x2282fc106e1b86e1d2f8 N D) _ λv k' hp=>?_
  obtain ⟨u,rfl,rfl⟩:=hp
  refine λY=>hS.go C (k+1+1) (L1 152207219448 N E) (L1 0x8370dc370ef70bc2fc106e1b86e1d2f8 N D) λx I J P F A=>?_
  conv=>(whnf;try dsimp only)
  refine eR (nX (L1 152207219448 N E)) (λY=>U.go (C++[u]) I (by rw [xz];simp;exact L1 0x83bdf041daf8 N E) (L2 0x106e1b86e1def920601785f8c906e1b86e1d2f8 N D A) λy k2 Z f j R=>?_)
  exact H _ _ (cz (.jc u x y) N ⟨J,Z⟩ (L4 0x1321d845a83c98da090d13211b9f8 N S P f) (L3 0x4d609ac9321785f8 N F j) (L3 0x408dcfce881863440c02f0bf38 N A R))
 ·refine λY=>hT.go C (k+1) (L1 152207219448 N E) (L1 0x20dc370dc3b5c2fc106e1b86e1d2f8 N D) λt I J P F A=>λY=>hS.go C I (L1 152207219448 N E) (L2 0x41b86e1b877be481985f8c906e1b86e1d2f8 N D A) λx k2 Z f j R=>λY=>U.go C k2 (L1 152207219448 N E) (L3 0x8370dc370ef7d1030ce881985f8c906e1b86e1d2f8 N D A R) λy k3 h9 pj AV ID=>?_
  exact H _ _ (cz (.aF t x y) N (bt J Z h9) (by refine (?_:1+t.sz+x.sz+y.sz≤_);exact L5 0x4c8781d874f2638486c95d13211b9f8 N S P f pj) (L4 0x9bc137a26b24c85f8 N F j AV) (L4 0x2046e7e7640c35b20618d10330bf38 N A R ID))
theorem agR(hB:12≤B)(Jf:0<L->17≤B)(S:B1+10≤B)(hd:iy e c b L a n)(hn:oz e c b L a n)(hD:∀k,k≤99990->iQ e c b L a n 597 [.ah 0,.ab 0] k (oy bn k))(hS:g7 e c b L a n 0 2 2 100 99000)(hT:jJ e c b L a n 0 7 5 100 98000)
  (U:g7 e c b L a n 1 B1 10 98 96000):g7 e c b L a (n+1) 2 B 18 96 95000:=λC k E D K H=>by
 have fA:K (aP.b_ bn).pv (cu (k+1) b L::a):=H _ _ (cz (.b_ bn) N tt (L1 163717058063 N hB) (L1 4243224 N) (L1 4436382189048 N))
 refine λY=>hd.go 9 k (by decide) (L1 0x8ac106e1b86e1cef8 N D) λr hr=>?_
 apply H0 hr
 ·exact fA
 ·exact H _ _ (cz (.b_ M) N tt (L1 163717058063 N hB) (L1 4243224 N) (L1 4436382189048 N))
 ·cases C with
  |nil=>
   exact fA
  |cons u C=>
   refine λY=>hd.go ((u::C).map λv=>PV.ae (nm v)).length (k+1) (by simp) (L1 0x2282fc106e1b86e1cef8 N D) λr hr=>?_
   rw [sw]at hr
   conv=>(whnf;try dsimp only)
   exact eR (show eN (lz (u::C)) (.ab (r:al))=_ from(yW (λv=>PV.ae (nm v)) (u::C) r hr)) (H _ _ (cz (.aa (u::C)[r]) N (Nt _) (L1 163717058063 N hB) (L1 4344299288 N) (L1 4542855361562104 N)))
 ·exact λY=>hS.go C (k+1) (L1 152207217400 N E) (L1 0x20dc370dc3bdc2fc106e1b86e1cef8 N D) λx I J P F A=>H _ _ (cz (.jj x) N J (L2 0x4c072f24324c0e0f N hB P) (L2 165092820472 N F) (L2 0x811d9f9c10300bf38 N A))
 ·refine λY=>hd.go 3 (k+1) (by decide) (L1 0x2282fc106e1b86e1cef8 N D) λq hq=>?_
  obtain ⟨o,ho⟩:=Qd hq
  conv=>(whnf;try dsimp only)
  exact eR ho (λY=>U.go C (k+1+1) (L1 0x83b5f041d2f8 N E) (L1 0x8370dc370e970bc2fc106e1b86e1cef8 N D) λx I J P F A=>λY=>hS.go C I (L1 152207217400 N E) (L2 0x41b86e1b877be4811b9e1785f8c906e1b86e1cef8 N D A) λy k2 Z f j R=>H _ _ (cz (.op o x y) N ⟨J,Z⟩ (L4 0x2643b0e9e486c98d13211b9f8 N S P f) (L3 0x4d609ac9321785f8 N F j) (L3 0x1023b3f3a20618d102373c2f0bf38 N A R)))
 ·conv=>(whnf;try dsimp only)
  refine eR Mc ?_
  by_cases hL:0<L
  ·refine eR (FB hL) (λY=>hS.go C (k+1) (L1 152207217400 N E) (L1 0x20dc370dc3bdc2fc106e1b86e1cef8 N D) λx I J P F A=>λY=>hd.go 2 I (by decide) (L2 0x456481805f8c906e1b86e1cef8 N D A) λq hq=>?_)
   have:=Jf hL
   apply rI hq
   ·exact H _ _ (cz (.kg bn x) N ⟨hL,J⟩ (L2 0x9908b101c5e4c8eaf41218 N P this) (L2 0x817e704c85f8 N F) (L2 0x204767e42fc10300bf38 N A))
   ·exact H _ _ (cz (.kg M x) N ⟨hL,J⟩ (L2 0x9908b101c5e4c8eaf41218 N P this) (L2 0x817e704c85f8 N F) (L2 0x204767e42fc10300bf38 N A))
  ·exact eR (EQ hL) fA
 ·refine λY=>hD (k+1) (L1 0x20dc3b8ee3bdc2fc106e1b86e1cef8 N D) _ λv I hp=>?_
  obtain ⟨⟨u,d,rfl⟩|⟨h,_⟩,F,A⟩:=hp
  ·conv=>(whnf;try dsimp only)
   refine eR (nX (L1 152207217400 N E)) (λY=>hT.go (C++[u]) I (by rw [xz];simp;exact L1 0x83bdf041d2f8 N E) (L2 0x41b86e1b876be481905f8c906e1b86e1cef8 N D A) λy k2 Z f j R=>?_)
   exact H _ _ (cz (.tq u d y) N Z (L2 0x4c073125724c0e0f N hB f) (L3 5444947780863480 N F j) (L3 0x1023b3f3a20678d10320bf38 N A R))
  ·cases h
 ·refine λY=>hn (k+1) (L1 0x2282fc106e1b86e1cef8 N D) _ λv k' hp=>?_
  obtain ⟨u,rfl,rfl⟩:=hp
  refine λY=>hS.go C (k+1+1) (L1 152207217400 N E) (L1 0x8370dc370ef70bc2fc106e1b86e1cef8 N D) λx I J P F A=>?_
  conv=>(whnf;try dsimp only)
  refine eR (nX (L1 152207217400 N E)) (λY=>U.go (C++[u]) I (by rw [xz];simp;exact L1 0x83adf041d2f8 N E) (L2 0x106e1b86e1d2f920601785f8c906e1b86e1cef8 N D A) λy k2 Z f j R=>?_)
  exact H _ _ (cz (.jc u x y) N ⟨J,Z⟩ (L4 0x1321d845a83c98da090d13211b9f8 N S P f) (L3 0x4d609ac9321785f8 N F j) (L3 0x1023b3f3a2046e7e3440c02f0bf38 N A R))
 ·refine λY=>hT.go C (k+1) (L1 152207217400 N E) (L1 0x20dc370dc3b5c2fc106e1b86e1cef8 N D) λt I J P F A=>λY=>hS.go C I (L1 152207217400 N E) (L2 0x41b86e1b877be481985f8c906e1b86e1cef8 N D A) λx k2 Z f j R=>λY=>U.go C k2 (L1 0x83b5f041d2f8 N E) (L3 0x8370dc370e97d1030ce881985f8c906e1b86e1cef8 N D A R) λy k3 h9 pj AV ID=>?_
  exact H _ _ (cz (.aF t x y) N (bt J Z h9) (by refine (?_:1+t.sz+x.sz+y.sz≤_);exact L5 0x4c8781d874f2638486c95d13211b9f8 N S P f pj) (L4 0x9bc137a26b24c85f8 N F j AV) (L4 0x811d9f9d902373f5b20618d10330bf38 N A R ID))
end
section
variable{e:W al}{c:bA}{b:al}{L k n:X}{a:ai}
theorem aep(hB:18≤B)(o8:1<L->23≤B)(hd:iy e c b L a n)(hn:oz e c b L a n)(hD:∀k,k≤99990->iQ e c b L a n 597 [.ah 0,.ab 1] k (oy bn k))(hS:g7 e c b L a n 0 2 2 100 99000)(hT:jJ e c b L a n 0 7 5 100 98000)
  (Z:jJ e c b L a n 0 7 5 100 98000) (pg:g7 e c b L a n 0 2 2 100 99000) (Jz:g7 e c b L a n 1 17 10 98 96000) (Jb:oJ e c b L a n 0 3 3 100 98000) (JR:oJ e c b L a n 1 7 8 99 97000):jJ e c b L a (n+1) 1 B 13 96 95000:=λH k E C K f=>by
 refine λY=>hd.go 10 k (by decide) (L1 0x8ac106e1b86e1cef8 N C) λr hr=>?_
 apply Qr hr
 ·exact λY=>hS.go H (k+1) (L1 152207217400 N E) (L1 0x20dc370dc3bdc2fc106e1b86e1cef8 N C) λx F I J D A=>λY=>hS.go H F (L1 152207217400 N E) (L2 0x41b86e1b877be481805f8c906e1b86e1cef8 N C A) λy k2 P R S U=>f _ _ (cz (.ja x y) N ⟨I,P⟩ (L3 0x980e8397921a24324c0ecf N hB J R) (L3 5444947780863480 N D S) (L3 0x10238bf3a20618d10300bf38 N A U))
 ·exact λY=>hS.go H (k+1) (L1 152207217400 N E) (L1 0x20dc370dc3bdc2fc106e1b86e1cef8 N C) λx F I J D A=>λY=>hS.go H F (L1 152207217400 N E) (L2 0x41b86e1b877be481805f8c906e1b86e1cef8 N C A) λy k2 P R S U=>f _ _ (cz (.eJ x y) N ⟨I,P⟩ (L3 0x4c07411660f2434824324c0ecf N hB J R) (L3 5444947780863480 N D S) (L3 0x10238bf3a20618d10300bf38 N A U))
 ·refine λY=>hd.go 4 (k+1) (by decide) (L1 0x2282fc106e1b86e1cef8 N C) λq hq=>?_
  obtain ⟨m,hm⟩:=Hc hq
  conv=>(whnf;try dsimp only)
  exact eR hm (λY=>Jz.go H (k+1+1) (L1 0x83b5f041d2f8 N E) (L1 0x8370dc370e970bc2fc106e1b86e1cef8 N C) λx F I J D A=>f _ _ (cz (.jb m x) N I (L2 0x1301cbc83abf24c0ecf N hB J) (L2 0x99c1321785f8 N D) (L2 0x811c5f9c102373c2f0bf38 N A)))
 ·exact λY=>Z.go H (k+1) (L1 152207217400 N E) (L1 0x20dc370dc3b5c2fc106e1b86e1cef8 N C) λx F I J D A=>f _ _ (cz (.d3 x) N I (L2 0x4c072f25724c0ecf N hB J) (L2 165092820472 N D) (L2 0x811c5f9c10330bf38 N A))
 ·refine λY=>hd.go 4 (k+1) (by decide) (L1 0x2282fc106e1b86e1cef8 N C) λq hq=>?_
  obtain ⟨o,ho⟩:=OO hq
  conv=>(whnf;try dsimp only)
  exact eR ho (λY=>hT.go H (k+1+1) (L1 152207217400 N E) (L1 0x8370dc370ed70bc2fc106e1b86e1cef8 N C) λx F I J D A=>λY=>Z.go H F (L1 152207217400 N E) (L2 0x106e1b86e1daf920661785f8c906e1b86e1cef8 N C A) λy k2 P R S U=>f _ _ (cz (.jV o x y) N ⟨I,P⟩ (L3 0x980e839792ba25724c0ecf N hB J R) (L3 0x4d609ac9321785f8 N D S) (L3 0x408e2fce8819e3440cc2f0bf38 N A U)))
 ·refine λY=>hD (k+1) (L1 0x20dc3b8ee3bdc2fc106e1b86e1cef8 N C) _ λw F j=>λY=>hd 5 F (by decide) (io j.2.2 (io (Sc (Sc C 1) 4) (by decide))) _ λv k' hp=>?_
  obtain ⟨r,hr,rfl,rfl⟩:=hp
  obtain ⟨q,hq⟩:=B' hr
  obtain ⟨⟨u,d,rfl⟩|⟨h,_⟩,D,A⟩:=j
  ·conv=>(whnf;try dsimp only)
   refine eR hq ?_
   conv=>(whnf;try dsimp only)
   refine eR (nX (L1 152207217400 N E)) (λY=>Z.go (H++[u]) (F+1) (by rw [xz];simp;exact L1 0x83bdf041d2f8 N E) (L2 0x106e1b86e1dae17e481905f8c906e1b86e1cef8 N C A) λy k2 P R S U=>?_)
   exact f _ _ (cz (.h_ q u d y) N P (L2 0x4c073125724c0ecf N hB R) (L3 0x4d609a0bf24c85f8 N D S) (L3 0x408e2fce881985f8d10320bf38 N A U))
  ·cases h
 ·refine λY=>hD (k+1) (L1 0x20dc3b8ee3bdc2fc106e1b86e1cef8 N C) _ λw F j=>λY=>hd.go 5 F (by decide) (io j.2.2 (io (Sc (Sc C 1) 4) (by decide))) λr hr=>?_
  obtain ⟨q,hq⟩:=B' hr
  obtain ⟨⟨u,d,rfl⟩|⟨h,_⟩,D,A⟩:=j
  ·conv=>(whnf;try dsimp only)
   refine eR hq ?_
   conv=>(whnf;try dsimp only)
   refine eR (nX (L1 152207217400 N E)) (λY=>Z.go (H++[u]) (F+1) (by rw [xz];simp;exact L1 0x83bdf041d2f8 N E) (L2 0x106e1b86e1dae17e481905f8c906e1b86e1cef8 N C A) λy k2 P R S U=>?_)
   exact f _ _ (cz (.h_ q u d y) N P (L2 0x4c073125724c0ecf N hB R) (L3 0x4d609a0bf24c85f8 N D S) (L3 0x408e2fce881985f8d10320bf38 N A U))
  ·cases h
 ·conv=>(whnf;try dsimp only)
  refine eR Me ?_
  by_cases hL:1<L
  ·refine eR (FB hL) ?_
   have:=o8 hL
   exact λY=>hS.go H (k+1) (L1 152207217400 N E) (L1 0x20dc370dc3bdc2fc106e1b86e1cef8 N C) λx F I J D A=>f _ _ (cz (.tr x) N ⟨hL,I⟩ (L2 0x9808b301dde824324c0e30 N this J) (L2 165092820472 N D) (L2 0x811c5f9c10300bf38 N A))
  ·exact eR (EQ hL) (λY=>hS.go H (k+1) (L1 152207217400 N E) (L1 0x20dc370dc3bdc2fc106e1b86e1cef8 N C) λx F I J D A=>λY=>hS.go H F (L1 152207217400 N E) (L2 0x41b86e1b877be481805f8c906e1b86e1cef8 N C A) λy k2 P R S U=>f _ _ (cz (.ja x y) N ⟨I,P⟩ (L3 0x980e8397921a24324c0ecf N hB J R) (L3 5444947780863480 N D S) (L3 0x10238bf3a20618d10300bf38 N A U)))
 ·refine λY=>hn (k+1) (L1 0x2282fc106e1b86e1cef8 N C) _ λv k' hp=>?_
  obtain ⟨u,rfl,rfl⟩:=hp
  refine λY=>pg.go H (k+1+1) (L1 152207217400 N E) (L1 0x8370dc370ef70bc2fc106e1b86e1cef8 N C) λx F I J D A=>?_
  conv=>(whnf;try dsimp only)
  refine eR (nX (L1 152207217400 N E)) (λY=>Z.go (H++[u]) F (by rw [xz];simp;exact L1 0x83bdf041d2f8 N E) (L2 0x106e1b86e1daf920601785f8c906e1b86e1cef8 N C A) λy k2 P R S U=>?_)
  exact f _ _ (cz (.jc u x y) N ⟨I,P⟩ (L3 0x4c07411660f2574824324c0ecf N hB J R) (L3 0x4d609ac9321785f8 N D S) (L3 0x408e2fce8819e3440c02f0bf38 N A U))
 ·refine λY=>hd.go 3 (k+1) (by decide) (L1 0x2282fc106e1b86e1cef8 N C) λq hq=>?_
  obtain ⟨o,ho⟩:=OP hq
  conv=>(whnf;try dsimp only)
  refine eR ho (λY=>JR.go H (k+1+1) (L1 0x83bdf041d2f8 N E) (L1 0x8370dc370eb70bc2fc106e1b86e1cef8 N C) λx F I J D A=>λY=>Jb.go H F (L1 152207217400 N E) (L2 0x106e1b86e1daf9206c1785f8c906e1b86e1cef8 N C A) λy k2 P R S U=>?_)
  exact f _ _ (cz (.ao o x y) N ⟨I,P⟩ (by refine (?_:1+x.sz+y.sz≤_);exact L3 0x980e8397923a25724c0ecf N hB J R) (L3 0x4d609ac9321785f8 N D S) (L3 0x408e2fce8818e3440d82f0bf38 N A U))
theorem aeq(f:58≤B)(o8:1<L->23≤B)(hd:iy e c b L a n)(hn:oz e c b L a n)(hD:∀k,k≤99990->iQ e c b L a n 597 [.ah 0,.ab 2] k (oy M k))(t:g7 e c b L a n 0 2 2 100 99000)(hT:jJ e c b L a n 0 7 5 100 98000)
  (Z:jJ e c b L a n 1 23 13 96 95000) (pg:g7 e c b L a n 1 17 10 98 96000) (Jz:g7 e c b L a n 2 27 18 96 95000) (Jb:oJ e c b L a n 0 3 3 100 98000) (JR:oJ e c b L a n 1 7 8 99 97000):jJ e c b L a (n+1) 2 B 25 94 94000:=λH k D C K h=>by
 refine λY=>hd.go 10 k (by decide) (L1 0x8ac106e1b86e1caf8 N C) λr hr=>?_
 apply Qr hr
 ·exact λY=>t.go H (k+1) (L1 152207215352 N D) (L1 0x20dc370dc3bdc2fc106e1b86e1caf8 N C) λx F S U E A=>λY=>t.go H F (L1 152207215352 N D) (L2 0x41b86e1b877be481805f8c906e1b86e1caf8 N C A) λy s I J P R=>h _ _ (cz (.ja x y) N ⟨S,I⟩ (L3 0x980e8397921a24324c0ed3 N f U J) (L3 5444947780863480 N E P) (L3 0x10239c33a20618d10300bf38 N A R))
 ·exact λY=>t.go H (k+1) (L1 152207215352 N D) (L1 0x20dc370dc3bdc2fc106e1b86e1caf8 N C) λx F S U E A=>λY=>t.go H F (L1 152207215352 N D) (L2 0x41b86e1b877be481805f8c906e1b86e1caf8 N C A) λy s I J P R=>h _ _ (cz (.eJ x y) N ⟨S,I⟩ (L3 0x4c07411660f2434824324c0ed3 N f U J) (L3 5444947780863480 N E P) (L3 0x10239c33a20618d10300bf38 N A R))
 ·refine λY=>hd.go 4 (k+1) (by decide) (L1 0x2282fc106e1b86e1caf8 N C) λq i=>?_
  obtain ⟨m,hm⟩:=Hc i
  conv=>(whnf;try dsimp only)
  exact eR hm (λY=>Jz.go H (k+1+1) (L1 0x83a5f041caf8 N D) (L1 0x8370dc370e770bc2fc106e1b86e1caf8 N C) λx F S U E A=>h _ _ (cz (.jb m x) N S (L2 0x1301cbc83ac324c0ed3 N f U) (L2 0x99c1321785f8 N E) (L2 0x811ce19c1023b3c2f0bf38 N A)))
 ·exact λY=>Z.go H (k+1) (L1 0x83a5f041caf8 N D) (L1 0x20dc370dc39dc2fc106e1b86e1caf8 N C) λx F S U E A=>h _ _ (cz (.d3 x) N S (L2 0x1301cbc838c324c0ed3 N f U) (L2 165092820472 N E) (L2 0x204738670408e2f0bf38 N A))
 ·refine λY=>hd.go 4 (k+1) (by decide) (L1 0x2282fc106e1b86e1caf8 N C) λq i=>?_
  obtain ⟨o,ho⟩:=OO i
  conv=>(whnf;try dsimp only)
  exact eR ho (λY=>hT.go H (k+1+1) (L1 152207215352 N D) (L1 0x8370dc370ed70bc2fc106e1b86e1caf8 N C) λx F S U E A=>λY=>Z.go H F (L1 0x83a5f041caf8 N D) (L2 0x106e1b86e1cef920661785f8c906e1b86e1caf8 N C A) λy s I J P R=>h _ _ (cz (.jV o x y) N ⟨S,I⟩ (L3 0x2603a0e5e41c61a25724c0ed3 N f U J) (L3 0x4d609ac9321785f8 N E P) (L3 0x10239c33a204717e3440cc2f0bf38 N A R)))
 ·refine λY=>hD (k+1) (L1 0x20dc3b8ee3bdc2fc106e1b86e1caf8 N C) _ λw F j=>λY=>hd 5 F (by decide) (io j.2.2 (io (Sc (Sc C 1) 4) (by decide))) _ λv k' hp=>?_
  obtain ⟨r,hr,rfl,rfl⟩:=hp
  obtain ⟨q,i⟩:=B' hr
  obtain ⟨⟨u,d,rfl⟩|⟨_,l,d,rfl⟩,E,A⟩:=j
  ·conv=>(whnf;try dsimp only)
   refine eR i ?_
   conv=>(whnf;try dsimp only)
   refine eR (nX (L1 152207215352 N D)) (λY=>Z.go (H++[u]) (F+1) (by rw [xz];simp;exact L1 0x839df041caf8 N D) (L2 0x106e1b86e1cee17e481905f8c906e1b86e1caf8 N C A) λy s I J P R=>?_)
   exact h _ _ (cz (.h_ q u d y) N I (L2 0x1301cc4838c324c0ed3 N f J) (L3 0x4d609a0bf24c85f8 N E P) (L3 0x10239c33a20471785f8d10320bf38 N A R))
  ·conv=>(whnf;try dsimp only)
   refine eR i ?_
   conv=>(whnf;try dsimp only)
   refine eR (Lk (L1 152207215352 N D)) (λY=>Z.go (H++[bn,M]) (F+1) (by rw [xz];simp;exact L1 0x8395f041caf8 N D) (L2 0x106e1b86e1cee17e481905f8c906e1b86e1caf8 N C A) λy s I J P R=>?_)
   exact h _ _ (cz (.iL q l d y) N I (L2 0x1301cc4838c324c0ed3 N f J) (L3 0x4d609a0bf24c85f8 N E P) (L3 0x10239c33a20471785f8d10320bf38 N A R))
 ·refine λY=>hD (k+1) (L1 0x20dc3b8ee3bdc2fc106e1b86e1caf8 N C) _ λw F j=>λY=>hd.go 5 F (by decide) (io j.2.2 (io (Sc (Sc C 1) 4) (by decide))) λr hr=>?_
  obtain ⟨q,i⟩:=B' hr
  obtain ⟨⟨u,d,rfl⟩|⟨_,l,d,rfl⟩,E,A⟩:=j
  ·conv=>(whnf;try dsimp only)
   refine eR i ?_
   conv=>(whnf;try dsimp only)
   refine eR (nX (L1 152207215352 N D)) (λY=>Z.go (H++[u]) (F+1) (by rw [xz];simp;exact L1 0x839df041caf8 N D) (L2 0x106e1b86e1cee17e481905f8c906e1b86e1caf8 N C A) λy s I J P R=>?_)
   exact h _ _ (cz (.h_ q u d y) N I (L2 0x1301cc4838c324c0ed3 N f J) (L3 0x4d609a0bf24c85f8 N E P) (L3 0x10239c33a20471785f8d10320bf38 N A R))
  ·conv=>(whnf;try dsimp only)
   refine eR i ?_
   conv=>(whnf;try dsimp only)
   refine eR (Lk (L1 152207215352 N D)) (λY=>Z.go (H++[bn,M]) (F+1) (by rw [xz];simp;exact L1 0x8395f041caf8 N D) (L2 0x106e1b86e1cee17e481905f8c906e1b86e1caf8 N C A) λy s I J P R=>?_)
   exact h _ _ (cz (.iL q l d y) N I (L2 0x1301cc4838c324c0ed3 N f J) (L3 0x4d609a0bf24c85f8 N E P) (L3 0x10239c33a20471785f8d10320bf38 N A R))
 ·conv=>(whnf;try dsimp only)
  refine eR Me ?_
  by_cases hL:1<L
  ·refine eR (FB hL) ?_
   have:=o8 hL
   exact λY=>t.go H (k+1) (L1 152207215352 N D) (L1 0x20dc370dc3bdc2fc106e1b86e1caf8 N C) λx F S U E A=>h _ _ (cz (.tr x) N ⟨hL,S⟩ (L2 0x9808b301dde824324c0ed3 N f U) (L2 165092820472 N E) (L2 0x811ce19c10300bf38 N A))
  ·exact eR (EQ hL) (λY=>t.go H (k+1) (L1 152207215352 N D) (L1 0x20dc370dc3bdc2fc106e1b86e1caf8 N C) λx F S U E A=>λY=>t.go H F (L1 152207215352 N D) (L2 0x41b86e1b877be481805f8c906e1b86e1caf8 N C A) λy s I J P R=>h _ _ (cz (.ja x y) N ⟨S,I⟩ (L3 0x980e8397921a24324c0ed3 N f U J) (L3 5444947780863480 N E P) (L3 0x10239c33a20618d10300bf38 N A R)))
 ·refine λY=>hn (k+1) (L1 0x2282fc106e1b86e1caf8 N C) _ λv k' hp=>?_
  obtain ⟨u,rfl,rfl⟩:=hp
  refine λY=>pg.go H (k+1+1) (L1 0x83b5f041caf8 N D) (L1 0x8370dc370e970bc2fc106e1b86e1caf8 N C) λx F S U E A=>?_
  conv=>(whnf;try dsimp only)
  refine eR (nX (L1 152207215352 N D)) (λY=>Z.go (H++[u]) F (by rw [xz];simp;exact L1 0x839df041caf8 N D) (L2 0x41b86e1b873be4811b9e1785f8c906e1b86e1caf8 N C A) λy s I J P R=>?_)
  exact h _ _ (cz (.jc u x y) N ⟨S,I⟩ (by refine (?_:1+2*x.sz+y.sz≤_);exact L3 0x4c07411660f20e30d2083abf24c0ed3 N f U J) (L3 0x4d609ac9321785f8 N E P) (L3 0x408e70ce8811c5f8d102373c2f0bf38 N A R))
 ·refine λY=>hd.go 3 (k+1) (by decide) (L1 0x2282fc106e1b86e1caf8 N C) λq i=>?_
  obtain ⟨o,ho⟩:=OP i
  conv=>(whnf;try dsimp only)
  refine eR ho (λY=>JR.go H (k+1+1) (L1 0x83bdf041caf8 N D) (L1 0x8370dc370eb70bc2fc106e1b86e1caf8 N C) λx F S U E A=>λY=>Jb.go H F (L1 152207215352 N D) (L2 0x106e1b86e1daf9206c1785f8c906e1b86e1caf8 N C A) λy s I J P R=>?_)
  exact h _ _ (cz (.ao o x y) N ⟨S,I⟩ (by refine (?_:1+x.sz+y.sz≤_);exact L3 0x980e8397923a25724c0ed3 N f U J) (L3 0x4d609ac9321785f8 N E P) (L3 0x408e70ce8818e3440d82f0bf38 N A R))
end
section
variable{i:W al}{e:bA}{b:al}{L k n:X}{d:ai}
theorem D3{B:PV->W PV->ai->(W PV->ai->Prop)->Prop}{E:Type}{f g:E->PV}:∀(l:W E) (A:W PV) (k:X) (Q:W PV->ai->Prop),k+l.length≤100000->
  (∀a∈l,∀(A:W PV) (k:X) (R:W PV->ai->Prop),k≤100000->(∀c:an,R (A++kU c (g a)) (cu (k+1) b L::d))->B (f a) A (cu k b L::d) R)->
  (∀s:W E,s.Sublist l->Q (A++s.map g) (cu (k+l.length) b L::d))->iq B (l.map f) A (cu k b L::d) Q:=λl=>cB l (λA k Q C F D=>by
  have h:Q (A++[]) (cu k b L::d):=D [] (Z8 _)
  rw [SZ]at h
  exact h) λa l I A k Q C F D=>by
  rw [Da]at C
  refine (?_:B (f a) A _ λA J=>iq B (l.map f) A J Q)
  refine F a (wf ..) A k _ (by exact L2 0x8ac11410bf38 N C) λc=>I _ (k+1) Q (by exact L2 0x8a0e42fc11410bf38 N C) (λa P=>F a (wv _ P)) λs H=>?_
  refine eR (show k+1+l.length=k+(a::l).length by rw [Da];exact KE (L2 4540426557883896 N) (L2 4566323062423352 N)) ?_
  cases c
  ·have:=D s (H.cons a)
   simpa [kU] using this
  ·have:=D (a::s) (H.cons_cons a)
   simpa [kU] using this
theorem T2{B:PV->W PV->ai->(W PV->ai->Prop)->Prop}{E F:Type}{f:E->PV}{g:E×F->PV}(C:W F):∀(l:W E) (A:W PV) (k:X) (Q:W PV->ai->Prop),k+l.length*C.length≤100000->
  (∀a∈l,∀(A:W PV) (k:X) (R:W PV->ai->Prop),k+C.length≤100000->(∀s:W F,s.Sublist C->R (A++s.map λb=>g (a,b)) (cu (k+C.length) b L::d))->B (f a) A (cu k b L::d) R)->
  (∀s:W (E×F),s.length≤l.length*C.length->(∀p∈s,p.2∈C)->Q (A++s.map g) (cu (k+l.length*C.length) b L::d))->iq B (l.map f) A (cu k b L::d) Q:=λl=>cB l (λA k Q H I J=>by
  have h:=J [] (Gc _) (λp D=>nomatch D)
  rw [Bx,Bh]at h
  have h:Q (A++[]) (cu k b L::d):=h
  rw [SZ]at h
  exact h) λa l Z A k Q H I J=>by
  rw [Da,yG]at H
  refine (?_:B (f a) A _ λA j=>iq B (l.map f) A j Q)
  refine I a (wf ..) A k _ (by exact L3 0x2283ac11410eb38 N H) λs Y=>Z _ (k+C.length) Q (by exact L3 0x8a0e43ac11410eb38 N H) (λa o=>I a (wv _ o)) λt P S=>?_
  refine eR (show k+C.length+l.length*C.length=k+(a::l).length*C.length by rw [Da,yG];exact KE (L3 4540771229042488 N) (L3 4566334873594680 N)) ?_
  have:=J ((s.map λb=>(a,b))++t) (by
   refine eR (xz ..) (eR (sw ..) (eR (Da ..) (eR (yG ..) ?_)))
   exact L4 0x40ef21c689bd1338 N P Y.length_le) (λp D=>by
   rcases pI.mp D with D|D
   ·refine aQ (No.mp D) λb y U=>?_
    subst U
    exact Y.subset y
   ·exact S p D)
  rw [uk,mL]at this
  exact eR (qU ..) this
set_option tactic.hygienic true in
theorem Pc(h:s.Sublist [0,1,2]):bw s:=by
 cases h<;>rename_i h<;>cases h<;>rename_i h<;>cases h<;>rename_i h<;>cases h<;>(unfold bw;decide)
theorem adv(h:s.Sublist t)(A:bw t):bw s:=Pc (h.trans (eL A BN))
@[reducible]noncomputable def wV(m:al)(A:av):av:=[(213496679,.ax (.ah 0)),(257683822,.ax (.ab m))]++A
theorem EK{c:an}{A:W PV}{R:W PV->ai->Prop}(h:R (A++kU c v) B)(C:c=M):R (A++[v]) B:=by subst C;exact h
theorem Em{c:an}{A:W PV}{v:PV}{R:W PV->ai->Prop}{B:ai}(h:R (A++kU c v) B)(C:c=bn):R A B:=by
 subst C
 have:A++kU bn v=A:=SZ A
 rwa [this]at h
theorem Pe(l:At):PV.aj ([]++l.map λa=>rv (ak a))=uv l:=(k_ l).symm
theorem aer(P:iy i e b L d n){l:W al}(E:l.length≤3){m:al}(F:jT .hY [.ab m]=O (l.map .ab))(B:k≤99000){R:Fl->av->ai->Prop}(A:∀s:W al,s.Sublist l->R .bp (wV m [(1685488,.ax (uv s))]) (cu (k+l.length) b L::d)):
  cY (ba (eZ i e) n) (eZ i e) [] (bf mE 1) (wV m []) (cu k b L::d) R:=by
 conv=>(whnf;try dsimp only)
 refine eR F (D3 (g:=λa=>rv (ak a)) l [] k _ (by exact L2 0x1141c648370dc370ef7c9238 N E B) (λa U S k R B A=>?_) λs H=>?_)
 ·refine λY=>P 4 k (by decide) B _ λv Z I=>dk I λr F C D=>?_
  clear I
  subst C
  subst D
  cases J:ci ((0:al)<(r:al))
  ·conv=>(whnf;try dsimp only)
   exact eR J (Em (A bn) N)
  ·conv=>(whnf;try dsimp only)
   exact eR J ⟨(λh=>nomatch h),EK (A M) N⟩
 ·exact ⟨eR (qX ..) (eR (sw ..) (io H.length_le (io E (by decide)))),eR (Pe ..) (A s H)⟩
theorem aes(J:iy i e b L d n){s:W al}(E:s.length≤3){m:al}(C:k≤99000){R:Fl->av->ai->Prop}(B:∀t:W al,t.Sublist s->R .bp (wV m [(1685488,.ax (uv s)),(31085722352,.ax (uv t))]) (cu (k+s.length) b L::d)):
  cY (ba (eZ i e) n) (eZ i e) [] (bf mE 2) (wV m [(1685488,.ax (uv s))]) (cu k b L::d) R:=by
 refine eR (k_ s) (D3 (f:=λa=>rv (ak a)) (g:=λa=>rv (ak a)) s [] k _ (by exact L2 0x1141c648370dc370ef7c9238 N E C) (λa S P k R C B=>?_) λt F=>?_)
 ·refine λY=>J 2 k (by decide) C _ λv U H=>dk H λr Z D A=>?_
  clear H
  subst D
  subst A
  cases I:ci ((r:al)=1)
  ·conv=>(whnf;try dsimp only)
   exact eR I (Em (B bn) N)
  ·conv=>(whnf;try dsimp only)
   exact eR I ⟨(λh=>nomatch h),EK (B M) N⟩
 ·exact ⟨eR (qX ..) (eR (sw ..) (io F.length_le (io E (by decide)))),eR (Pe ..) (eL (k_ s ..) (B t F))⟩
theorem aet(U:iy i e b L d n){s t:W al}(J:s.length≤3){m:al}(A:k≤99000){Q:Fl->av->ai->Prop}(Z:∀(f:W (al×al)) (j:av),f.length≤9->(∀p∈f,p.2∈s)->Q (.aB (.aj [uv s,uv t,oZ f])) j (cu (k+s.length*s.length) b L::d)):
  fy (ba (eZ i e) n) (eZ i e) [] [bf mE 3] (wV m [(1685488,.ax (uv s)),(31085722352,.ax (uv t))]) (cu k b L::d) Q:=by
 have H:s.length*s.length≤9:=M3 J J
 refine eR (k_ s) (T2 (f:=λa=>rv (ak a)) (g:=λp=>rv (vj p)) s s [] k _ (by exact L2 0x1141ce097c906e1b86e1def8 N A H) (λa ha B k R A F=>?_) λf C I=>?_)
 ·refine D3 (f:=λa=>rv (ak a)) (g:=λb=>rv (vj (a,b))) s B k _ (by exact L2 0x8a0e70450738 N A) (λa' o B k R A F=>?_) λt y=>F t y
  refine λY=>U 2 k (by decide) A _ λv k' P=>dk P λr hr D E=>?_
  clear P
  subst D
  subst E
  cases S:ci ((r:al)=1)
  ·conv=>(whnf;try dsimp only)
   exact eR S (Em (F bn) N)
  ·conv=>(whnf;try dsimp only)
   exact eR S ⟨(λh=>nomatch h),EK (F M) N⟩
 ·exact ⟨eR (qX ..) (eR (sw ..) (io C (io H (by decide)))),eR (show PV.aj ([]++f.map λp=>rv (vj p))=oZ f from(O9 f).symm) (eL (k_ s) (Z f _ (io C H) I))⟩
theorem aeu(E:iy i e b L d n)(F:k≤99000)(H:R .bp (wV 2 []) (cu (k+1) b L::d))(I:R .bp (wV 3 []) (cu (k+1) b L::d)):cY (ba (eZ i e) n) (eZ i e) [] (bf mE 0) [(213496679,.ax (.ah 0))] (cu k b L::d) R:=by
 refine λY=>E 3 k (by decide) (by exact L1 0x8ac106e1b86e1def8 N F) _ λv J C=>dk C λr P A B=>?_
 clear C
 subst A
 subst B
 cases D:ci ((r:al)=0)
 ·conv=>(whnf;try dsimp only)
  exact eR D H
 ·conv=>(whnf;try dsimp only)
  exact eR D I
theorem Yq:jT .hY [.ab 2]=O ([0,1].map .ab):=N
theorem Yr:jT .hY [.ab 3]=O ([0,1,2].map .ab):=N
theorem ab9(E:iy i e b L d n)(F:k≤98000):iQ i e b L d (n+1) 682 [.ah 0] k λv P=>∃w:Wd,v=w.pv∧w.Ok∧k≤P∧P≤k+20:=λK U=>by
 have C:∀(l:W al) (m:al),l.Sublist [0,1,2]->jT .hY [.ab m]=O (l.map .ab)->fy (ba (eZ i e) n) (eZ i e) [] [bf mE 1,bf mE 2,bf mE 3] (wV m []) (cu (k+1) b L::d) (λf Y R=>match f with|.aB v=>K v R|.bp=>K .bG R):=λl m H Z=>by
  have B:l.length≤3:=H.length_le
  refine mR (aer E B Z (by exact L1 0x20dc370dc3bdc2fc106e1b86e1daf8 N F) λs S=>?_)
  have A:s.length≤3:=(S.trans H).length_le
  refine Pu (mR (aes E A (by exact L2 0x41b86e1b877b87217e091c906e1b86e1daf8 N F B) λt a=>Pu (aet E A (by exact L3 0x8370dc370ef70e8390bf048e891c906e1b86e1daf8 N F B A) λf h I J=>?_)))
  have D:=Pc (S.trans H)
  exact U _ _ (dG ⟨s,t,f⟩ N ⟨D,adv a D,I,λp c=>D.ee (J p c)⟩ (by exact L4 4568533150252824 N) (by exact L4 0x2046e86c3a0e4380bf64be891c9238 N B A (M3 A A)))
 refine (?_:fy (ba (eZ i e) n) (eZ i e) [] (bf mE 0::[bf mE 1,bf mE 2,bf mE 3]) [(213496679,.ax (.ah 0))] (cu k b L::d) (kQ K))
 exact mR (aeu E (by exact L1 0x8370dc370ef7c106e1b86e1daf8 N F) (C [0,1] 2 (by decide) Yq) (C [0,1,2] 3 (by decide) Yr))
end
section
variable{e:W al}{d:bA}{b:al}{L k n:X}{c:ai}(a:0≤b∧b≤100000)
include a
theorem lQ:iy e d b L c (n+1):=λm k A B=>adq A B a
theorem td:oz e d b L c (n+2):=λk A=>ads (lQ a) A
theorem Hn:∀k,k≤99990->iQ e d b L c (n+3) 597 [.ah 0,.ab 0] k (oy bn k):=λk A=>ab5 (lQ a) (td a) A
theorem aev:∀k,k≤99990->iQ e d b L c (n+3) 597 [.ah 0,.ab 1] k (oy bn k):=λk A=>ab6 (lQ a) (td a) A
theorem aew:∀k,k≤99990->iQ e d b L c (n+3) 597 [.ah 0,.ab 2] k (oy M k):=λk A=>ab7 (lQ a) (td a) A
theorem rQ:g7 e d b L c (n+2) 0 2 2 100 99000:=agP (lQ a)
theorem z_:jJ e d b L c (n+3) 0 7 5 100 98000:=aeo (lQ a) (rQ a)
theorem Io:oJ e d b L c (n+3) 0 3 3 100 98000:=adu (lQ a) (rQ a)
theorem Rh:oJ e d b L c (n+4) 1 7 8 99 97000:=ab8 (lQ a) (rQ a) (Io a) (Hn a)
theorem Du(A:12≤B)(C:0<L->17≤B):g7 e d b L c (n+4) 1 B 10 98 96000:=agQ (B1:=2) A C A (lQ a) (td a) (Hn a) (rQ a) (z_ a) (rQ a)
theorem gS2:g7 e d b L c (n+5) 2 27 18 96 95000:=agR (B1:=17) (by decide) (λY=>by decide) (by decide) (lQ a) (td a) (Hn a) (rQ a) (z_ a) (Du a (by decide) λY=>by decide)
theorem Ri(A:18≤B)(C:1<L->23≤B):jJ e d b L c (n+5) 1 B 13 96 95000:=aep A C (lQ a) (td a) (aev a) (rQ a) (z_ a) (z_ a) (rQ a) (Du a (by decide) λY=>by decide) (Io a) (Rh a)
theorem gT2:jJ e d b L c (n+6) 2 58 25 94 94000:=aeq (by decide) (λY=>by decide) (lQ a) (td a) (aew a) (rQ a) (z_ a) (Ri a (by decide) λY=>by decide) (Du a (by decide) λY=>by decide) (gS2 a) (Io a) (Rh a)
end
section
variable{i:bA}{f:ai}{w:Wd}{d:an}{e:bk}{c:aP}{b:bk}
theorem wQ:bw []:=by unfold bw;decide
theorem Qe(A:w.Ok)(a:At)(B:bw a):bw (gF c w a):=by
 refine aP.jH A (λY Y=>wQ) c _ λv=>?_
 cases v
 ·exact wQ
 ·exact B
theorem aex(A:bw x)(v:an):bw ((E2.aU.aK d x).fn v):=eR (Ma ..) (Hk (λu=>wQ) A v)
theorem Pf(D:iw d e c b)(B:w.Ok):∀n,48≤n->∀x,bw x->c9 i n f (d8 w d e c) c.pv (.y x) (uv (gF c w x)):=λn C x E=>by
 have H:=D.gz
 refine aP.bZ (l:=0) (F:=0) B (λh=>nw h (by decide)) (λh=>nw h (by decide)) (λY Y=>wQ) c [M] n (.y x) D.Rf (λv A=>by rw [IR]at A;subst A;rfl) (λv=>?_) (L2 0x2602e166484208383f24c0ed2 N C H)
 cases v
 ·exact wQ
 ·exact E
theorem Pg(D:iw d e c b)(A:w.Ok):∀n,120≤n->∀x,bw x->c9 i n f (d8 w d e c) e.pv (E2.aU.aK d x) (.aJ (pF d e c w x)):=λn C x E=>by
 have H:=D.pz
 exact bk.bZ (l:=1) (F:=48) A (λY=>Pf D A) (λh=>nw h (by decide)) (Qe A) e [d] n _ D.Im (λv B=>by rw [IR]at B;subst B;cases v<;>rfl) (aex E) (L2 0x26023b48599210820ecfc930370e0f N C H)
theorem N9(D:iw d e c b)(A:w.Ok):∀n,400≤n->c9 i n f (d8 w d e c) b.pv .aU (.aJ (jR d e c b w)):=λn B=>bk.bZ (l:=2) (F:=120) A (λY n B=>Pf D A n (L1 0x260769130370e0f N B)) (λY=>Pg D A) (Qe A) b [] n .aU D.Rg (λv C=>nomatch C) (λv=>wQ) (L2 0x9808dc383c599210820ed3c930370dd2 N B D.nz)
theorem adw:iN []where
 mX:=sy
 ax:=λx v h=>by cases h
 c_:=by decide
theorem EL(h:iZ D m E)(A:w.Ok)(B:D≤400)(F:400≤n):∀K:PV->ai->Prop,K (.aJ (m w)) f->aR i n 677 [E.pv,.a8 [],w.pv] f K:=λK H=>by
 refine oK h λI C J=>?_
 clear h
 refine OF.bZ A E n [] adw (by refine (?_:0+E.h≤900);exact L2 0x1181cb898c906e1ba58 N B C) (OF.c8 (λp L=>Ps L) I) (L3 0x26744c68991b86e9106e1ba58 N B F C) K ?_
 exact eR (J w A) H
end
theorem yX(P:av->ai->Prop)(F:av)(L:eS t v H=O F)(S:∀R:Fl->av->ai->Prop,(∀D E,P D E->R .bp D E)->fy C J A B F I R)
  (U:∀D E,P D E->jY (i7 C J A t B) r D E Q):jY (i7 C J A t B) (v::r) H I Q:=by
 refine (?_:i7 C J A t B v H I _ _)
 unfold i7
 exact eR L (S (λf H I=>match f with|.bp=>jY (i7 C J A t B) r H I Q|.aB v=>Q (.aB v) H I) U)
theorem WE(I:jT .hY [.ab i]=O A)(J:lj t .hY=M)
  (h:jY (i7 C E B t D) A F H Q):cY C E B (.d9 t .hY [.ab i] D) F H Q:=by
 refine (?_:oT (lj t .hY) (oS (jT .hY [.ab i]) λA=>jY (i7 C E B t D) A F H Q))
 refine eR J (?_:oS (jT .hY [.ab i]) λA=>jY (i7 C E B t D) A F H Q)
 exact eR I h
theorem aca(P:av->ai->Prop)(I:∀R:Fl->av->ai->Prop,(∀A B,P A B->R .bp A B)->cY C H D s E F R)(J:∀A B,P A B->fy C H D r A B Q):fy C H D (s::r) E F Q:=I (λf E F=>match f with|.bp=>fy C H D r E F Q|.aB v=>Q (.aB v) E F) J
section
variable{s:W al}{b:al}{k n c:X}{i:an}{r:bk}{o:aP}{e:bk}{y C B A:PV}{F:av}
@[reducible]noncomputable def eM(s:W al)(i:an)(r:bk)(o:aP):bA:=aE (.aj (s.map .ab)) i r o
@[reducible]noncomputable def eG(k:X)(b:al)(c:X):ai:=aM (cu k b 2) c
@[reducible]noncomputable def fF:W X:=[31370885866]
@[reducible]noncomputable def lV(y:PV)(i:an)(r:bk)(o:aP)(e:bk)(C B A:PV)(F:av):av:=[(4050646790772,.ax y),(213496679,.ax (.ah 0)),(29735317873,.ax (.ae (nm i))),(4219236577393,.ax r.pv),(4219236577384,.ax o.pv),
 (29475337069,.ax (.ab 0)),(215578735,.ax e.pv),(1834096,.ax C),(27346712675,.ax B),(31370885866,.ax A),(3978984798448,.ax (.ah 2))]++F
@[reducible]noncomputable def aV(t a d:OF)(F:av):av:=[(213612661,.ax t.pv),(27327674978,.ax a.pv),(3497938121573,.ax d.pv)]++F
theorem ae2(D:iw i r o e)(L:420≤n)(P:c≤1000)(S:∀(t:OF) (H:X),iZ 300 (jR i r o e) t->H≤c+58->R .bp (lV y i r o e C B A [(213612661,.ax t.pv)]) (eG k b H)):
  cY (ba (eM s i r o) n) (eM s i r o) fF (bf dU 11) (lV y i r o e C B A []) (eG k b c) R:=by
 refine λY=>OM D (by exact L1 0x981b86e9130370e12 N L) P _ λv H J=>dn J λE I U a Z=>?_
 clear J
 subst I
 exact S E H U Z
theorem ae3(D:iw i r o e)(J:420≤n)(L:c≤900)(P:∀(a d:OF) (S:X),iZ 301 (qi i r o) a->iZ 301 (λw=>!jR i r o e w) d->R .bp (lV y i r o e C B A (aV t a d [])) (eG k b S)):
  cY (ba (eM s i r o) n) (eM s i r o) fF (bf dU 12) (lV y i r o e C B A [(213612661,.ax t.pv)]) (eG k b c) R:=by
 refine λY=>ab3 D (by exact L1 0x981b86f9130370e12 N J) (by exact L1 0x20dc370dcfc1198 N L) _ λv j E=>dn E λa H U l Z=>?_
 clear E
 subst H
 refine λY=>Yn D (by exact L1 0x981b86f9130370e12 N J) (by exact L2 0x106e1b86e7e4811da78c9198 N L Z) _ λv f E=>dn E λd I h m h6=>?_
 clear E
 subst I
 exact P a d f U h
@[reducible]noncomputable def Rj(j x:PV):av:=[(1864045,.ax j),(27342469240,.ax x)]
@[reducible]noncomputable def Rl(j x m:PV):av:=[(1864045,.ax j),(27342469240,.ax x),(29475043438,.ax m)]
@[reducible]noncomputable def iV(j x m d:PV):av:=[(1864045,.ax j),(27342469240,.ax x),(29475043438,.ax m),(1686373,.ax d)]
noncomputable def lB:W MS:=Cq (bf dU 13)
variable{t a d:OF}{j x m E:PV}{w:Wd}
@[reducible]noncomputable def wR(s:W al)(i:an)(r:bk)(o:aP)(b:al)(c n:X):Prop:=∀(k:X),k≤98000->∀K:PV->ai->Prop,(∀(w:Wd) (D:X),w.Ok->D≤k+20->K w.pv (eG D b c))->aR (eM s i r o) n 682 [.ah 0] (eG k b c) K
theorem aey(I:0≤b∧b≤100000):wR s i r o b c (n+2):=λk J K P=>
 ab9 (i:=s) (e:=[qh,PY i r o]) (b:=b) (L:=2) (k:=k) (n:=n+1) (d:=[[],[(31641679972,(c:al))]]) (lQ I) J K λv R H=>by
  refine dn H λw D S Y U=>?_
  clear H
  subst D
  exact P w R S U
theorem agS(H:wR s i r o b c n)(I:k≤90000)(J:∀(w:Wd) (D:X),w.Ok->D≤k+20->R .bp (lV y i r o e C B A (aV t a d (Rj j w.pv))) (eG D b c)):
  cY (ba (eM s i r o) n) (eM s i r o) fF (bf lB 0) (lV y i r o e C B A (aV t a d [(1864045,.ax j)])) (eG k b c) R:=by
 exact λY=>H k (by exact L1 0x8370dc370ed7c106e1b86e1baf8 N I) _ λw D L P=>J w D L P
theorem ae4(H:wR s i r o b c n)(I:k≤90000)(J:∀(w:Wd) (D:X),w.Ok->D≤k+20->R .bp (lV y i r o e C B A (aV t a d (iV j w.pv m E))) (eG D b c)):
  cY (ba (eM s i r o) n) (eM s i r o) fF (bf lB 0) (lV y i r o e C B A (aV t a d (iV j x m E))) (eG k b c) R:=by
 exact λY=>H k (by exact L1 0x8370dc370ed7c106e1b86e1baf8 N I) _ λw D L P=>J w D L P
theorem agT(D:R .bp (lV y i r o e C B A (aV t a d (Rl j w.pv (d8 w i r o)))) (eG k b c)):
  cY (ba (eM s i r o) n) (eM s i r o) fF (bf lB 1) (lV y i r o e C B A (aV t a d (Rj j w.pv))) (eG k b c) R:=by
 exact D
theorem ae5(D:R .bp (lV y i r o e C B A (aV t a d (iV j w.pv (d8 w i r o) E))) (eG k b c)):
  cY (ba (eM s i r o) n) (eM s i r o) fF (bf lB 1) (lV y i r o e C B A (aV t a d (iV j w.pv m E))) (eG k b c) R:=by
 exact D
theorem agU(D:iw i r o e)(H:w.Ok)(I:420≤n)(J:R .bp (lV y i r o e C B A (aV t a d (iV j w.pv (d8 w i r o) (.aJ (jR i r o e w))))) (eG k b c)):
  cY (ba (eM s i r o) n) (eM s i r o) fF (bf lB 2) (lV y i r o e C B A (aV t a d (Rl j w.pv (d8 w i r o)))) (eG k b c) R:=by
 exact λY=>N9 D H n (by exact L1 0x981b86e9130370e12 N I) _ J
theorem ae6(D:iw i r o e)(H:w.Ok)(I:420≤n)(J:R .bp (lV y i r o e C B A (aV t a d (iV j w.pv (d8 w i r o) (.aJ (jR i r o e w))))) (eG k b c)):
  cY (ba (eM s i r o) n) (eM s i r o) fF (bf lB 2) (lV y i r o e C B A (aV t a d (iV j w.pv (d8 w i r o) E))) (eG k b c) R:=by
 exact λY=>N9 D H n (by exact L1 0x981b86e9130370e12 N I) _ J
theorem QI(I:w.Ok)(J:420≤n)(L:iZ 300 (jR i r o e) t)(P:iZ 301 (λw=>!jR i r o e w) d)(H:R .bp (lV y i r o e C B A (aV t a d (iV j w.pv (d8 w i r o) (.aJ (jR i r o e w))))) (eG k b c)):
  cY (ba (eM s i r o) n) (eM s i r o) fF (bf lB 3) (lV y i r o e C B A (aV t a d (iV j w.pv (d8 w i r o) (.aJ (jR i r o e w))))) (eG k b c) R:=by
 refine λY=>EL L I (by decide) (by exact L1 0x981b86e9130370e12 N J) _ ?_
 have D:=EL (f:=eG k b c) (i:=eM s i r o) P I (by decide) (show 400≤n by exact L1 0x981b86e9130370e12 N J)
 revert H D
 generalize jR i r o e w=v
 intro H D
 cases v
 ·exact λY=>D _ H
 ·exact λY=>D _ H
theorem Ys{D:Type}(p:D->an):∀l:W D,mf (.aJ M) (l.map λa=>.aJ (p a))=O (l.any p):=λl=>cB l N λa l H=>by
  refine (?_:o2 (md (.aJ (p a)) (.aJ M)) (mf (.aJ M) (l.map λa=>.aJ (p a))) (λp q=>p||q)=_)
  refine eR (H) (?_:O ((p a==M)||l.any p)=_)
  refine eR ue ?_
  cases p a<;>rfl
theorem acb(l:At):dE (l.map ak)=l.map λa=>rv (ak a):=by
 rw [pB,mL];rfl
theorem QJ(D:iw i r o e)(H:w.Ok)(J:420≤n)(U:iZ 301 (qi i r o) a)(I:R .bp (lV y i r o e C B A (aV t a d (iV j w.pv (d8 w i r o) E))) (eG k b c)):
  cY (ba (eM s i r o) n) (eM s i r o) fF (bf lB 4) (lV y i r o e C B A (aV t a d (iV j w.pv (d8 w i r o) E))) (eG k b c) R:=by
 refine λY=>EL U H (by decide) (by exact L1 0x981b86e9130370e12 N J) _ ?_
 conv=>(whnf;try dsimp only)
 refine eR (acb ..) (iW (f:=λa=>rv (ak a)) (λx=>[.aJ (pF i r o w [x])]) (λx Z aI S L=>?_) ?_)
 ·have P:=Pg (i:=eM s i r o) (f:=eG k b c) D H n (by exact L1 0x981b8707930370e12 N J) [x] (bw.wN (H.a.ee Z))
  cases i
  ·exact λY=>P _ ⟨(λh=>nomatch h),L⟩
  ·exact λY=>P _ ⟨(λh=>nomatch h),L⟩
 ·refine eR (kI ..) ⟨by rw [sw];exact io H.a.bO (by decide),?_⟩
  have e2:p_ .In (.aJ M) (.aj (w.a.map λx=>.aJ (pF i r o w [x])))=O (qi i r o w):=eL (N:(w.a.any λx=>pF i r o w [x])=qi i r o w) (Ys _ _)
  conv=>(whnf;try dsimp only)
  refine eR (e2 ..) ?_
  revert I
  generalize qi i r o w=v
  intro I
  cases v
  ·exact I
  ·exact I
theorem agV(D:iw i r o e)(P:wR s i r o b c n)(I:420≤n)(S:k≤90000)(U:iZ 300 (jR i r o e) t)(Y:iZ 301 (qi i r o) a)(Z:iZ 301 (λw=>!jR i r o e w) d)
 (H:∀(x m E:PV) (J:X),J≤k+20->R .bp (lV y i r o e C B A (aV t a d (iV j x m E))) (eG J b c)):
    fy (ba (eM s i r o) n) (eM s i r o) fF [bf lB 0,bf lB 1,bf lB 2,bf lB 3,bf lB 4] (lV y i r o e C B A (aV t a d [(1864045,.ax j)])) (eG k b c) R:=by
  exact mR (agS P S λw J L f=>dR _ _ (λR H=>agT H) (dR _ _ (λR H=>agU D L I H) (dR _ _ (λR H=>QI L I U Z H) (dR _ _ (λR H=>QJ D L I Y H) (H _ _ _ _ f)))))
theorem QK(D:iw i r o e)(P:wR s i r o b c n)(I:420≤n)(S:k≤90000)(U:iZ 300 (jR i r o e) t)(Y:iZ 301 (qi i r o) a)(Z:iZ 301 (λw=>!jR i r o e w) d)
 (H:∀(x m E:PV) (J:X),J≤k+20->R .bp (lV y i r o e C B A (aV t a d (iV j x m E))) (eG J b c)):
    fy (ba (eM s i r o) n) (eM s i r o) fF [bf lB 0,bf lB 1,bf lB 2,bf lB 3,bf lB 4] (lV y i r o e C B A (aV t a d (iV j x m E))) (eG k b c) R:=by
  exact mR (ae4 P S λw J L f=>dR _ _ (λR H=>ae5 H) (dR _ _ (λR H=>ae6 D L I H) (dR _ _ (λR H=>QI L I U Z H) (dR _ _ (λR H=>QJ D L I Y H) (H _ _ _ _ f)))))
theorem agW(D:iw i r o e)(hb:0≤b∧b≤100000)(P:430≤n)(f:k≤80000)(hQ:∀J L,Q (.aB (.aJ M)) J L):
  fy (ba (eM s i r o) n) (eM s i r o) fF [bf dU 11,bf dU 12,.d9 (.ak 1864045) .hY [.ab 3] [bf lB 0,bf lB 1,bf lB 2,bf lB 3,bf lB 4],bf dU 14] (lV y i r o e C B A []) (eG k b 0) Q:=by
 have h:∀c,wR s i r o b c n:=λc=>by
  obtain ⟨q,rfl⟩:∃q,n=q+2:=⟨n-2,(lm (L1 0x988130370e32 N P)).symm⟩
  exact aey hb
 refine mR (ae2 D (by exact L1 0x981b8709130370e32 N P) (by exact L0 4516273568238 N) λt c1 l Ag=>mR (ae3 D (by exact L1 0x981b8709130370e32 N P) (by exact L1 0x8cc1023b4dd8 N Ag) λa d S ha hd=>mR (WE (A:=[.ab 0,.ab 1,.ab 2]) N N (yX (λJ L=>∃(x m E:PV) (H:X),H≤k+20∧J=lV y i r o e C B A (aV t a d (iV (.ab 0) x m E))∧L=eG H b S) (lV y i r o e C B A (aV t a d [(1864045,.ax (.ab 0))])) N (λR U=>agV D (h S) (by exact L1 0x981b8709130370e32 N P) (by exact L1 0x8370dc370dd7c106e1b86e1bad8 N f) l ha hd λx m E H I=>U _ _ ⟨x,m,E,H,I,N,N⟩) ?_))))
 rintro _ _ ⟨x,m,E,k1,Y,rfl,rfl⟩
 refine yX (λJ L=>∃(x m E:PV) (H:X),H≤k+40∧J=lV y i r o e C B A (aV t a d (iV (.ab 1) x m E))∧L=eG H b S) (lV y i r o e C B A (aV t a d (iV (.ab 1) x m E))) N (λR U=>QK D (h S) (by exact L1 0x981b8709130370e32 N P) (by exact L2 0x41b86e1b86ebe4811ba18c906e1b86e1bad8 N f Y) l ha hd λx m E H I=>U _ _ ⟨x,m,E,H,(by exact L3 0x408dd2ce8811ba18d102374338 N Y I),N,N⟩) ?_
 rintro _ _ ⟨x,m,E,k2,Z,rfl,rfl⟩
 refine yX (λJ L=>∃(x m E:PV) (H:X),H≤k+60∧J=lV y i r o e C B A (aV t a d (iV (.ab 2) x m E))∧L=eG H b S) (lV y i r o e C B A (aV t a d (iV (.ab 2) x m E))) N (λR U=>QK D (h S) (by exact L1 0x981b8709130370e32 N P) (by exact L2 0x41b86e1b86ebe4811ba58c906e1b86e1bad8 N f Z) l ha hd λx m E H I=>U _ _ ⟨x,m,E,H,(by exact L3 0x408dd4ce8811ba18d102374b38 N Z I),N,N⟩) ?_
 rintro _ _ ⟨x,m,E,k3,JV,rfl,rfl⟩
 exact wO (hQ _ _)
end
section
variable{j:W al}{b:al}{k n L:X}{c:an}{d:bk}{e:aP}{a:bk}{f x y:PV}
@[reducible]noncomputable def fY(j:W al):bA:=eZ j []
@[reducible]noncomputable def fH(k:X)(b:al)(L:X):ai:=cu k b L::[]
@[reducible]noncomputable def v0(f:PV)(A:av):av:=[(4050646790772,.ax f),(213496679,.ax (.ah 0))]++A
@[reducible]noncomputable def v1(f:PV)(c:an)(A:av):av:=v0 f ([(29735317873,.ax (.ae (nm c)))]++A)
@[reducible]noncomputable def v2(f:PV)(c:an)(x y:PV)(A:av):av:=v1 f c ([(4219236577393,.ax x),(4219236577384,.ax y)]++A)
@[reducible]noncomputable def QL:PV:=.af [.ab 0,.aJ bn,.af [T "f"],T "set",eV (.aA 66)]
theorem agX(D:oz j [] b L [] n)(E:k≤90000)(F:∀c,R .bp (v1 f c []) (fH (k+1) b L)):cY (ba (fY j) n) (fY j) fF (bf dU 1) (v0 f []) (fH k b L) R:=by
 refine λY=>D k (L1 0x8ac106e1b86e1baf8 N E) _ λv H C=>aQ C λu A B=>?_
 clear C
 subst A
 subst B
 exact F u
theorem agY(A:R .bp (v2 f c .bG .bG []) (fH k b L)):cY (ba (fY j) n) (fY j) fF (bf dU 2) (v1 f c []) (fH k b L) R:=A
noncomputable def rR:W MS:=Cq (bf dU 3)
theorem Qg{i:X}{R:Fl->av->ai->Prop}(A:R .bp (v2 f c x y [(29475337069,.ax (.ab (i:al)))]) (fH k b i)):cY (ba (fY j) n) (fY j) fF (bf rR 0) (v2 f c x y [(29475337069,.ax (.ab (i:al)))]) (fH k b L) R:=A
theorem aez(D:jJ j [] b 1 [] n 1 18 13 96 95000)(E:k≤90000)(F:∀(d:bk) (A:X),d.ok 1 [c]->d.sz≤18->A≤k+13->R .bp (v2 f c d.pv y [(29475337069,.ax (.ab ((1:X):al)))]) (fH A b 1)):
  cY (ba (fY j) n) (fY j) fF (bf rR 1) (v2 f c x y [(29475337069,.ax (.ab ((1:X):al)))]) (fH k b 1) R:=by
 refine λY=>D [c] k (by simp) (L1 0x8370dc370e77c106e1b86e1baf8 N E) _ λv A C=>rD C λd B H I P J=>?_
 clear C
 subst B
 exact F d A H I J
theorem aeA(D:g7 j [] b 0 [] n 1 12 10 98 96000)(E:k≤90000)(F:∀(e:aP) (A:X),e.ok 0 [M]->e.sz≤12->A≤k+10->R .bp (v2 f c x e.pv [(29475337069,.ax (.ab ((0:X):al)))]) (fH A b 0)):
  cY (ba (fY j) n) (fY j) fF (bf rR 1) (v2 f c x y [(29475337069,.ax (.ab ((0:X):al)))]) (fH k b 0) R:=by
 refine λY=>D [M] k (by decide) (L1 0x8370dc370e97c106e1b86e1baf8 N E) _ λv A C=>rD C λe B H I P J=>?_
 clear C
 subst B
 exact F e A H I J
@[reducible]noncomputable def v3(f:PV)(c:an)(d:bk)(e:aP)(A:av):av:=v2 f c d.pv e.pv ([(29475337069,.ax (.ab 0))]++A)
theorem agZ(A:R .bp (v3 f c d e []) (fH k b 2)):cY (ba (fY j) n) (fY j) fF (bf dU 4) (v3 f c d e []) (fH k b L) R:=A
theorem ag0(D:jJ j [] b 2 [] n 2 58 25 94 94000)(E:k≤90000)(F:∀(a:bk) (B:X),a.ok 2 []->a.sz≤58->B≤k+25->R .bp (v3 f c d e [(215578735,.ax a.pv)]) (fH B b 2)):
  cY (ba (fY j) n) (fY j) fF (bf dU 5) (v3 f c d e []) (fH k b 2) R:=by
 refine λY=>D [] k (by decide) (L1 0x8370dc370e57c106e1b86e1baf8 N E) _ λv B C=>rD C λa A H I P J=>?_
 clear C
 subst A
 exact F a B H I J
@[reducible]noncomputable def v6(f:PV)(c:an)(d:bk)(e:aP)(a:bk)(A:av):av:=v3 f c d e ([(215578735,.ax a.pv),(1834096,.ax QL),(27346712675,.ax (eV (.aA 66)))]++A)
theorem ag1(A:R .bp (v6 f c d e a []) (fH k b L)):cY (ba (fY j) n) (fY j) fF (bf dU 6) (v3 f c d e [(215578735,.ax a.pv)]) (fH k b L) R:=A
theorem ag2(A:R .bp (v6 f c d e a [(31370885866,.aX (.aj [f9,gp]))]) (fH k b L)):cY (ba (fY j) n) (fY j) fF (bf dU 7) (v6 f c d e a []) (fH k b L) R:=A
theorem ag3(A:R .bp (v6 f c d e a [(31370885866,.aX (.aj [f9,gp,kh c d]))]) (fH k b L)):cY (ba (fY j) n) (fY j) fF (bf dU 8) (v6 f c d e a [(31370885866,.aX (.aj [f9,gp]))]) (fH k b L) R:=A
theorem ag4(A:R .bp (v6 f c d e a [(31370885866,.aX (.aj [f9,gp,kh c d,ou e]))]) (fH k b L)):cY (ba (fY j) n) (fY j) fF (bf dU 9) (v6 f c d e a [(31370885866,.aX (.aj [f9,gp,kh c d]))]) (fH k b L) R:=A
theorem ag5(H:0≤b∧b≤100000)(Y:10≤n){Q:Fl->av->ai->Prop}(Z:∀(c:an) (d:bk) (e:aP) (a:bk) (k:X),iw c d e a->k≤100->Q .bp (v6 f c d e a [(31370885866,.aX (.aj [f9,gp,kh c d,ou e]))]) (fH k b 2)):
  fy (ba (fY j) n) (fY j) fF [bf dU 1,bf dU 2,.d9 (.ak 29475337069) .bK [.af [.ab 1,.ab 0]] [bf rR 0,bf rR 1],bf dU 4,bf dU 5,bf dU 6,bf dU 7,bf dU 8,bf dU 9] (v0 f []) (fH 0 b 0) Q:=by
 obtain ⟨q,rfl⟩:∃q,n=q+6:=⟨n-6,(lm (L1 163884830159 N Y)).symm⟩
 refine mR (agX (td H) (L0 4624664133483246 N) λc=>dR _ _ (λR A=>agY A) ?_)
 refine aca (λE F=>∃(d:bk) (e:aP) (k:X),d.ok 1 [c]∧d.sz≤18∧e.ok 0 [M]∧e.sz≤12∧k≤30∧E=v3 f c d e []∧F=fH k b 0) (λR A=>?_) ?_
 ·refine (?_:jY (i7 (ba (fY j) (q+6)) (fY j) fF (.ak 29475337069) [bf rR 0,bf rR 1]) [.ab 1,.ab 0] (v2 f c .bG .bG []) (fH 1 b 0) R)
  refine yX (λE F=>∃(d:bk) (k:X),d.ok 1 [c]∧d.sz≤18∧k≤20∧E=v2 f c d.pv .bG [(29475337069,.ax (.ab ((1:X):al)))]∧F=fH k b 1) (v2 f c .bG .bG [(29475337069,.ax (.ab ((1:X):al)))]) N (λR A=>?_) ?_
  ·exact dR _ _ (λR A=>Qg A) (mR (aez (Ri H (by decide) λh=>nw h (by decide)) (L0 4624664133483247 N) λd J B C D=>A _ _ ⟨d,J,B,C,(L1 0x20dd0c10238bdf8 N D),N,N⟩))
  ·rintro _ _ ⟨d,i,B,C,D,rfl,rfl⟩
   refine yX (λE F=>∃(e:aP) (k:X),e.ok 0 [M]∧e.sz≤12∧k≤30∧E=v3 f c d e []∧F=fH k b 0) (v2 f c d.pv .bG [(29475337069,.ax (.ab ((0:X):al)))]) N (λR A=>?_) ?_
   ·exact dR _ _ (λR A=>Qg A) (mR (aeA (Du H (by decide) λh=>nw h (by decide)) (L1 0x20dc370dc375f041ba18 N D) λe J B C l=>A _ _ ⟨e,J,B,C,(L2 0x41ba392046e7e3241ba18 N D l),N,N⟩))
   ·rintro _ _ ⟨e,P,S,I,U,rfl,rfl⟩
    exact wO (A _ _ ⟨d,e,P,B,C,S,I,(L1 0x83747041ba38 N U),N,N⟩)
 ·rintro _ _ ⟨d,e,i,B,C,D,S,I,rfl,rfl⟩
  exact dR _ _ (λR A=>agZ A) (mR (ag0 (gT2 H) (L1 0x20dc370dc375f041ba38 N I) λa P U m o=>dR _ _ (λR A=>ag1 A) (dR _ _ (λR A=>ag2 A) (dR _ _ (λR A=>ag3 A) (dR _ _ (λR A=>ag4 A) (Z c d e a P ⟨D,S,B,C,U,m⟩ (L2 0x11b920473863241ba38 N I o)))))))
end
@[reducible]noncomputable def dO(A:PV):W (X×PV):=[(31368901476,A)]
@[reducible]noncomputable def xE:X:=513706785863654
@[reducible]noncomputable def xS:X:=4013076036340
@[reducible]noncomputable def xO:X:=3497948461296
@[reducible]noncomputable def xR:X:=447738476591600
@[reducible]noncomputable def xW:X:=1077250787088636050544
@[reducible]noncomputable def Rn:PV:=.a8 []
@[reducible]noncomputable def dE1:PV:=.a8 [(.aA 66,f9)]
@[reducible]noncomputable def xG:PV:=.a8 [(.aA 66,f9),(.aA 67,gp)]
@[reducible]noncomputable def Ro:PV:=.aj []
@[reducible]noncomputable def lS1:PV:=.aj [T "A"]
@[reducible]noncomputable def mn:PV:=.aj [T "A",T "B"]
@[reducible]noncomputable def xg:W (X×PV):=[(1,.bG),(2,Rn),(3,dE1),(4,xG)]
@[reducible]noncomputable def C0:W (X×PV):=[(1,.bG),(2,Ro),(3,lS1),(4,mn)]
@[reducible]noncomputable def sgB(A:PV):bA:=[dO A,[(xE,.ah 2)],xg]
@[reducible]noncomputable def sgC(A:PV):bA:=[dO A,[(xE,.ah 2),(xS,.ah 3)],xg,C0]
@[reducible]noncomputable def xH(A:PV):bA:=[dO A,[(xE,.ah 2),(xS,.ah 3),(xO,.aj [])],xg,C0]
@[reducible]noncomputable def Rp(A:PV):bA:=[dO A,[(xE,.ah 2),(xS,mn),(xO,.aj [])],xg]
@[reducible]noncomputable def vq(A:PV):bA:=[dO A,[(xE,xG),(xS,mn),(xO,.aj [])]]
@[reducible]noncomputable def Aa(A:PV):bA:=[dO A,[(xE,xG),(xS,mn),(xO,.aj []),(xR,mn)]]
@[reducible]noncomputable def mq(A:PV):bA:=[dO A,[(xE,xG),(xS,mn),(xO,.aj []),(xR,mn),(xW,.aj [oi])]]
section
variable{d:PV}{c:W (X×al)}{i f:PV}{a b:W PV}
@[reducible]noncomputable def iP(l:W PV):PV:=.af (T "pred" ::l)
@[reducible]noncomputable def iG(l:W PV):PV:=.af (T "fun" ::l)
@[reducible]noncomputable def C1(a b:W PV):PV:=.aj [f9,gp,iP a,iG b]
@[reducible]noncomputable def jW(a b:W PV):av:=[(217805684,.ax (.ah 1)),(31370885866,.ax (C1 a b))]
@[reducible]noncomputable def nv(a b:W PV):av:=jW a b++[(232372970,.ax (iG b))]
@[reducible]noncomputable def o5(a b:W PV):av:=nv a b++[(215724399,.ax (T "B"))]
theorem tsA(K:PV->ai->Prop)(h:K .bG [c,[],[(0,1)],[(0,1)]]):aR (xH d) 12 426 [.ah 1,f9] [c,[],[(0,0)],[(0,0)]] K:=by
 conv=>whnf
 refine (dG _ N N (by decide) ?_)
 conv=>whnf
 exact (dG _ N N (by decide) h)
theorem tsB(K:PV->ai->Prop)(h:K .bG [c,[],[(0,2)],[(0,2)]]):aR (xH d) 12 426 [.ah 1,gp] [c,[],[(0,1)],[(0,1)]] K:=by
 conv=>whnf
 refine (dG _ N N (by decide) ?_)
 conv=>whnf
 exact (dG _ N N (by decide) h)
@[reducible]noncomputable def mS:W MS:=S6
theorem ag6:cY (ba (xH d) 12) (xH d) [] (bf mS 3) (jW a b) [c,[],[(0,0)],[(0,0)]] λB v o=>B=.bp∧v=nv a b∧o=[c,[],[(0,2)],[(0,2)]]:=by
 refine uR (v:=C1 a b) (A:=[f9,gp,iP a,iG b]) N N N ?_
 refine jq (jW a b++[(232372970,.ax f9)]) (jW a b++[(232372970,.ax f9)]) [c,[],[(0,1)],[(0,1)]] N (λR A=>?_) ?_
 ·exact λY=>tsA _ A
 refine jq (jW a b++[(232372970,.ax gp)]) (jW a b++[(232372970,.ax gp)]) [c,[],[(0,2)],[(0,2)]] N (λR A=>?_) ?_
 ·exact λY=>tsB _ A
 refine jq (jW a b++[(232372970,.ax (iP a))]) (jW a b++[(232372970,.ax (iP a))]) [c,[],[(0,2)],[(0,2)]] N (λR A=>?_) ?_
 ·exact A
 refine jq (nv a b) (nv a b) [c,[],[(0,2)],[(0,2)]] N (λR A=>?_) ?_
 ·exact A
 exact (bt N N N)
theorem ag7:cY (ba (vq d) 12) (vq d) [] (bf mS 4) (nv a b) [c,[]] λA v o=>A=.bp∧v=o5 a b∧o=[c,[]]:=by
 repeat intro _
 exact (bt N N N)
theorem ae7(K:PV->ai->Prop)(h:K mn [c,[]]):aR (vq d) 12 445 [.ah 1] [c,[]] K:=by
 repeat(first|intro _|(conv=>whnf)<;>first|refine ⟨Gc _,?_⟩|refine ⟨N,?_⟩|refine ⟨λY=>N,?_⟩|refine ⟨by decide,?_⟩)
 exact h
theorem ae8(K:PV->ai->Prop)(h:K (.aj [oi]) [c,[]]):aR (Aa d) 12 452 [.ah 1] [c,[]] K:=by
 repeat(first|intro _|(conv=>whnf)<;>first|refine ⟨Nat.zero_le _,?_⟩|refine ⟨rfl,?_⟩|refine ⟨λY=>rfl,?_⟩|refine ⟨by decide,?_⟩)
 exact h
theorem ag8:cY (ba (mq d) 12) (mq d) [] (bf mS 8) (o5 a b) [c,[]] λB v o=>B=.bp∧v=o5 a b∧o=[c,[]]:=by
 refine uR (v:=C1 a b) (A:=[f9,gp,iP a,iG b]) N N N ?_
 refine jq (jW a b++[(232372970,.ax f9),(215724399,.ax (T "B"))]) (jW a b++[(232372970,.ax f9),(215724399,.ax (T "B"))]) [c,[]] N (λR A=>?_) ?_
 ·exact A
 refine jq (jW a b++[(232372970,.ax gp),(215724399,.ax (T "B"))]) (jW a b++[(232372970,.ax gp),(215724399,.ax (T "B"))]) [c,[]] N (λR A=>?_) ?_
 ·exact A
 refine jq (jW a b++[(232372970,.ax (iP a)),(215724399,.ax (T "B"))]) (jW a b++[(232372970,.ax (iP a)),(215724399,.ax (T "B"))]) [c,[]] N (λR A=>?_) ?_
 ·exact A
 refine jq (o5 a b) (o5 a b) [c,[]] N (λR A=>?_) ?_
 ·exact A
 exact (bt N N N)
noncomputable def Dv:MS->MX
 |.eH _ _ e=>e
 |_=>.eE
theorem ag9:bB (ba (vq d) 12) (vq d) (Dv (bf mS 5)) (o5 a b) [c,[]] λv A o=>v=mn∧A=o5 a b∧o=[c,[]]:=by
 refine λY=>(?_:aR (vq d) 12 445 [.ah 1] [c,[]] _)
 exact ae7 _ (bt N N N)
theorem aha:bB (ba (Aa d) 12) (Aa d) (Dv (bf mS 6)) (o5 a b) [c,[]] λv A o=>v=.aj [oi]∧A=o5 a b∧o=[c,[]]:=by
 refine λY=>(?_:aR (Aa d) 12 452 [.ah 1] [c,[]] _)
 exact ae8 _ (bt N N N)
theorem ahb:bB (ba (mq d) 12) (mq d) (.au (.aa 217805684) 137888100747345408047213 []) (o5 a b) [c,[]] λv A o=>A=o5 a b∧o=[c,[]]:=by
 repeat(first|intro _|(conv=>whnf)<;>first|refine ⟨Gc _,?_⟩|refine ⟨N,?_⟩|refine ⟨λY=>rfl,?_⟩|refine ⟨by decide,?_⟩)
end
noncomputable def HQ(l:W sB):X->sB:=HT (.Pass ⟨0,0,0,0⟩) l
theorem iu{x y:X}{p q:PV}{r:W (X×PV)}(h:aG ((x,p)::r) y=O q):q=p∧y=x∨aG r y=O q:=by
 rw [fI]at h
 by_cases e:x=y
 ·rw [jp e]at h;exact .inl ⟨(ii h).symm,e.symm⟩
 ·rw [f0 e]at h;exact .inr h
theorem EM(h:B.all (λq=>pi q.1 1||lT q.2)=M)(x:X)(A:PV)(e:aG B (x+2)=O A):lT A=M:=
 (uB.mp (Do.mp h _ (sU e))).elim (λh=>nw (n0 (AC h)) (YI _)) id
@[reducible]noncomputable def mY:MX:=.aa 217805684
@[reducible]noncomputable def mr:sB:=au 19 0
@[reducible]noncomputable def sN(i:X):sB:=HQ (lR mr) i
theorem adx:lR mr=[sN 0,sN 1,sN 2,sN 3,sN 4,sN 5,sN 6,sN 7,sN 8]:=by kernel_rfl
theorem ahc:fQ (.eH mY xE (.cD [])) (cR mr) (sN 0)=M:=by kernel_rfl
theorem ahd:fQ (.eH mY xS (.cK [])) (cR mr) (sN 1)=M:=by kernel_rfl
theorem ahe:fQ (.eH mY xO (.cK [])) (cR mr) (sN 2)=M:=by kernel_rfl
theorem ahf:fQ (bf mS 3) (cR mr) (sN 3)=M:=by kernel_rfl
theorem ahg:fQ (bf mS 4) (cR mr) (sN 4)=M:=by kernel_rfl
theorem ahh:fQ (.eH mY xR (Dv (bf mS 5))) (cR mr) (sN 5)=M:=by kernel_rfl
theorem ahi:fQ (.eH mY xW (Dv (bf mS 6))) (cR mr) (sN 6)=M:=by kernel_rfl
theorem ahj:(jS (sN 7) 3&&(cX (dw (sN 7) 0) 14&&cM (.au mY 137888100747345408047213 []) (cR mr) (dw (sN 7) 0)))=M:=by kernel_rfl
theorem ahk:fQ (bf mS 8) (cR mr) (sN 8)=M:=by kernel_rfl
theorem Qh(P:xL):BM (K P) 572=M:=by kernel_rfl
theorem ae9(P:xL):Wp (K P) (.ref 572) "__init__" =O (O (.ref 419)):=by kernel_rfl
theorem afa(P:xL):typeIn (K P) (.ref 419)=O (.type "function"):=by kernel_rfl
theorem ahl(P:xL):z8 (K P) 419 (z0 "__init__" "Signatures.__init__" mr lu (.ref 418)) mr ["self","items"]where
 ah:=by kernel_rfl
 cd:=by kernel_rfl
 tu:=N
 Ds:=N
 p4:=N
 gl:=N
 bl:=N
 sc:=by kernel_rfl
 aX:=by kernel_rfl
 nd:=by decide+kernel
 ib:=λY h=>by apply Qq h;intros;kernel_rfl
noncomputable def rS(k:X)(A:av):Prop:=∀x q,aG A x=O (.ax q)->ly k q=M
theorem rS.aU:rS k []:=λY Y e=>aH e
theorem rS.bg(h:ly k p=M)(r:rS k A):rS k ((x,.ax p)::A):=λy q e=>by
 rw [fI]at e
 by_cases z:x=y
 ·rw [jp z]at e;exact cQ.ax.inj (ii e)▸h
 ·rw [f0 z]at e;exact r y q e
section
variable{g:Gh}{n:X}{c:PV}{t:W (X×al)}{i f:W PV}{b:PM}{a s:ce}{env:ln}{l:be->Prop}{A:pc}{R:Flow->ce->Prop}
theorem eX.afb{nid:W (be×be)}{I B:av}(Z:qc g n A env L l a)(H:eX g b a nid D env l I P s){C:sB}(S:(jS C 3&&(cX (dw C 0) 14&&cM m L (dw C 0)))=M)(q:bB (ba D n) D m I P λY v o=>v=B∧o=E)(k:∀J,eX g b a nid D env l B E J->R .next J):ca (cr pw g.w) A (pM C env) R a9 s:=
 B2 S λU h=>B2 h λd j=>fP (kl U) λe p F=>by
  subst F
  refine H.gq Z ?_ j q k
  exact cC (dH d) λY Y Y F=>by subst F;rfl
theorem acd(B:ly 3 c=M){x d D:be}{k:rS 3 (nv i f)}(h:g.az.length=1)(H:eX g b a ([(x,d)]++[(D,D)]++[(E,E)]) (xH c) env l (nv i f) [t,[],[(0,2)],[(0,2)]] s):eX g b a ([(x,d)]++[(D,D)]) (Rp c) env l (nv i f) [t,[],[(0,2)]] s:=by
 refine H.zC (nid:=[(x,d)]++[(D,D)]) (B:=[t,[],[(0,2)]]) (m:=C0) (p:=mn) (k:=3) (qE N) (by rw [xz,h];rfl) N N N N N (λj C=>?_) (λj C e=>?_) (λj y q e=>?_) k
 ·apply oM C<;>rfl
 ·revert e;apply oM C<;>intro e<;>first|exact bY e|rfl
 ·clear H h k;revert e;apply Qt j
  ·intro (e:aG (dO c) y=O q);exact (iu e).elim (λz=>.inl ⟨e,z.1▸B⟩) λe=>aH e
  ·intro (e:aG [(xE,.ah 2),(xS,mn),(xO,.aj [])] y=O q)
   rcases iu e with⟨rfl,rfl⟩|e
   ·exact .inl ⟨N,N⟩
   rcases iu e with⟨rfl,rfl⟩|e
   ·exact .inr ⟨N,N⟩
   rcases iu e with⟨rfl,rfl⟩|e
   ·exact .inl ⟨N,N⟩
   ·exact aH e
  ·intro e;exact aH e
  ·intro _ e;exact aH e
theorem ace(B:ly 2 c=M){x d D:be}{k:rS 2 (nv i f)}(h:g.az.length=1)(H:eX g b a ([(x,d)]++[(D,D)]) (Rp c) env l (nv i f) [t,[],[(0,2)]] s):eX g b a [(x,d)] (vq c) env l (nv i f) [t,[]] s:=by
 refine H.zC (nid:=[(x,d)]) (B:=[t,[]]) (m:=xg) (p:=xG) (k:=2) (qE N) (by rw [xz,h];rfl) N N N N N (λj C=>?_) (λj C e=>?_) (λj y q e=>?_) k
 ·apply rI C<;>rfl
 ·revert e;apply rI C<;>intro e<;>first|exact bY e|rfl
 ·clear H h k;revert e;apply Qs j
  ·intro (e:aG (dO c) y=O q);exact (iu e).elim (λz=>.inl ⟨e,z.1▸B⟩) λe=>aH e
  ·intro (e:aG [(xE,xG),(xS,mn),(xO,.aj [])] y=O q)
   rcases iu e with⟨rfl,rfl⟩|e
   ·exact .inr ⟨N,N⟩
   rcases iu e with⟨rfl,rfl⟩|e
   ·exact .inl ⟨N,N⟩
   rcases iu e with⟨rfl,rfl⟩|e
   ·exact .inl ⟨N,N⟩
   ·exact aH e
  ·intro _ e;exact aH e
structure afc(g:Gh)(P:PM)(s:ce)(Φ:bA)(ob:ai)(v:bm)(s':ce)(x d:be)(F:X->X->im bm)(P':PM):Prop where
 eq:v=.ref x
 bN:s.heap.get? d=am
 I:aS (g.st [(x,d)] Φ F) P' ob s'
 G:bW g (cN s.heap) P s P' s'
noncomputable def HR(g:Gh)(P:PM)(s:ce)(B:bA)(C:ai)(v:bm)(D:ce):Prop:=∃x d F E,afc g P s B C v D x d F E
theorem eX.zQ(H:eX g b a [(x,d)] B env l E C s):HR g b a B C (.ref x) s:=
 H.ex.elim λF h=>h.elim λD h=>(xi x d F D ⟨N,H.bN (x,d) (IR.mpr N),h.I,h.G⟩)
theorem acf(B:cI g)(w:∀nid U F n,j' (g.st nid U F) n)(y:∀Y,iY g.w Y){P:PM}{v:bm}{E:bm->ce->Prop}(Rm:eW A 14)(I:aS g P [t] s)(D:g.az.length=1)(m:g.Φ=[dO c])(J:∀k,ly k c=M)
  (r:ar g.w g.az P v (C1 i f)) (hg:dY [f9,gp,iP i,iG f]=M) (h:(iG f).dS=M):ca (cr pw g.w) A (po (.ref 572) [v]) (HR g P s (mq c) [t,[]]) E s:=by
 refine OA (n:=12) (k:=1) (vs:=jW i f) B (λnid U F=>w nid U F 12) y Rm I N D (by rw [m];rfl) N (Qh _) (ae9 _) (afa _) (ahl _) (.bg r .aU) N λA' env l x d o Z H=>?_
 rw [m]at H
 have L:jt (jW i f):=qE N
 have S:∀k,rS (k+2) (nv i f):=λk=>.bg N (.bg hg (.bg h .aU))
 refine eR adx (Re (H.Hj Z (k:=1) (j:=2) (I:=xg) (p:=Rn) (w:=sgB c) ahc (bt N N N) L (by rw [xz,D];rfl) N N N N (EM N) (bt N N N) ⟨N,N,by decide,N,N,λC e=>ii e▸N,N,N⟩ λD1 s2 H=>?_))
 refine Re (H.Hj Z (k:=1) (j:=3) (I:=C0) (p:=Ro) (w:=sgC c) ahd (bt N N N) L (by rw [xz,D];rfl) N N N N (EM N) (bt N N N) ⟨N,N,by decide,N,N,λC e=>ii e▸N,N,N⟩ λD2 s3 H=>?_)
 refine Re (H.ic Z (k:=1) (p:=.aj []) (w:=xH c) ahe (bt N N N) (bt N N N) ⟨N,N,by decide,N,N,λC e=>ii e▸N,N,N⟩ λs4 H=>Re (H.CX Z ahf ag6 λs5 H=>?_))
 have H:=ace (J 2) (k:=S 0) D (acd (J 3) (k:=S 1) D H)
 exact Re (H.CX Z ahg ag7 λs6 H=>Re (H.ic Z (k:=1) (p:=mn) (w:=Aa c) ahh ag9 (bt N N N) ⟨N,N,by decide,N,N,λC e=>ii e▸N,N,N⟩ λs7 H=>Re (H.ic Z (k:=1) (p:=.aj [oi]) (w:=mq c) ahi aha (bt N N N) ⟨N,N,by decide,N,N,λC e=>ii e▸N,N,N⟩ λs8 H=>Re (H.afb Z ahj ahb λs9 H=>Re (H.CX Z ahk ag8 λs10 H=>FF ⟨N,H.zQ⟩)))))
end
theorem bc(A:v.dS=M)(B:dY r=M):dY (v::r)=M:=(bT (y:=bn) A).trans B
theorem fw(h:dY l=M):(PV.af l).dS=M:=h
theorem eI:dY []=M:=N
theorem dQ.gr(d:dQ):d.pv.dS=M:=by cases d<;>rfl
theorem gE.gr(o:gE):o.jw.dS=M:=by cases o<;>rfl
theorem i_.gr(o:i_):o.pv.dS=M:=by cases o<;>rfl
theorem oH.gr(o:oH):o.pv.dS=M:=by cases o<;>rfl
theorem l8.gr(o:l8):o.pv.dS=M:=by cases o<;>rfl
theorem lX.gr(o:lX):o.pv.dS=M:=by cases o<;>rfl
theorem HF(v:an)(d:dQ):dY [lU v d]=M:=bc (fw (bc N (bc N (bc N (bc N (bc d.gr eI)))))) eI
theorem afd(v:an)(d:dQ):dY [la v d]=M:=bc (fw (bc N (bc N (bc N (bc N (bc d.gr eI)))))) eI
mutual
theorem aP.gr:∀s:aP,s.pv.dS=M
 |.b_ b=>by cases b<;>rfl
 |.aa v=>N
 |.jj s=>fw (bc N (bc N (bc N (bc (aP.gr s) (bc N eI)))))
 |.op o a b=>fw (bc N (bc N (bc o.gr (bc (aP.gr a) (bc (aP.gr b) eI)))))
 |.kg M s=>fw (bc N (bc N (bc N (bc (aP.gr s) (bc N eI)))))
 |.kg bn s=>fw (bc N (bc N (bc N (bc (fw (bc (aP.gr s) eI)) eI))))
 |.tq v d t=>fw (bc N (bc N (bc (HF v d) (bc (bk.gr t) eI))))
 |.jc v b s=>fw (bc N (bc N (bc N (bc (aP.gr b) (bc (aP.gr s) eI)))))
 |.aF c a b=>fw (bc N (bc N (bc (bk.gr c) (bc (aP.gr a) (bc (aP.gr b) eI)))))
theorem bk.gr:∀s:bk,s.pv.dS=M
 |.d3 t=>fw (bc N (bc N (bc N (bc (bk.gr t) eI))))
 |.jV o a b=>fw (bc N (bc N (bc o.gr (bc (bk.gr a) (bc (bk.gr b) eI)))))
 |.h_ k v d t=>fw (bc N (bc N (bc k.gr (bc (HF v d) (bc (bk.gr t) eI)))))
 |.iL k v d t=>fw (bc N (bc N (bc k.gr (bc (afd v d) (bc (bk.gr t) eI)))))
 |.tr s=>fw (bc N (bc N (bc N (bc (fw (bc (aP.gr s) eI)) eI))))
 |.jc v b t=>fw (bc N (bc N (bc N (bc (aP.gr b) (bc (bk.gr t) eI)))))
 |.ao s i j=>fw (bc N (bc N (bc s.gr (bc (di.gr i) (bc (di.gr j) eI)))))
 |.jb k s=>fw (bc N (bc N (bc k.gr (bc (aP.gr s) eI))))
 |.eJ a b=>fw (bc N (bc N (bc N (bc (aP.gr a) (bc (aP.gr b) eI)))))
 |.ja a b=>fw (bc N (bc N (bc N (bc (aP.gr a) (bc (aP.gr b) eI)))))
theorem di.gr:∀s:di,s.pv.dS=M
 |.lg i j=>fw (bc N (bc N (bc N (bc (fw (bc (di.gr i) (bc (di.gr j) eI))) eI))))
 |.lh v d i=>fw (bc N (bc N (bc N (bc (HF v d) (bc (di.gr i) eI)))))
 |.iE k=>N
 |.kf s=>fw (bc N (bc N (bc N (bc (aP.gr s) eI))))
end
theorem Gu(B:an)(A:bk):(kh B A).dS=M:=fw (bc N (bc N (bc N (bc N (bc (fw (bc A.gr eI)) eI)))))
theorem BZ(A:aP):(ou A).dS=M:=fw (bc N (bc N (bc N (bc N (bc N (bc N (bc A.gr eI)))))))
theorem N'(A:an)(B:bk)(C:aP):dY [f9,gp,kh A B,ou C]=M:=bc N (bc N (bc (Gu A B) (bc (BZ C) eI)))
@[reducible]noncomputable def qj:X:=1077326293127784969588
@[reducible]noncomputable def yK:X:=31352157548
@[reducible]noncomputable def yI:X:=31370885866
@[reducible]noncomputable def yN:X:=514152355052399
@[reducible]noncomputable def yC:X:=31368900964
@[reducible]noncomputable def yCt:X:=31641679972
@[reducible]noncomputable def dN:PV:=.a8 [(.aA 66,.ab 0),(.aA 67,.ab 1),(.aA 1693634,.ab 2)]
section
variable(d:PV)(a:an)(b:bk)(c:aP)
@[reducible]noncomputable def ij:PV:=.aj [f9,gp,kh a b,ou c]
@[reducible]noncomputable def Ru:PV:=.a8 []
@[reducible]noncomputable def Ip:PV:=.a8 [(.aA 113,kh a b)]
@[reducible]noncomputable def xI:PV:=.a8 [(.aA 113,kh a b),(.aA 104,ou c)]
@[reducible]noncomputable def HS:W (X×PV):=[(1,.bG),(2,Ru),(3,Ip a b),(4,xI a b c)]
@[reducible]noncomputable def opB:bA:=[dO d,qh,[(qj,.ah 1)]]
@[reducible]noncomputable def opC:bA:=[dO d,qh,[(qj,.ah 1),(yK,.bG)]]
@[reducible]noncomputable def opD:bA:=[dO d,qh,[(qj,.ah 1),(yK,.bG),(yI,ij a b c)]]
@[reducible]noncomputable def opE:bA:=[dO d,qh,[(qj,.ah 1),(yK,.bG),(yI,ij a b c),(yN,dN)]]
@[reducible]noncomputable def Dw:bA:=[dO d,qh,[(qj,.ah 1),(yK,.bG),(yI,ij a b c),(yN,dN),(yC,.ah 3)],HS a b c]
@[reducible]noncomputable def opG:bA:=[dO d,qh,[(qj,.ah 1),(yK,.bG),(yI,ij a b c),(yN,dN),(yC,xI a b c)]]
@[reducible]noncomputable def rT:av:=[(217805684,.ax (.ah 2)),(qj,.ax (.ah 1)),(yK,.ax .bG),(yI,.ax (ij a b c)),(yN,.ax dN)]
@[reducible]noncomputable def xJ:av:=rT a b c++[(232372970,.ax (ou c))]
end
section
variable{e:PV}{a:an}{b:bk}{c:aP}{d:W (X×al)}
@[reducible]noncomputable def mN:W MS:=Tj
theorem op5:cY (ba (Dw e a b c) 12) (Dw e a b c) [] (bf mN 5) (rT a b c) [d,[],[],[(0,0)]] λB v o=>B=.bp∧v=xJ a b c∧o=[d,[],[],[(0,2)]]:=by
 refine uR (v:=ij a b c) (A:=[f9,gp,kh a b,ou c]) N N N ?_
 refine jq (rT a b c++[(232372970,.ax f9)]) (rT a b c++[(232372970,.ax f9)]) [d,[],[],[(0,0)]] N (λR A=>?_) ?_
 ·exact A
 refine jq (rT a b c++[(232372970,.ax gp)]) (rT a b c++[(232372970,.ax gp)]) [d,[],[],[(0,0)]] N (λR A=>?_) ?_
 ·exact A
 refine jq (rT a b c++[(232372970,.ax (kh a b))]) (rT a b c++[(232372970,.ax (kh a b))]) [d,[],[],[(0,1)]] N (λR A=>?_) ?_
 ·conv=>(whnf;try dsimp only)
  exact (dG _ N N (ww N) A)
 refine jq (xJ a b c) (xJ a b c) [d,[],[],[(0,2)]] N (λR A=>?_) ?_
 ·conv=>(whnf;try dsimp only)
  exact (dG _ N N (ww N) A)
 exact (bt N N N)
end
@[reducible]noncomputable def o6:sB:=au 15 0
@[reducible]noncomputable def pN(i:X):sB:=HQ (lR o6) i
theorem ady:lR o6=[pN 0,pN 1,pN 2,pN 3,pN 4,pN 5,pN 6]:=by kernel_rfl
theorem ahm:fQ (.eH mY qj (.aa qj)) (cR o6) (pN 0)=M:=by kernel_rfl
theorem ahn:fQ (.eH mY yK (.aa yK)) (cR o6) (pN 1)=M:=by kernel_rfl
theorem aho:fQ (.eH mY yI (.aa yI)) (cR o6) (pN 2)=M:=by kernel_rfl
theorem ahp:fQ (.eH mY yN (.aa yN)) (cR o6) (pN 3)=M:=by kernel_rfl
theorem ahq:fQ (.eH mY yC (.cD [])) (cR o6) (pN 4)=M:=by kernel_rfl
theorem ahr:fQ (bf mN 5) (cR o6) (pN 5)=M:=by kernel_rfl
theorem ahs:fQ (.eH mY yCt (.ab 0)) (cR o6) (pN 6)=M:=by kernel_rfl
theorem Qj(P:xL):BM (K P) 403=M:=by kernel_rfl
theorem afe(P:xL):Wp (K P) (.ref 403) "__init__" =O (O (.ref 125)):=by kernel_rfl
theorem aff(P:xL):typeIn (K P) (.ref 125)=O (.type "function"):=by kernel_rfl
theorem aht(P:xL):z8 (K P) 125 (z0 "__init__" "Names.__init__" o6 fg (.ref 124)) o6 ["self","signatures","kinds","items","numbers"]where
 ah:=by kernel_rfl
 cd:=by kernel_rfl
 tu:=N
 Ds:=N
 p4:=N
 gl:=N
 bl:=N
 sc:=by kernel_rfl
 aX:=by kernel_rfl
 nd:=by decide+kernel
 ib:=λY h=>by apply af9 h;intros;kernel_rfl
section
variable{g:Gh}{n:X}{f:PV}{o:W (X×al)}{a:an}{b:bk}{c:aP}{m:PM}{l s:ce}{env:ln}{r:be->Prop}{A:pc}
theorem adz(B:ly 3 f=M)(E:ly 3 (ij a b c)=M)(k:rS 3 (xJ a b c))(h:g.az.length=2)(H:eX g m l ([(x,d)]++[(D,D)]) (Dw f a b c) env r (xJ a b c) [o,[],[],[(0,2)]] s):eX g m l [(x,d)] (opG f a b c) env r (xJ a b c) [o,[],[]] s:=by
 refine H.zC (nid:=[(x,d)]) (B:=[o,[],[]]) (m:=HS a b c) (p:=xI a b c) (k:=3) (qE N) (by rw [xz,h];rfl) N N N N N (λj C=>?_) (λj C e=>?_) (λj y q e=>?_) k
 ·apply oM C<;>rfl
 ·revert e;apply oM C<;>intro e<;>first|exact bY e|rfl
 ·clear H h k;revert e;apply Qt j
  ·intro (e:aG (dO f) y=O q);exact (iu e).elim (λz=>.inl ⟨e,z.1▸B⟩) λe=>aH e
  ·intro (e:aG qh y=O q)
   refine .inl ⟨e,?_⟩
   rcases iu e with⟨rfl,_⟩|e
   ·rfl
   rcases iu e with⟨rfl,_⟩|e
   ·rfl
   rcases iu e with⟨rfl,_⟩|e
   ·rfl
   rcases iu e with⟨rfl,_⟩|e
   ·rfl
   rcases iu e with⟨rfl,_⟩|e
   ·rfl
   ·exact aH e
  ·intro (e:aG [(qj,.ah 1),(yK,.bG),(yI,ij a b c),(yN,dN),(yC,xI a b c)] y=O q)
   rcases iu e with⟨rfl,rfl⟩|e
   ·exact .inl ⟨N,N⟩
   rcases iu e with⟨rfl,rfl⟩|e
   ·exact .inl ⟨N,N⟩
   rcases iu e with⟨rfl,rfl⟩|e
   ·exact .inl ⟨N,E⟩
   rcases iu e with⟨rfl,rfl⟩|e
   ·exact .inl ⟨N,N⟩
   rcases iu e with⟨rfl,rfl⟩|e
   ·exact .inr ⟨N,N⟩
   ·exact aH e
  ·intro _ e;exact aH e
theorem adA(B:cI g)(hC:∀nid D F n,j' (g.st nid D F) n)(So:∀J,iY g.w J){S U Y h:bm}{E:bm->ce->Prop}(Rm:eW A 14)(I:aS g P [o,[]] s)(L:g.az.length=2)(t:g.Φ=[dO f,qh])(R:∀k,ly k f=M)
  (r1:ar g.w g.az P S (.ah 1)) (r2:ar g.w g.az P U .bG) (r3:ar g.w g.az P Y (ij a b c)) (r4:ar g.w g.az P h dN):ca (cr pw g.w) A (po (.ref 403) [S,U,Y,h]) (HR g P s (aE f a b c) (aM o 0)) E s:=by
 refine OA (n:=12) (k:=2) (vs:=rT a b c) B (λnid D F=>hC nid D F 12) So Rm I N L (by rw [t];rfl) N (Qj _) (afe _) (aff _) (aht _) (.bg r1 (.bg r2 (.bg r3 (.bg r4 .aU)))) N λA' env r x d w Z H=>?_
 rw [t]at H
 have y:dY [f9,gp,kh a b,ou c]=M:=N' a b c
 refine eR ady (Re (H.ic Z (k:=2) (p:=.ah 1) (w:=opB f) ahm (bt N N N) (bt N N N) ⟨N,N,by decide,N,N,λC e=>ii e▸N,N,N⟩ λs2 H=>Re (H.ic Z (k:=2) (p:=.bG) (w:=opC f) ahn (bt N N N) (bt N N N) ⟨N,N,by decide,N,N,λC e=>ii e▸N,N,N⟩ λs3 H=>Re (H.ic Z (k:=2) (p:=ij a b c) (w:=opD f a b c) aho (bt N N N) (bt N N N) ⟨N,N,by decide,N,N,λC e=>ii e▸N,N,N⟩ λs4 H=>Re (H.ic Z (k:=2) (p:=dN) (w:=opE f a b c) ahp (bt N N N) (bt N N N) ⟨N,N,by decide,N,N,λC e=>ii e▸N,N,N⟩ λs5 H=>?_)))))
 refine Re (H.Hj Z (k:=2) (j:=3) (I:=HS a b c) (p:=Ru) (w:=Dw f a b c) ahq (bt N N N) (qE N) (by rw [xz,L];rfl) N N N N (EM ?_) (bt N N N) ⟨N,N,by decide,N,N,λC e=>ii e▸N,N,N⟩ λD1 s6 H=>?_)
 ·have e1:lT (Ip a b)=M:=bc (Gu a b) eI
  have e2:lT (xI a b c)=M:=bc (Gu a b) (bc (BZ c) eI)
  refine (?_:(lT (Ip a b)&&(lT (xI a b c)&&M))=M)
  rw [e1,e2];rfl
 refine Re (H.CX Z ahr op5 λs7 H=>?_)
 have H:=adz (R 3) y (.bg N (.bg N (.bg N (.bg y (.bg N (.bg (BZ c) .aU)))))) L H
 exact Re (H.agK Z (k:=2) (i:=0) (D:=[]) ahs (bt N N N) (bt N N N) N N N N N λs8 H=>FF ⟨N,H.zQ⟩)
end
noncomputable def CG:MS->W MX
 |.bI _ (.cD l)=>l
 |_=>[]
noncomputable def zr(l:W al):al:=(l.map λc=>ZB ((c.natAbs:Nat):al) 89).sum
theorem acg(l:W al):0≤zr l∧zr l≤88*l.length:=by
 unfold zr
 induction l with
 |nil=>simp
 |cons c l A=>
  refine eR UV (eR List.sum_cons (eR Da ?_))
  have B:=Int.fmod_nonneg (a:=((c.natAbs:X):al)) (b:=89) (afK) (by decide)
  have C:=aak ((c.natAbs:X):al) (b:=89) (by decide)
  push_cast
  exact afL A B C
theorem afg(A:W al):q_ (.aj (A.map .ab)) .bG (.ab 60)=O (.aj ((A.take 60).map .ab)):=by
 refine (?_:O (PV.aj (((A.map PV.ab).take (Fa 60 (A.map PV.ab).length)).drop 0))=_)
 refine eR List.drop_zero (eR List.map_take ?_)
 congr 2
 rcases YG 60 (A.map PV.ab).length with h|h
 ·rw [ER h]
 ·exact eR (Mn h) (eR (Fu (ul _)) (eR (Fu h) N))
section
variable{n:X}{d:bA}{a:ai}
@[reducible]noncomputable def Ab(A:PV):av:=[(4050646790772,.ax A)]
theorem ahu(B:aG A x=O (.ax v))(e:q_ v .bG (.ab 60)=O u)(h:Q u A a):bB C d (.iS (.aa x) .bG (.ab 60)) A a Q:=by
 refine (?_:oC A x λv A=>oS (q_ v .bG (.ab 60)) λu=>Q u A a)
 unfold oC
 refine eR B (?_:oS (q_ v .bG (.ab 60)) λu=>Q u A a)
 exact eR e h
theorem Rv(h:bB C d e A a λv A a=>dP C d r A a λB A a=>Q (v::B) A a):dP C d (e::r) A a Q:=h
theorem Iq(h:dP C d r A a λB A a=>Q (.ae (.aA c)::B) A a):dP C d (.ae c::r) A a Q:=h
theorem esI(h:dP C d r A a λB A a=>Q (.ab i::B) A a):dP C d (.ab i::r) A a Q:=h
theorem esB(B:yZ f=M)(h:bB C d e A a λv A a=>oS (oQ f [v]) λu=>Q u A a):bB C d (.bi f [e]) A a Q:=by
 refine (?_:oT (yZ f) _)
 exact eR B h
theorem ahv{A:W al}(D:A.length≤63){Q:W PV->av->ai->Prop}
  (h:∀b,0≤b->b≤100000->Q [.ae (.aA 31368901476),.aj ((A.take 60).map .ab),.ae (.aA 31641679972),.ab 0,.ae (.aA 27346450147),.ab b,.ae (.aA 31368900964),.ab 0] (Ab (.aj (A.map .ab))) a):
  dP (ba d n) d (CG (bf dU 0)) (Ab (.aj (A.map .ab))) a Q:=by
 have C:=acg (A.take 60)
 have E:(A.take 60).length≤60:=eR Y4 afM
 have I:=h (zr (A.take 60)) C.1 (by have:=C.2;exact afN C E)
 have F:=afg A
 generalize A.take 60=H at*
 refine (?_:dP (ba d n) d [(.ae 31368901476),(.iS (.aa 4050646790772) .bG (.ab 60)),(.ae 31641679972),(.ab 0),(.ae 27346450147),(.bi 1817460 [(.dM [] (.bj .Mod (.bi 1913314 [(.aa 230388580)]) (.ab 89)) (.ak 230388580) .bK [(.iS (.aa 4050646790772) .bG (.ab 60))] [])]),(.ae 31368900964),(.ab 0)] _ a Q)
 refine Iq (Rv (ahu N F (Iq (esI (Iq (Rv (esB N ?_)))))))
 conv=>whnf
 refine (lc (λB=>iq _ B [] a _) (PV.aj.inj (ii F))).mpr ?_
 refine iW (f:=PV.ab) (λc=>[.ab (ZB ((c.natAbs:X):al) 89)]) (λc S J R L=>?_) ?_
 ·exact ⟨λY=>N,L⟩
 ·refine ⟨?_,?_⟩
  ·rw [kI,sw];exact io E (by decide)
  ·have P:oQ 1817460 [.aj (H.map λc=>.ab (ZB ((c.natAbs:Nat):al) 89))]=O (.ab (zr H)):=Gm _ _
   refine eR (kI ..) ?_
   conv=>whnf
   exact eR (P ..) I
end
@[reducible]noncomputable def gw:sB:=b_ 39
@[reducible]noncomputable def lN(i:X):sB:=HQ (lR gw) i
@[reducible]noncomputable def Ir:W sB:=[lN 1,lN 2,lN 3,lN 4,lN 5,lN 6,lN 7,lN 8,lN 9]
@[reducible]noncomputable def It:W sB:=[lN 11,lN 12,lN 13,lN 14]
@[reducible]noncomputable def msA:W MS:=[bf dU 1,bf dU 2,.d9 (.ak 29475337069) .bK [.af [.ab 1,.ab 0]] [bf rR 0,bf rR 1],bf dU 4,bf dU 5,bf dU 6,bf dU 7,bf dU 8,bf dU 9]
@[reducible]noncomputable def msB:W MS:=[bf dU 11,bf dU 12,.d9 (.ak 1864045) .hY [.ab 3] [bf lB 0,bf lB 1,bf lB 2,bf lB 3,bf lB 4],bf dU 14]
theorem adB:lR gw=lN 0::(Ir++(lN 10::It)):=by kernel_rfl
@[reducible]noncomputable def fC:X:=213496679
theorem ahw:fQ (.bI (.ak fC) (.cD (CG (bf dU 0)))) (cR gw) (lN 0)=M:=by kernel_rfl
theorem ahx:mZ msA (cR gw) Ir=M:=by kernel_rfl
theorem ahy:mZ msB (cR gw) It=M:=by kernel_rfl
@[reducible]noncomputable def Dx:kt:=dw (lN 10) 1
@[reducible]noncomputable def Rq:kt:=cg Dx 1
theorem afh:(jS (lN 10) 2&&(xo 3978984798448 (cR gw) (dw (lN 10) 0)&&(g6 (aW "Opener") (cR gw) Dx&&(pi (bP Dx).es.length 5&&(g6 (aW "Signatures") (cR gw) Rq&&(f' [.aa yI] (cR gw) ((bP Rq).es.drop 1)&&f' [.bG,.aa yI,.cD [.ae 66,.ab 0,.ae 67,.ab 1,.ae 1693634,.ab 2]] (cR gw) ((bP Dx).es.drop 2)))))))=M:=by kernel_rfl
theorem afi(P:xL):sx (tC P) "Opener" =O (.ref 403):=by kernel_rfl
theorem afj(P:xL):sx (tC P) "Signatures" =O (.ref 572):=by kernel_rfl
theorem QM(P:xL):z8 (K P) 687 (z0 "law" "law" gw iD (.ref 686)) gw ["script"]where
 ah:=by kernel_rfl
 cd:=by kernel_rfl
 tu:=N
 Ds:=N
 p4:=N
 gl:=N
 bl:=N
 sc:=by kernel_rfl
 aX:=by kernel_rfl
 nd:=by decide+kernel
 ib:=λY h=>by apply Qp h;intros;kernel_rfl
@[reducible]noncomputable def Iu(A:PV)(b:al):W (PS×PV):=[(.aA 31368901476,A),(.aA 31641679972,.ab 0),(.aA 27346450147,.ab b),(.aA 31368900964,.ab 0)]
@[reducible]noncomputable def xK(g:Gh)(D:be)(A:PV)(u:bm):Gh:={g with az:=g.az++[(D,D)],Φ:=[dO A],F:=λj y=>if j=0∧y=31368901476 then O u else am}
theorem Gv(e:dF [dO A] j y=O p):j=0∧y=31368901476∧p=A:=by
 cases j with
 |zero=>exact (iu (show aG (dO A) y=O p from e)).elim (λz=>(bt N z.2 z.1)) λe=>aH e
 |succ j=>exact aH e
section
variable{g:Gh}{n:X}{f:na}
theorem xM(h:k≠x):Rs ((aZ k,v)::l) (aZ x)=Rs l (aZ x):=qD.trans (f0 λq=>h (kM q))
theorem CH:Rs ((aZ k,v)::l) (aZ k)=O v:=qD.trans (jp N)
theorem adC(a:aT g env hb P vs s)(I:aS g P [] s)(l:vg g env hb P s.heap D (.a8 (Iu A b)))(no:jt vs)(hc:∀x,env.cells.lookup x≠O D)(h1:g.az=[]):
  ∃u,aT (xK g D A u) env hb P vs s∧aS (xK g D A u) P [cu 0 b 0] s∧ar g.w (xK g D A u).az P (.ref D) (.ah 0):=by
 have B:∀{j q},aY (g.az++[(D,D)]) j=O q->j=0∧q=(D,D):=λ{j q} e=>by
  rw [h1]at e
  cases j with
  |zero=>exact ⟨N,(ii e).symm⟩
  |succ j=>exact aH e
 have F:∀j q,aY g.az j=O q->aY (g.az++[(D,D)]) j=O q:=λj q e=>q0 e
 have g0:aY (g.az++[(D,D)]) 0=O (D,D):=by rw [h1];rfl
 refine dk l.eY.2 λH hD C hl=>qm C.I λE m1 J Y r1 C=>qm C.I λv2 m2 L Y r2 C=>qm C.I λv3 m3 R Y r3 C=>qm C.I λv4 m4 S Y r4 C=>(show∃t,v2=.int 0 t from r2.I).elim λt2 U=>(show∃t,v3=.int b t from r3.I).elim λt3 e3=>(show∃t,v4=.int 0 t from r4.I).elim λt4 e4=>?_
 rw [show m4=[] from C.I]at S
 rw [S,e4]at R
 rw [R,e3]at L
 rw [L,U]at J
 have Z:H=[(aZ 31368901476,E),(aZ 31641679972,.int 0 t2),(aZ 27346450147,.int b t3),(aZ 31368900964,.int 0 t4)]:=J
 clear J L R S
 have nid:∀{c},ej (xK g D A E) c->c=D:=λh=>fP h λk x e=>(Op (B e).2).2
 refine (cq E (a.az (A:=xK g D A E) N (λy p Y v r=>r.up F (PM.le.bQ P)) no ⟨a.dq.1,λh=>l.nL (nid h).symm⟩ λy c e=>⟨(a.cj y c e).1,λh=>hc y (nid h▸e)⟩) ⟨I.cJ,I.ag,I.i8,I.os,λj y p e=>?_,λj a d o=>⟨cu 0 b 0,?_⟩,λj ns e=>?_,λj a d o=>(Op (B o).2).2▸l.nP,λj i a d a' d' e1 U Y=>(B e1).1.trans (B U).1.symm⟩ (.ah g0))
 ·have z:=Gv e
  exact eR z.1 (eR z.2.1 (eR z.2.2 (ay E N (r1.up F (PM.le.bQ P)))))
 ·have z:=B o
  refine eR z.1 (eR ((Op z.2).1) (eR ((Op z.2).2) (bt N (.cD H N N N l.eY.1 hD (by rw [Z];exact ww N) (λy p e=>?_) λy i e=>?_) (λy p e=>by rw [(Gv e).2.1];rfl))))
  ·exact eR ((Gv e).2.1) (eR Z (ay E N CH))
  ·refine eR Z ?_
   rw [fI]at e
   by_cases q:31641679972=y
   ·rw [jp q]at e
    exact eL q (eL (ii e) ⟨t2,(xM (by decide)).trans CH⟩)
   ·rw [f0 q,fI]at e
    by_cases q:27346450147=y
    ·rw [jp q]at e
     exact eL q (eL (ii e) ⟨t3,(xM (by decide)).trans ((xM (by decide)).trans CH)⟩)
    ·rw [f0 q,fI]at e
     by_cases q:31368900964=y
     ·rw [jp q]at e
      exact eL q (eL (ii e) ⟨t4,(xM (by decide)).trans ((xM (by decide)).trans ((xM (by decide)).trans CH))⟩)
     ·rw [f0 q]at e;exact aH e
 ·cases j with
  |zero=>exact (dC D D g0)
  |succ j=>exact aH e
end
section
variable{g:Gh}{n:X}{b:na}
theorem Kl(H:args.any (·.1)=bn)
  (h:ca (cr pw g.w) A (uq args) (λJ B=>((K g.w.params).In B.heap∧BM (K g.w.params) C=M)∧ca (cr pw g.w) A (po (.ref C) J []) Q E B) E s):
  ca (cr pw g.w) A (wd pos (.ref C) [] args []) Q E s:=by
 unfold wd
 refine gy (ss (tY (Q:=λx B=>((K g.w.params).In B.heap∧BM (K g.w.params) C=M)∧ca (cr pw g.w) A (po (.ref C) x.pos x.kw) Q E B) H h) (λx B D=>gS ?_) λ_ _ x=>x)
 have Y:=makes_of (M:=cr pw g.w) D.1.1 D.1.2
 obtain ⟨S,U,Z,a,L, -⟩:=Y.obj
 have F:∀{t:wE bm},ca (cr pw g.w) A t Q E B->ca (cr pw g.w) A (t>>=λr=>mI [r] point>>=λ_=>re r) Q E B:=
  λP=>dL (ss P (λr I R=>gy (wpAny_point (lf R))) λ_ _ x=>x)
 refine eR (show(args.any (·.1)||List.any (α:=im f8×wE bm) [] (·.1.isNone))=bn from lc (· ||false) H) (dL (m:=Fj (.ref C)) ?_)
 unfold Fj
 exact dL (MO L (dL (Y.call.here (lf (F D.2)))))
theorem aT.zQ(a:aT g env E P B s)(H:jt B)(G:bW g (cN s.heap) P s C I)(J:s.heap.get? d=am):aT (g.st [(x,d)] D F) env E C B I:=by
 have A:=a.cv G
 have l:=a.u_ J
 have nid:∀{c},ej (g.st [(x,d)] D F) c->ej g c∨c=d:=λh=>fP h λk u e=>(qG e).elim (λe=>.inl (dC k u e)) λe=>.inr (Op e.2).2
 exact A.az (A:=g.st [(x,d)] D F) N (λy p _ v r=>r.up (λj u e=>q0 e) (PM.le.bQ C)) H ⟨A.dq.1,λh=>(nid h).elim A.dq.2 λe=>l.1 e.symm⟩ λy c e=>⟨(A.cj y c e).1,λh=>(nid h).elim (A.cj y c e).2.1 λq=>l.2 y (q▸e)⟩
theorem Mf{B:W X}{A:pc}{env:ln}{j:be->Prop}{Q:Fl->av->ai->Prop}{H:W sB}{R:Flow->ce->Prop}(F:dh env b)(o:i9 env b j)(y:eW A n)(hs:∀m,CD g n B m):
  ∀{U:W MS} {C:W sB} {P:PM} {J:av} {L:ai} {s:ce},mZ U b C=M->aT g env j P J s->aS g P L s->fy (ba g.Φ n) g.Φ B U J L Q->
   (∀Y D E Z S,Q Y D E->eB g j P s Z S->aT g env j Z D S->aS g Z E S->Y=.bp∧ca (cr pw g.w) A (uy H env) R a9 S)->ca (cr pw g.w) A (uy (C++H) env) R a9 s
 |[],C,P,J,L,s,h,a,I,q,k=>eR (uu.mp h) ((k _ _ _ P s q (.bQ ..) a I).2)
 |m::U,[],_,_,_,_,h,_,_,_,_=>bY h
 |m::U,st::C,P,J,L,s,h,a,I,q,k=>B2 h λh1 h2=>by
  have q:cY (ba g.Φ n) g.Φ B m J L λf J L=>match f with|.bp=>fy (ba g.Φ n) g.Φ B U J L Q|.aB v=>Q (.aB v) J L:=q
  refine Re (SP.bJ ((hs m b st h1).go F o y a I q) λf s1 Y bu ob1 P1 q1 x1 a1 I1 G1=>?_)
  cases x1 with
  |bp=>exact Mf F o y hs h2 a1 I1 q1 λY D E Z S q2 G2 a2 I2=>k Y D E Z S q2 (G1.bD G2) a2 I2
  |aB r=>exact Fl.noConfusion (k _ _ _ P1 s1 q1 G1 a1 I1).1
end
theorem adD:∀(A:W al),dY (A.map .ab)=M:=λA=>cB A N λa r B=>bc N (B)
theorem ach(h:n4 A B):bH w C P A (B.map .ab):=by
 induction h with
 |nil=>exact .aU
 |cons n t _ D=>exact .bg (.ab n t) D
@[reducible]noncomputable def eQ(w:lw)(s:ce):Gh:={w:=w,l5:=s.heap,os:=s.os,az:=[],F:=λ_ _=>am,Φ:=[]}
@[reducible]noncomputable def tI(s:ce):PM:=λa=>s.heap.get? a
theorem afk(A:Cr w s E F):cI (eQ w s):=by
 obtain ⟨B,C,D,T⟩:=A.b_
 exact ⟨A.K,(d_ C D T.g T.b T.builtins),T.nolimit,⟨_,A.K 687 _ (QM _).ah⟩⟩
theorem ahz(B:Cr w s C D):aS (eQ w s) (tI s) [] s:=
 ⟨λ_ _ e=>e,λ_ _ e=>e,B.i8,N,λk x p e=>by cases k<;>exact aH e,λk a d e=>by cases k<;>exact aH e,λk A e=>by cases k<;>exact aH e,λk a d e=>by cases k<;>exact aH e,λk j a d E F e=>by cases k<;>exact aH e⟩
section
variable{w:lw}{a:ce}{j:W bm}{i:W al}{A:pc}{env:ln}{R:Flow->ce->Prop}{D:be}{b:al}
@[reducible]noncomputable def d7(i:W al):PV:=.aj (i.map .ab)
@[reducible]noncomputable def vr(w:lw)(a:ce)(nid:W (be×be))(B:bA)(env:ln)(C:av)(E:ai)(s:ce):Prop:=eX (eQ w a) (tI a) a nid B env (cN a.heap) C E s
@[reducible]noncomputable def zS(w:lw)(a:ce)(A:pc)(env:ln):Prop:=qc (eQ w a) 450 A env (cR gw) (cN a.heap) a
theorem ahA{b:an}{p:Prop}(h:b=M)(k:p):oT b p:=eR h k
theorem ahB{B:Type}{o:im B}{x:B}{K:B->Prop}(h:o=O x)(k:K x):oS o K:=eR h k
theorem Yt(B:PV)(b:al):n_ [.ae (.aA 31368901476),B,.ae (.aA 31641679972),.ab 0,.ae (.aA 27346450147),.ab b,.ae (.aA 31368900964),.ab 0] []=O (Iu B b):=by kernel_rfl
theorem afl(Z:zS w a A env)(B:i.length≤63){s:ce}(H:vr w a [] [] env (Ab (d7 i)) [] s)(k:∀D b n,0≤b->b≤100000->vr w a [(D,D)] [dO (d7 (i.take 60))] env (v0 (d7 i) []) [cu 0 b 0] n->R .next n){o:sB}(h:fQ (.bI (.ak fC) (.cD (CG (bf dU 0)))) (cR gw) o=M):ca (cr pw w) A (pM o env) R a9 s:=by
 refine H.ex.elim λF C=>C.elim λP C=>C3 h λh1 h2 E=>B2 E λ_ E=>B2 E λh4 E=>B2 E λh5 r=>cC (kl h1) λt e pos q=>?_
 subst q
 refine bX (y7 h2) λy py q hy ex=>cC (dH h4) λks I p J=>?_
 have J:e=.Dict ks I p:=J
 subst q J
 refine FH (ss (NK (g:=(eQ w a).st [] [] F) (Q:=λd I ob=>∃b,0≤b∧b≤100000∧d=.a8 (Iu (d7 (i.take 60)) b)∧I=Ab (d7 i)∧ob=[]) Z.cJ.st ((kL (Z.kj (nid:=[]) (J:=[]) (F:=F)) (CG (bf dU 0))).d _ _ _ r) (λq=>by subst q;exact bY r) (ww h5) Z.i6 Z.jP C.a C.I ?_) (λv s1 L=>QR L λD d bu ob1 P1 ev q T=>rD q λb S U ed Y l=>?_) λ_ _ f=>f) N
 ·refine (?_:dP _ _ _ _ _ λus I ob=>oT (u8 us.length 30) (oS (n_ us []) λd=>_))
  exact ahv B λb S U=>ahA N (ahB (Yt _ _) (cz b S U N N N))
 ·have a1:=T.a.fN (C:=cN a.heap) λb h=>.inl h
  have c:=T.o
  have I1:=T.I
  rw [ed]at c
  rw [Y]at a1
  rw [l]at I1
  refine eR ev ?_
  have hn:∀q∈[(D,D)],a.heap.get? q.2=am:=λq m=>IR.mp m▸(BF λq=>c.nb q)
  refine dk (adC (g:=(eQ w a).st [] [] F) a1 I1 c (qE N) (λx e=>(T.a.cj x D e).2.2.elim λv L=>T.o.eY.tb L) N) λu a2 I2 r2=>?_
  refine sj (g:=xK ((eQ w a).st [] [] F) D (d7 (i.take 60)) u) Z.i6 Z.zO hy a2 I2 r2 λs2 a3 I3 G3=>k D b s2 S U ⟨hn,_,P1,?_,I3,?_⟩
  ·rw [←ex]at a3;exact a3
  exact (C.G.kC (nid:=[]) (J:=[]) (F:=F) (λq m=>nomatch m) (λ_ h=>h) T.G.eP).kC (nid:=[(D,D)]) hn (λ_ h=>h) G3
theorem afm(Z:zS w a A env){S:W al}(m:0≤b∧b≤100000){L:W sB}{Y:PV}{s:ce}(H:vr w a [(D,D)] [dO (d7 S)] env (v0 Y []) [cu 0 b 0] s)
  (k:∀(C:an) (E:bk) (I:aP) (B:bk) (J:X) U,iw C E I B->J≤100->vr w a [(D,D)] [dO (d7 S)] env (v6 Y C E I B [(31370885866,.aX (ij C E I))]) [cu J b 2] U->ca (cr pw w) A (uy L env) R a9 U):
  ca (cr pw w) A (uy (Ir++L) env) R a9 s:=by
 refine H.ex.elim λF h=>h.elim λP h=>Mf (g:=(eQ w a).st [(D,D)] [dO (d7 S)] F) (Q:=λe n o=>∃(C:an) (E:bk) (I:aP) (B:bk) (J:X),iw C E I B∧J≤100∧e=.bp∧n=v6 Y C E I B [(31370885866,.aX (ij C E I))]∧o=[cu J b 2]) Z.i6 Z.zO Z.jP (Gg (g:=(eQ w a).st [(D,D)] [dO (d7 S)] F) Z.cJ.st (Z.CO _ _ _) (Z.oF _) fF) ahx h.a h.I
  (ag5 (j:=S) m (by decide) λC E I B J c d=>⟨C,E,I,B,J,c,d,N,N,N⟩) λe r t y U q G' f l=>l_ q λC E I B J c d e1 e2 e3=>⟨e1,?_⟩
 rw [e2]at f
 rw [e3]at l
 exact k C E I B J U c d ⟨H.bN,F,y,f,l,h.G.kC H.bN (λ_ h=>h) G'⟩
theorem afn(Z:zS w a A env){L:W al}(y:0≤b∧b≤100000){nid:W (be×be)}{sv ov bv iv:PV}{E:an}{I:bk}{B:bk}{S:X}{s:ce}(Dr:iw E I J B)(hk:S≤100)(H:vr w a nid (eM L E I J) env (lV sv E I J B ov bv iv []) (eG S b 0) s)
  (k:∀C,(∀c o,a.heap.get? c=O o->C.heap.get? c=O o)->C.os=a.os->C.gens=#[]->R (.ret (.bool M)) C):ca (cr pw w) A (uy It env) R a9 s:=by
 refine H.ex.elim λF h=>h.elim λP h=>SP.bJ (g:=(eQ w a).st nid (eM L E I J) F) ((Ot (g:=(eQ w a).st nid (eM L E I J) F) Z.cJ.st (Z.CO _ _ _) (Z.oF _) fF _ _ _ ahy).go (Q:=λU vs ob=>U=.aB (.aJ M)) Z.i6 Z.zO Z.jP h.a h.I (agW Dr y (by decide) (io hk (by decide)) λ_ _=>N)) λf C U vs' aN P' q x' a' Y G'=>?_
 subst q
 cases x' with
 |aB r=>
  refine eR (show _=Value.bool M from r.I) ?_
  exact k C (λc o e=>(h.G.kC H.bN (λ_ h=>h) G').cH c o e λh=>fP h λk x e=>by cases k<;>exact aH e) Y.os Y.i8
end
structure Rx(st:sB)(y:f8)(py:KF)(x x2:f8)(np tO p p2 pos:KF)(lC es:W kt):Prop where
 eq:st=.Assign [.Name y py] (.Call (.Name x np) (.Call (.Name x2 tO) lC [] p2::es) [] p) pos
 aX:e9 (cR gw) y=M
 cy:3978984798448=aW y
 g1:gU (cR gw) x=M
 c1:x="Opener"
 g2:gU (cR gw) x2=M
 c2:x2="Signatures"
 ok1:f' [.aa yI] (cR gw) lC=M
 ok2:f' [.bG,.aa yI,.cD [.ae 66,.ab 0,.ae 67,.ab 1,.ae 1693634,.ab 2]] (cR gw) es=M
theorem OQ(h:gU B x=M)(e:aW x=aW z)(A:aZ (aW z)=z):x=z:=(f7 (yi h)).1.symm.trans ((lc aZ e).trans A)
theorem aeB{A:sB}(h:(jS A 2&&(xo 3978984798448 (cR gw) (dw A 0)&&(g6 (aW "Opener") (cR gw) (dw A 1)&&(pi (bP (dw A 1)).es.length 5&&(g6 (aW "Signatures") (cR gw) (cg (dw A 1) 1)&&(f' [.aa yI] (cR gw) ((bP (cg (dw A 1) 1)).es.drop 1)&&f' [.bG,.aa yI,.cD [.ae 66,.ab 0,.ae 67,.ab 1,.ae 1693634,.ab 2]] (cR gw) ((bP (dw A 1)).es.drop 2)))))))=M):
  ∃y D x F H B p I pos C E,Rx A y D x F H B p I pos C E:=by
 refine C7 h λR S U Z a b c=>cC (kl R) λt e pos q=>?_
 subst q
 refine bX (Ci S) λy D q d f=>qp (g6.Q U) λx H E p J L i=>?_
 have q:t=.Name y D:=q
 have J:e=_:=J
 subst q J
 refine eD (vi (n:=3) Z) λz E q Y=>?_
 subst q
 refine qp (g6.Q a) λF B C I q P j=>?_
 have q:z=_:=q
 subst q
 exact ⟨y,D,x,F,H,B,p,I,pos,C,E,N,d,f,L,OQ L i (by decide+kernel),P,OQ P j (by decide+kernel),b,c⟩
section
variable{w:lw}{a:ce}{c:W al}{A:pc}{env:ln}{R:Flow->ce->Prop}{D:be}{b:al}
theorem N_{nid:W (be×be)}{s F:ce}(G:bW (eQ w a) (cN a.heap) P a H s)(B:∀q∈nid,a.heap.get? q.2=am)(C:s.heap.get? d=am):∀q∈nid++[(x,d)],a.heap.get? q.2=am:=
 λq E=>(pI.mp E).elim (B q) λh=>(IR.mp h)▸BF λz=>G.bR d z C
theorem aeC(Z:zS w a A env){B:W al}{j:PV}{J:an}{L:bk}{I:aP}{C:bk}{e:X}{s:ce}(H:vr w a [(D,D)] [dO (d7 B)] env (v6 j J L I C [(31370885866,.aX (ij J L I))]) [cu e b 2] s)
  (k:∀nid s',vr w a nid (eM B J L I) env (lV j J L I C QL (eV (.aA 66)) (ij J L I) []) (eG e b 0) s'->R .next s') {st:sB} {y:f8} {py:KF} {x x2:f8} {np tO p p2 pos:KF} {lC es:W kt} (S:Rx st y py x x2 np tO p p2 pos lC es):ca (cr pw w) A (pM st env) R a9 s:=by
 refine H.ex.elim λF h=>h.elim λP h=>?_
 have cG:∀k,ly k (d7 B)=M:=λk=>adD B
 have R7:eW A 14:=(bt Z.jP.1 (by have:=Z.jP.2.1;exact L2 0x2e42393f05c846e1ce58 N this) (by have:=Z.jP.2.2;exact L2 0x2e42383c221c9f1c17211c1e110dc39ca38 N this))
 have i:cI ((eQ w a).st [(D,D)] [dO (d7 B)] F):=Z.cJ.st
 have se1:∀(l:W MX),kZ ((eQ w a).st [(D,D)] [dO (d7 B)] F) 450 l:=kL Z.kj
 have se2:∀(x d:be) (Φ:bA) (U:X->X->im bm) (l:W MX),kZ (((eQ w a).st [(D,D)] [dO (d7 B)] F).st [(x,d)] Φ U) 450 l:=λx d Φ U=>kL (Gd i.st (y_ i.st (yh _ _) _) (Z.oF _))
 have RX:=(se1 _).es _ _ S.ok1
 have Sn:=λx d Φ U=>(se2 x d Φ U _).es _ _ S.ok2
 refine eR S.eq (FH ?_ N)
 refine eR (yB ..) (dL (BR (g:=(eQ w a).st [(D,D)] [dO (d7 B)] F) i h.I Z.i6 S.g1 (S.c1▸afi _) (Kl (g:=eQ w a) (eR (vR N ..) ((Sn 0 0 [] λY Y=>am).bK (pos:=p) (env:=env))) (eR (vR N) (yA (eR (yB ..) (dL (BR (g:=(eQ w a).st [(D,D)] [dO (d7 B)] F) i h.I Z.i6 S.g2 (S.c2▸afj _) (Kl (g:=eQ w a) RX.bK ?_)))))))))
 have q1:dP (ba [dO (d7 B)] 450) [dO (d7 B)] [.aa yI] (v6 j J L I C [(31370885866,.aX (ij J L I))]) [cu e b 2] λrs vs ob=>rs=[ij J L I]∧vs=v6 j J L I C [(31370885866,.ax (ij J L I))]∧ob=[cu e b 2]:=(bt N N N)
 refine lq.bJ (g:=(eQ w a).st [(D,D)] [dO (d7 B)] F) (RX.mT Z.i6 Z.jP h.a h.I q1) λus s1 rs bu ob1 P1 q a1 I1 x1 G1=>⟨⟨I1.oU i,Qh _⟩,?_⟩
 rw [q.1]at x1
 rw [q.2.1]at a1
 rw [q.2.2]at I1
 refine bH.aq x1 λv ev x1=>eR ev ?_
 have m:bW (eQ w a) (cN a.heap) (tI a) a P1 s1:=h.G.kC H.bN (λY h=>h) G1.eP
 have R5:jt (v6 j J L I C [(31370885866,.ax (ij J L I))]):=qE N
 refine ss (acf (g:=(eQ w a).st [(D,D)] [dO (d7 B)] F) (E:=a9) (c:=d7 B) (t:=cu e b 2) i (λnid Φ F n=>y_ i.st (yh _ _) n) Z.oF R7 I1 N N cG x1 (N' J L I) (BZ I)) (λv s2 hv=>qn hv λx d U P2 M1=>?_) λY Y f=>f
 refine eR M1.eq ?_
 have a2:=a1.zQ (x:=x) (D:=mq (d7 B)) (F:=U) R5 M1.G M1.bN
 have B2:cI (((eQ w a).st [(D,D)] [dO (d7 B)] F).st [(x,d)] (mq (d7 B)) U):=i.st
 have G2':bW (eQ w a) (cN a.heap) (tI a) a P2 s2:=m.kC H.bN (λY h=>h) (M1.G.cJ (A:=cN a.heap) m.bR).eP
 have o:=N_ (F:=s) (x:=x) m H.bN M1.bN
 have q2:dP (ba (mq (d7 B)) 450) (mq (d7 B)) [.bG,.aa yI,.cD [.ae 66,.ab 0,.ae 67,.ab 1,.ae 1693634,.ab 2]] (v6 j J L I C [(31370885866,.ax (ij J L I))]) [cu e b 2,[]] λrs vs ob=>rs=[.bG,ij J L I,dN]∧vs=v6 j J L I C [(31370885866,.ax (ij J L I))]∧ob=[cu e b 2,[]]:=(bt N N N)
 refine lq.bJ (g:=((eQ w a).st [(D,D)] [dO (d7 B)] F).st [(x,d)] (mq (d7 B)) U) ((Sn x d _ U).mT Z.i6 Z.jP a2 M1.I q2) λus s3 rs mC iI P3 q a3 I3 x3 G3=>⟨⟨I3.oU B2,Qj _⟩,?_⟩
 rw [q.1]at x3
 rw [q.2.1]at a3
 rw [q.2.2]at I3
 refine bX x3.I λu2 m2 eu y2 x3=>bX x3.I λu3 m3 eu3 y3 x3=>bH.aq x3 λu4 eu4 y4=>eR eu (eR eu3 (eR eu4 ?_))
 have t:bW (eQ w a) (cN a.heap) (tI a) a P3 s3:=G2'.kC (nid:=[(D,D)]++[(x,d)]) o (λY h=>h) G3.eP
 refine ss (adA (g:=((eQ w a).st [(D,D)] [dO (d7 B)] F).st [(x,d)] (mq (d7 B)) U) (E:=a9) (f:=d7 B) (o:=cu e b 2) (a:=J) (b:=L) (c:=I) B2 (λnid Φ F n=>y_ B2.st (yh _ _) n) Z.oF R7 I3 N N cG (.ah (d:=d) N) y2 y3 y4) (λv s4 hv=>qn hv λy' d2 F4 P4 M2=>?_) λY Y f=>f
 refine eR M2.eq ?_
 have G4':bW (eQ w a) (cN a.heap) (tI a) a P4 s4:=t.kC (nid:=[(D,D)]++[(x,d)]) o (λY h=>h) (M2.G.cJ (A:=cN a.heap) t.bR).eP
 have Sj:=N_ (F:=s) (x:=y') t o M2.bN
 refine sj (g:=(((eQ w a).st [(D,D)] [dO (d7 B)] F).st [(x,d)] (mq (d7 B)) U).st [(y',d2)] (aE (d7 B) J L I) F4) (r:=.ah 2) Z.i6 Z.zO S.aX (a3.zQ R5 M2.G M2.bN) M2.I (.ah (d:=d2) N) λs5 a5 I5 G5=>k ([(D,D)]++[(x,d)]++[(y',d2)]) s5 ⟨Sj,F4,P4,?_,I5,G4'.kC Sj (λY h=>h) G5⟩
 rw [←S.cy]at a5
 exact a5
end
theorem aci(w:lw)(s:ce)(a:W bm)(E:W al)(C:Cr w s a E):
  ca (cr pw w) yo (po (.ref 687) [.ref 688]) (λv H=>v=.bool M∧(∀b o,s.heap.get? b=O o->H.heap.get? b=O o)∧H.os=s.os∧H.gens=#[]) (λY Y=>wn) s:=by
 have B:=afk C
 have I:ar (eQ w s).w (eQ w s).az (tI s) (.ref 688) (d7 E):=.aj (n:=0) C.aj (ach C.acq) (eR (sw ..) (io C.c_ (by decide)))
 refine yJ (Hy (g:=eQ w s) B (A:=yo) (vs:=Ab (d7 E)) (by decide) (ahz C) (QM _) (.bg I .aU) N λenv L F c ac d e=>?_)
 have Z:zS w s (yo.deeper env) env:=⟨B,F,c,(bt N (by refine (?_:yo.depth+1+450<MN);decide) (by refine (?_:yo.units+3+3*450+12<NE);decide)),λY h=>h,λnid Φ F=>y_ B.st (yh _ _) 450,λJ=>yh w J⟩
 refine eR adB (Re (afl Z C.c_ (⟨λq f=>(nomatch f),λY Y=>am,tI s,ac,d,e.ew⟩) (λD b s2 P R i=>?_) ahw))
 refine afm Z ⟨P,R⟩ i λpr pb gb U kk s3 j l m=>?_
 obtain ⟨y,py,x,x2,np,r,p,p2,pos,t,es,S⟩:=aeB afh
 exact Re (aeC Z m (λnid s4 H4=>afn Z ⟨P,R⟩ j l H4 λs5 h3 h4 h5=>(HV N h3 h4 h5)) S)
theorem acj(A:ku.wellSaid=M):ku.Holds:=acr A aci
theorem afo:Pj ku=M:=by
 delta Pj PySem.W.Fast.tw9446332074065402090 PySem.W.Fast.tw17960256430627541270 PySem.W.Fast.tw2436336058641802641 PySem.W.Fast.tw12908688711261696721
 repeat' (with_reducible refine look_both ?_ ?_)
 ·kernel_rfl
 ·kernel_rfl
 ·as_aux_lemma=>kernel_rfl
 ·kernel_rfl
 ·as_aux_lemma=>kernel_rfl
 ·as_aux_lemma=>kernel_rfl
 all_goals kernel_rfl
theorem agf:ku.wellSaid=M:=(congrFun PySem.W.Fast.te9446332074065402090 ku).trans afo
theorem QX:ku.Holds:=acj agf
end Internal
theorem PySem.Challenge.cw_nu0252_01_holds : PySem.Challenge.rw_nu0252_01.Holds :=
 Internal.QX
