import PyProof.Rows.All
import Wide.All
import OpenK.AllK
import Wide.FinOn
import Lean
import PySem.Challenge.RW_np0119_01
set_option Elab.async false
set_option genSizeOf false
set_option genInjectivity false
set_option maxRecDepth 1000000
set_option maxHeartbeats 0
set_option linter.unusedVariables false
set_option linter.unusedSimpArgs false
set_option linter.unusedSectionVars false
noncomputable section
open And renaming left->tW
open Array renaming getD_eq_getD_getElem?->uh,mk->xB,ext_getElem?->Dd,length_toList->Em,getElem?_eq_getElem->Oe,size_append->OD,size_extract->OE,perm_iff_toList_perm->OU
open Bool renaming and_eq_true_iff->gC,and_eq_true->lN,and_false->m9,or_eq_true_iff->oK,eq_iff_iff->oX,and_true->oY,false_ne_true->qS,eq_false_iff->uk,not->xQ,or_eq_false_iff->yn,noConfusion->De,or_eq_true->E0,false_or->NI,not_eq_true->Ow
open Classical renaming choose_spec->Dh,choose->Nk
open Decidable renaming em->dz,not_not->PA
open Eq renaming trans->xV,symm->DF
open Exists renaming elim->bQ
open ForInStep renaming yield->oB
open Function renaming comp_def->uy
open Int renaming le_trans->aL,le_of_lt->bZ,ofNat_le->cz,not_lt->cH,natCast_nonneg->c6,add_assoc->c7,ofNat_lt->dh,zero_add->dR,add_zero->dS,le_refl->eU,add_comm->fG,lt_of_lt_of_le->gg,add_sub_cancel->gm,lt_of_le_of_lt->gH,lt_trans->gY,not_le->i8,le_add_of_nonneg_right->jc,eq_ofNat_of_zero_le->kz,add_nonneg->lS,le_of_eq->lW,add_le_add_left->lX,toNat_le->nj,sub_add_cancel->nu,lt_irrefl->ny,toNat_natCast->oR,sub_pos_of_lt->pg,le_antisymm->ph,max_eq_right->qY,min_eq_left->t8,natCast_add->ua,toNat_of_nonneg->uz,lt_add_one_iff->uA,toNat_le_toNat->yv,sub_nonpos_of_le->yA,add_right_comm->yS,lt_iff_le_and_ne->yT,lt_min->yW,min_le_left->yX,lt_toNat->yZ,lt_succ->za,emod_nonneg->zb,emod_lt_of_pos->zg,add_left_cancel->zk,ne_of_gt->DI,natAbs_of_nonneg->DU,toNat_lt_toNat->EL,lt_add_of_pos_left->EM,add_pos_of_pos_of_nonneg->EN,le_add_of_nonneg_left->EO,zero_sub->EQ,lt_add_of_pos_right->EU,min_self->EZ,toNat_lt->NM,add_le_add->N4,neg_sub->Pt,sub_left_lt_of_lt_add->Pw,sub_lt_sub_left->PB,le_max_right->PC,lt_of_add_lt_add_right->PF,one_mul->PG
open Int.ofNat renaming inj->uv
open List renaming length_map->aG,append_assoc->aJ,mem_cons->aO,range->aT,length_append->aX,append_nil->bc,mem_append_right->bp,mem_map->bB,map_append->bK,all_eq_true->bU,mem_append->b9,replicate->cg,mem_singleton->cr,length->cu,mem_of_getElem?->cG,mem_append_left->cJ,length_range->c5,getElem?_eq_getElem->de,not_mem_nil->du,nodup_cons->dF,mem_map_of_mem->eT,perm_append_comm_assoc->eW,getElem?_map->fb,size_toArray->fg,getElem?_eq_some_iff->fF,mem_filter->gG,cons->gI,length_drop->iA,mem_range->iB,map->iF,map_map->iG,perm_middle->jb,nodup_append->kj,eq_nil_of_length_eq_zero->kA,pairwise_map->kF,take_length->kH,length_filter_le->kJ,getElem?_toArray->lK,lookup->lO,pairwise_append->lY,getElem?_range->mV,map_cons->mW,forIn_cons->mY,getElem?_append_left->oD,toArray->oQ,reverse_cons->oS,pairwise_cons->pb,filter_cons_of_neg->qL,filterMap_cons_some->qM,forIn_nil->qN,length_take_of_le->qO,map_congr_left->q7,flatten_cons->rB,flatMap_cons->rC,getElem?_eq_none->tJ,map_fst_zip->tL,zip_append->tM,isEmpty_iff->tO,take_append_drop->tP,length_set->tR,getElem?_cons_succ->tS,any_eq_true->tZ,length_take_le'->t9,filter_cons_of_pos->uw,getD_eq_getElem?_getD->xY,take_of_length_le->yc,take_nil->ye,reverse_perm->yK,length_reverse->yL,append_eq_append_iff->yV,flatMap_append->yY,length_take_le->zh,sublist_append_left->Dq,getElem?_append_right->Du,getElem_inj->DD,take->DN,reverse->DO,any->DX,push_toArray->DZ,nodup_range->Ea,getElem_of_mem->Et,pairwise_singleton->Eu,getElem_range->Ew,filterMap_cons_none->ED,flatten_append->EK,mem_erase_of_ne->ET,filter_append->EV,filter_filter->EW,filter_congr->EX,filter_sublist->EY,flatMap_nil->E2,range_succ->E3,sublist_append_right->E4,mem_cons_self->Ni,zip_nil_right->No,filter_eq_nil_iff->Np,zip->Nq,of_mem_zip->Nr,getElem?_set_ne->Nw,mem_iff_getElem?->Ny,any_cons->NH,append_toArray->NR,drop_of_length_le->NW,drop_nil->NX,map_take->N1,length_cons->N3,dropLast_eq_take->N9,range'->Od,getElem_mem->Oh,getElem?_zipIdx->Oi,all_map->Oo,mem_toArray->Os,any_toArray->Ot,map_id->Oz,length_zip->O8,map_reverse->Pi,pairwise_reverse->Pj,length_filterMap_le->Pn,isEmpty_nil->Po,nodup_nil->Pr,append_eq_nil_iff->Pu,perm_append_comm->Pv,drop_length->Px,length_erase_of_mem->Pz,filterMap_append->PD,flatMap->PE,map_id'->PH,headD->PJ,length_replicate->PK,append->PL
open List.Perm renaming of_eq->EP
open List.cons renaming inj->bt,injEq->Nj
open Nat renaming le_trans->ae,le_of_ble_eq_true->au,le_of_eq->aF,blt->aR,beq->a6,zero_le->bq,lt_of_le_of_lt->bx,lt_of_lt_of_le->bC,le_refl->cf,le_of_lt->cV,le_add_left->dy,ble->dD,add_le_add_left->eB,succ_pos->eD,lt_succ_self->eV,le_add_right->fh,add_right_comm->gX,add_comm->iZ,succ_le_succ->i9,add_le_add_right->jA,zero_add->jF,eq_of_beq_eq_true->jI,add_le_add->jK,le_succ_of_le->kD,ble_eq_true_of_le->lM,ne_of_lt->lP,sub_le->lQ,lt_of_lt_of_eq->lU,not_lt->mZ,lt_irrefl->m6,not_lt_zero->m8,lt_add_of_pos_right->nq,add_assoc->oC,le_succ->oV,le_of_lt_succ->o8,lt_trans->o9,mul_le_mul_left->pi,add_lt_add_left->qQ,beq_refl->qR,lt_of_succ_lt_succ->q6,le_antisymm->tQ,succ_ne_zero->uj,zero_lt_succ->xR,min_self->yk,add_sub_of_le->yq,not_succ_le_zero->yB,succ_add_eq_add_succ->yF,le_of_succ_le->yG,lt_succ_of_le->yH,cast->yU,add_sub_cancel->Dm,exists_eq_add_of_le->Dr,add_sub_cancel_left->Ds,lt_or_ge->Dt,min_eq_left->DM,sub_zero->D3,zero_ne_add_one->D9,lt_succ_iff_lt_or_eq->Eb,succ_ne_self->Ec,le_sub_one_of_lt->Ee,sub_one_lt_of_lt->Ef,lt_of_le_of_ne->Eh,add_lt_add_right->Ei,ne_of_gt->Ek,sub_sub_self->El,succ_le_of_lt->ES,add_left_cancel->Nt,lt_one_iff->Nu,sub_self->Nv,le_total->NU,lt_or_eq_of_le->Of,le_of_not_lt->OO,not_lt_of_le->OQ,lt_of_succ_lt->OX,mul_two->OY,min_le_right->Ph,add_lt_add_of_le_of_lt->Ps,le_zero->Py
open Nat.succ renaming inj->qX
open Ne renaming symm->cU
open Option renaming none->a8,map_eq_some_iff->bF,map->dq,ite_none_right_eq_some->dA,any_eq_true->eC,bind->jJ,isSome_iff_exists->oU,getD->o7,bind_eq_some_iff->ue,isSome->ym,isNone_iff_eq_none->Dp
open Option.some renaming inj->av,injEq->agw
open Prod renaming fst->lR,snd->o0,ext->tK
open Prod.mk renaming inj->t6,injEq->xH
open PyProof.Rows renaming seqObj->bL,IsTup->cq,listUpdate_at->q9,bubble->rm,get?_update_seq->un,slot_tuple_getitem->ya,listItems_at->yt,callWith_kw->yN,kws_cons->yO,callWith_type1->DW,wpAny_release'->D5,SortKind->Ep,keyKind'->Er,failedOf->Ex,seqEpoch_at->Ey,ksk_end->Ez,kws_nil->EE,Attribute_any_->NJ,wpAny_operate'->NP,slicePart_none->NZ,tupleItemsOf_->N0,callWith_builtin1->N5,plain_sorted->Pb,entry_sorted->Pc,slot_list_sort->Pd,entry_list_sort->Pe,args_sorted1->Pf,args_list_sort->Pg,evalArgs_none->agD
open PySem renaming Shared->ah,wpAny_bind->aj,wpAny->ao,Expr->aB,Params->aD,wpAny_pure->aE,World->bb,Around->bj,Program->ck,Scope->cC,cLine->cK,Arguments->dC,mainGlobals->dE,wpAny_holding->dH,Thread->eA,Fin->fH,wpAny_mono->gh,rawInt->gE,Builtin->iz,starEach->iC,sizeLine->iD,wpAny_field->iE,treeTable->iX,wpAny_truthy_bool->i4,backTo->i5,valueAt->i6,OsState->jw,builtinsNs->jz,model->jB,wpAny_standAt->jC,getItem->jE,importedModules->ki,Keyword->km,intKind->kq,wpAny_items_cons->kr,wpAny_Call_Name_kw->kx,wpAny_isSame_plain->kC,assign->kE,pyNext->lV,Model->mX,wpAny_call_entry->m7,stored->ng,wpAny_rule->nh,Const->oF,CmpOp->oG,isTrue->oJ,wpAny_items_nil->oM,Result->oN,codeAny->oO,wpAny_newObj_type->oT,field->o6,GenState->qH,Drawn->qI,wpAny_call->qT,call_meets->qU,IsPart->qV,wpAny_callSpecial?_slot->qW,setItem->q8,closureFor->rh,seqItems?->tN,behindInMarks->tY,slicePick->t7,wpAny_of_eq->ub,typeOf->uc,richCompare->ud,assignEach->uf,foldedSetIterable->ug,execs->uo,swappedStores->uq,Operator->xS,constantsAlone->xT,foldedForSure->xU,recursionLimit->xW,wpAny_Constant_int->xX,sizeLine_eq->xZ,seqIndex?->x9,callWith->yb,eqBool->yj,slot_list_setitem->yp,wpAny_attempt->yz,compPost->yC,newList->yD,wpAny_newList->yE,argsOk->yJ,bindL->yP,bindC->yQ,mem_of_lookup->yR,bindArgs->Do,UnaryOp->Dv,Comprehension->Dw,holding->Dy,bootBuiltins->Dz,wpAny_UnaryOp->DA,compareOp->DB,spliced->DG,operate->DJ,evalPart->DK,wpAny_sequenceKey->DR,wpAny_typeOf->DS,evalPart_some->DT,getMethod_builtin->DY,wpAny_listPart->D4,wpAny_isInstance->D6,isSubtype_stop->D7,letOwnedTupleGo->D8,wpAny_execs_nil->EB,swapsWith->EC,makeFunction->EG,cellsFrom->EH,importedNames->Nn,wpAny_Constant_none->NA,wpAny_Constant_bool->NC,wpAny_allTrue_And_cons->NE,wpAny_allTrue_Or_cons->NF,arm_isTrue_BoolOp->NG,arm_eval_Attribute->NK,wpAny_specialOf->NL,slot_list_getitem->NN,arm_eval_Subscript->NO,wpAny_letTemporaryGo->NQ,call_list_seq->N2,methodCallForm->N6,methodCallPos->N7,list_append->Oc,wpAny_cRoomFor->Ol,wpAny_loadPart_at->Om,wpAny_ite_split->Oq,wpAny_loadPart->Oy,entry_list_setitem->OA,args_list_setitem->OC,arm_assign_Subscript->OF,assignInOrder->OG,firstArgMember->OH,slot_listiter_next->OI,wpAny_seqItems->OJ,wpAny_setField->OK,comprehension->OS,wpAny_lt_int->O0,wpAny_loadPart'->O2,wpAny_newFunctionEnv_cells->Pp
open PySem.Builtin.List renaming listSubscript?->D2,listTooLong->NT,listItems->O',listUpdate->Pa,listFitsIndex->agz,listAllItems->agJ
open PySem.Builtin.Slice renaming sliceAdjust->DQ,sliceApplied->NY,sliceFields->agA,slicePlaces->agB
open PySem.Builtin.Tuple renaming tupleExact->yh,tupleCompareSizes->O3,tupleItemsOf->agC
open PySem.Calls renaming Name_function_global->ND,callWith_builtin->N8
open PySem.Challenge renaming rw_np0119_01->Dj,pw_np0119_01->agv
open PySem.F renaming cmp_object->oW,slot_int_rmul->NS,slot_list_append->N',entry_list_append->Oa,args_list_append_2->Ob,slot_tuple_index->Og,slot_NoneType_eq->Oj,slot_tuple_iterator_next->OL,slot_range_iterator_next->OM
open PySem.Heap renaming get?_push_of_some->dG,SameBut->gF,get?_push_size->jD,get?_none_of_le->ku,mk->lL,get?_update_ne->oH,ExtBut->oZ,lt_size->yx,get?_update_self->D1,get?->Nc
open PySem.Heap.IsSliceOf renaming new->DP
open PySem.Heap.SameBut renaming update->jG
open PySem.NameKind renaming free->rg,cell->rj
open PySem.Obj renaming mapSeq->ja,cls->yo,data->Ou
open PySem.Str renaming ofString->am,empty->gW
open PySem.Value renaming ref->jH,none->kB,str->yi,int->DV,bool->O5
open PySem.Value.ref renaming inj->q5
open PySem.Value.type renaming inj->qZ
open PySem.W renaming look_both->bJ,OpenLaw->dw,katRev->fj,findIn->gb,tabObj->gc,alive->iW,boot_heap->iY,instObj->jx,dictOf->jy,handedIn->oL,WData->pe,boot_o_0->qJ,boot_o_4->qK,kla_obj->rA,keepIn->tT,kitOne->tU,specialIn->tV,TopRead->tX,WellAll->ut,behindTheImports->xz,topFrame->xA,boot_drawn->xD,boot_toks->xE,topStub->xF,topRun->xG,piece_app->xJ,staticsOk->xK,namesBound->xL,gensDone->xM,laidKept->xN,noRoadLSs->xO,namesMeet->xP,CFound->yl,kat_len->yM,openSeen->Df,openGood->Dg,topFrom->Di,cThrough->Dk,looksOpen->Dl,takesIn->Dx,lookIn_dict->DE,kas_rev->Ed,kas_tail3->Eg,kas_place->Ej,methodObj->EF,fencedOpening->Nl,builtinNamed->Nm,putName_dict->Ox
open PySem.W.KasT renaming kasWp_bind->ui
open PySem.W.WData renaming int->iH
open StateT renaming run->yI
namespace Mine
open PySem PySem.W PyProof.Rows
theorem agX{α:Sort u}{β:Sort v}{a b:α}(f:α->β)(h:a=b):f a=f b:=congrArg f h
theorem agY{p:Prop}[Decidable p](h:decide p):p:=of_decide_eq_true h
theorem ag0{α:Sort u}{a:α}:a=a:=rfl
theorem agZ{p:Prop}[Decidable p](h:p):decide p=true:=decide_eq_true h
variable{f:Nat->Obj}{g:Obj->Obj}{a m:Nat}{o:Obj}{den:Code->Sem Fin}{w:bb}{t:eA}{kn old new:List (Nat×Obj)}{X:Prop}{b:Bool}{q ann:Option Value}{s:ah}
noncomputable def bG(f:Nat->Obj)(n:Nat)(life:Life):Heap:=⟨((aT n).map f).toArray,life⟩
theorem lZ(f:Nat->Obj)(n:Nat)(life:Life)(a:Nat):(bG f n life).objs[a]? = if a<n then some (f a) else none:=by
 unfold bG;rw [lK,fb]
 by_cases h:a<n
 ·rw [mV h,if_pos h];rfl
 ·rw [tJ (by rw [c5];omega),if_neg h];rfl
theorem E5(f:Nat->Obj)(n:Nat)(life:Life):(bG f n life).objs.size=n:=by unfold bG;rw [fg,aG,c5]
theorem rD{g:Nat->Obj}{n:Nat}{life:Life}(h:∀i,i<n->f i=g i):bG f n life=bG g n life:=by
 have:(bG f n life).objs=(bG g n life).objs:=by
  apply Dd;intro i;rw [lZ,lZ]
  by_cases hi:i<n
  ·rw [if_pos hi,if_pos hi,h i hi]
  ·rw [if_neg hi,if_neg hi]
 show lL _ _=lL _ _;exact agX (lL · life) this
theorem PM{n:Nat}{life:Life}:(bG f n life).update a g=bG (λi=>if i=a then g (f i) else f i) n life:=by
 have:((bG f n life).objs.modify a g)=(bG (λi=>if i=a then g (f i) else f i) n life).objs:=by
  apply Dd;intro i;rw [Array.getElem?_modify,lZ,lZ]
  by_cases h:i<n
  ·by_cases e:i=a
   ·subst e;simp [h]
   ·simp [h,e,cU e]
  ·by_cases e:i=a
   ·subst e;simp [h]
   ·simp [h]
 show lL _ _=lL _ _;exact agX (lL · life) this
theorem PN{n:Nat}{life:Life}:(bG f n life).push o=bG (λi=>if i=n then o else f i) (n+1) life:=by
 have:((bG f n life).objs.push o)=(bG (λi=>if i=n then o else f i) (n+1) life).objs:=by
  apply Dd;intro i;rw [Array.getElem?_push,lZ,lZ,E5]
  by_cases e:i=n
  ·subst e;simp
  ·by_cases h:i<n
   ·have:i<n+1:=by omega
    simp [h,e,this]
   ·have:¬i<n+1:=by omega
    simp [h,e,this]
 show lL _ _=lL _ _;exact agX (lL · life) this
theorem pj{n:Nat}{life:Life}(h:a<n):(bG f n life).get? a=iW (f a):=by
 unfold Nc;rw [lZ,if_pos h];show (match some (f a) with|some ⟨_,_,.freed,_⟩=>none|o=>o)=iW (f a);cases f a with
 |mk c d dt sl=>cases dt<;>rfl
theorem PP{n:Nat}{life:Life}(h:¬a<n):(bG f n life).get? a=none:=by unfold Nc;rw [lZ,if_neg h]
noncomputable def look:List (Nat×Obj)->Nat->Option Obj
 | [],_=>none
 |(b,o)::r,a=>match a6 a b with
  |true=>some o
  |false=>look r a
noncomputable def put:List (Nat×Obj)->Nat->(Obj->Obj)->List (Nat×Obj)
 | [],_,_=>[]
 |(b,o)::r,a,f=>match a6 a b with
  |true=>(b,f o)::r
  |false=>(b,o)::put r a f
def over(f:Nat->Obj)(kn:List (Nat×Obj))(i:Nat):Obj:=(look kn i).getD<|f i
theorem pq(b:Nat)(o:Obj)(r:List (Nat×Obj))(a:Nat):look ((b,o)::r) a=if a=b then some o else look r a:=by
 show (match a6 a b with|true=>some o|false=>look r a)=_;rw [BT.beq_eq]
 by_cases h:a=b<;>simp [h]
theorem PQ(b:Nat)(o:Obj)(r:List (Nat×Obj))(a:Nat)(f:Obj->Obj):put ((b,o)::r) a f=if a=b then (b,f o)::r else (b,o)::put r a f:=by
 show (match a6 a b with|true=>(b,f o)::r|false=>(b,o)::put r a f)=_;rw [BT.beq_eq]
 by_cases h:a=b<;>simp [h]
theorem E6(f:Obj->Obj):∀(kn:List (Nat×Obj)) (a i:Nat),look (put kn a f) i=if i=a then (look kn a).map f else look kn i
 | [],a,i=>by show look [] i=_;simp [look]
 |(b,o)::r,a,i=>by
  rw [PQ,pq b o r a,pq b o r i]
  by_cases ha:a=b
  ·subst ha;rw [if_pos ag0,if_pos ag0,pq]
   by_cases hi:i=a
   ·simp [hi]
   ·simp [hi]
  ·rw [if_neg ha,if_neg ha,pq,E6 f r a i]
   by_cases hi:i=b
   ·subst hi;simp [cU ha]
   ·simp [hi]
structure ST where
 m:Nat
 old:List (Nat×Obj)
 new:List (Nat×Obj)
 n:Nat
 gens:Array qH
 drawn:qI
 toks:Nat
def bH(m:Nat)(f:Nat->Obj)(old new:List (Nat×Obj))(i:Nat):Obj:=match aR i m with
 |true=>over f old i
 |false=>over f new i
def nz(m:Nat)(old new:List (Nat×Obj))(a:Nat):Option Obj:=match aR a m with
 |true=>look old a
 |false=>look new a
def ST.abs(f:Nat->Obj)(life:Life)(os:jw)(s:ST):ah:=⟨bG (bH s.m f s.old s.new) s.n life,s.gens,s.drawn,s.toks,os⟩
noncomputable def E7:Step->Option eA
 | .go _ t=>some t
 | .halt _ _=>none
noncomputable def E8:List Frame->Bool
 | .gen _ _ _ _ _::_=>true
 |_=>false
def plain(stack:List Frame):Sem Fin->Bool
 | .pure _=> !E8 stack
 | .raise _=> !E8 stack
 | .rule _ _=>true
 | .at _ _=>true
 | .point _ _=>true
 | .ask _=>true
 | .call _ _ _ _ _=>true
 | .handled _ _=>true
 | .stack _=>true
 |_=>false
def same(den:Code->Sem Fin)(p:ck)(w:bb)(s:ST)(t:eA):Option (ST×eA):=bif plain t.stack t.cur then (E7<|step den p w ⟨{},s.gens,s.drawn,s.toks,{}⟩ t).map λt'=>(s,t') else none
def E9(s:ST)(a:Nat)(t:eA)(k:Obj->Sem Fin):Option (ST×eA):=bif aR a s.n then (nz s.m s.old s.new a).bind λo=>(iW o).bind λo'=>some (s,⟨k o',t.code,t.pos,t.stack⟩) else none
def Fa(s:ST)(a:Nat)(t:eA)(f:Obj->Obj)(k:Sem Fin):Option (ST×eA):=bif aR a s.n then (nz s.m s.old s.new a).bind λo=>(iW o).bind λ_=>some (bif aR a s.m then ⟨s.m,put s.old a f,s.new,s.n,s.gens,s.drawn,s.toks⟩ else ⟨s.m,s.old,put s.new a f,s.n,s.gens,s.drawn,s.toks⟩,⟨k,t.code,t.pos,t.stack⟩) else none
noncomputable def zm(s:ST)(o:Obj)(t:eA)(k:Sem Fin):Option (ST×eA):=bif aR s.n s.m then none else some (⟨s.m,s.old,(s.n,o)::s.new,s.n+1,s.gens,s.drawn,s.toks⟩,⟨k,t.code,t.pos,t.stack⟩)
def zn(s:ST)(a:Nat)(t:eA)(k:Option Obj->Sem Fin):Option (ST×eA):=bif aR a s.n then (nz s.m s.old s.new a).bind λo=>some (s,⟨k<|iW o,t.code,t.pos,t.stack⟩) else some (s,⟨k none,t.code,t.pos,t.stack⟩)
def zp(den:Code->Sem Fin)(p:ck)(w:bb)(s:ST)(t:eA):Option (ST×eA):=match t.cur with
 | .load a _ k=>E9 s a t k
 | .update a _ f k=>Fa s a t f<|k ()
 | .alloc o k=>zm s o t<|k s.n
 | .loadIfAlive a k=>zn s a t k
 | .fresh k=>some (⟨s.m,s.old,s.new,s.n,s.gens,s.drawn,s.toks+1⟩,⟨k s.toks,t.code,t.pos,t.stack⟩)
 |_=>same den p w s t
section
variable{p:ck}{life:Life}{os:jw}{s s':ST}{t':eA}
theorem uB(h:look kn a=some o):over f (put kn a g)=λi=>if i=a then g (over f kn i) else over f kn i:=by
 funext i
 unfold over;rw [E6]
 by_cases e:i=a
 ·subst e;simp [h]
 ·simp [e]
theorem Fb{n:Nat}:over f ((n,o)::kn)=λi=>if i=n then o else over f kn i:=by
 funext i
 unfold over;rw [pq]
 by_cases e:i=n<;>simp [e]
theorem blt_eq(a b:Nat):aR a b=decide (a<b):=by
 by_cases h:a<b
 ·rw [agZ h];exact lM h
 ·rw [decide_eq_false h];cases q:aR a b with
  |false=>rfl
  |true=>exact absurd (au q) h
theorem dT(m:Nat)(f:Nat->Obj)(old new:List (Nat×Obj))(i:Nat):bH m f old new i=if i<m then over f old i else over f new i:=by
 unfold bH;rw [blt_eq]
 by_cases h:i<m<;>simp [h]
theorem zq(h:nz m old new a=some o):bH m f old new a=o:=by
 unfold nz at h;rw [dT];rw [blt_eq] at h
 by_cases q:a<m
 ·rw [if_pos q];simp only [q,decide_true] at h;unfold over;rw [h];rfl
 ·rw [if_neg q];simp only [q,decide_false] at h;unfold over;rw [h];rfl
def cL(den:Code->Sem Fin)(p:ck)(w:bb)(f:Nat->Obj)(life:Life)(os:jw)(s:ST)(t:eA)(s':ST)(t':eA):Prop:=step den p w (s.abs f life os) t= .go (s'.abs f life os) t'
theorem pz{α:Type}{x:Option α}{y:α}(h:(bif b then x else none)=some y)(g:b->x=some y->X):X:=by
 cases b with
 |true=>exact g ag0 h
 |false=>exact nomatch h
theorem pA{α β:Type}{o:Option α}{f:α->Option β}{y:β}(h:o.bind f=some y)(g:∀a,o=some a->f a=some y->X):X:=by
 cases o with
 |none=>exact nomatch h
 |some a=>exact g a ag0 h
theorem fk{α β:Type}{a a':α}{b b':β}(h:some (a,b)=some (a',b')){P:α->β->Prop}(k:P a b):P a' b':=by cases h;exact k
theorem nA{α:Type}{a:α}(h:none=some a):X:=nomatch h
theorem Fc{o:Outcome}{s:ah}:E7 (finish o s)=none:=by
 unfold finish
 split<;>rfl
theorem PS(h:same den p w s t=some (s',t')):cL den p w f life os s t s' t':=by
 obtain ⟨cur,code,pos,stack⟩:=t;cases cur with
 |pure g=>
  cases g with
  |again c=>exact pz h λ_ h=>fk (P:=cL den p w f life os s _) h ag0
  |done g=>
   cases stack with
   |nil=>exact pz h λ_ h=>nA<|(agX (dq λt'=>(s,t')) Fc).symm.trans h
   |cons fr r=>
    cases fr with
    |ret=>exact fk (P:=cL den p w f life os s _) h ag0
    |gen=>exact nA h
 |raise e=>
  cases stack with
  |nil=>exact pz h λ_ h=>nA<|(agX (dq λt'=>(s,t')) Fc).symm.trans h
  |cons fr r=>
   cases fr with
   |ret=>exact fk (P:=cL den p w f life os s _) h ag0
   |gen=>exact nA h
 |rule=>exact fk (P:=cL den p w f life os s _) h ag0
 |«at»=>exact fk (P:=cL den p w f life os s _) h ag0
 |point=>exact fk (P:=cL den p w f life os s _) h ag0
 |ask=>exact fk (P:=cL den p w f life os s _) h ag0
 |call=>exact fk (P:=cL den p w f life os s _) h ag0
 |handled=>exact fk (P:=cL den p w f life os s _) h ag0
 |stack=>exact fk (P:=cL den p w f life os s _) h ag0
 |_=>exact nA h
theorem uC{n:Nat}(e:aR a n=false):¬a<n:=λq=>De (e.symm.trans<|lM q)
theorem go_eq{gens:Array qH}{drawn:qI}{toks n:Nat}{g g':Nat->Obj}(h:∀i,g i=g' i):Step.go ⟨bG g n life,gens,drawn,toks,os⟩ t= .go ⟨bG g' n life,gens,drawn,toks,os⟩ t:=agX (λhp=>Step.go ⟨hp,gens,drawn,toks,os⟩ t)<|rD λi _=>h i
theorem PU{k:Obj->Sem Fin}(e0:t.cur= .load a q k)(h:E9 s a t k=some (s',t')):cL den p w f life os s t s' t':=pz h λe h=>pA h λo g h=>pA h λo' al h=>fk (P:=cL den p w f life os s t) h (by obtain ⟨cur,code,pos,stack⟩:=t;cases e0;have e1:(bG (bH s.m f s.old s.new) s.n life).get? a=some o':=(pj (au e)).trans ((agX iW (zq g)).trans al);unfold cL ST.abs;simp only [step,e1])
theorem PW{k:Unit->Sem Fin}(e0:t.cur= .update a q g k)(h:Fa s a t g (k ())=some (s',t')):cL den p w f life os s t s' t':=pz h λe h=>pA h λo g1 h=>pA h λo' al h=>fk (P:=cL den p w f life os s t) h (by
 obtain ⟨cur,code,pos,stack⟩:=t;cases e0;have e1:(bG (bH s.m f s.old s.new) s.n life).get? a=some o':=(pj (au e)).trans ((agX iW (zq g1)).trans al);have key:step den p w (s.abs f life os) ⟨.update a q g k,code,pos,stack⟩= .go ⟨bG (λi=>if i=a then g (bH s.m f s.old s.new i) else bH s.m f s.old s.new i) s.n life,s.gens,s.drawn,s.toks,os⟩ ⟨k (),code,pos,stack⟩:=by rw [<- PM];unfold ST.abs;simp only [step,e1,Option.isSome_some,if_true]
 refine key.trans ?_;cases z:aR a s.m with
 |true=>
  have g':look s.old a=some o:=by unfold nz at g1;rw [z] at g1;exact g1
  refine go_eq (g':=bH s.m f (put s.old a g) s.new) λi=> ?_
  by_cases hi:i=a
  ·refine (if_pos hi).trans ?_;subst hi;have z':i<s.m:=au z;rw [dT,dT,if_pos z',if_pos z',uB g'];exact (if_pos ag0).symm
  ·refine (if_neg hi).trans ?_;rw [dT,dT,uB g'];exact agX (λx=>if i<s.m then x else over f s.new i) (if_neg hi).symm
 |false=>
  have g':look s.new a=some o:=by unfold nz at g1;rw [z] at g1;exact g1
  refine go_eq (g':=bH s.m f s.old<|put s.new a g) λi=> ?_
  by_cases hi:i=a
  ·refine (if_pos hi).trans ?_;subst hi;rw [dT,dT,if_neg<|uC z,if_neg<|uC z,uB g'];exact (if_pos ag0).symm
  ·refine (if_neg hi).trans ?_;rw [dT,dT,uB g'];exact agX (λx=>if i<s.m then over f s.old i else x) (if_neg hi).symm)
theorem PX{k:Nat->Sem Fin}(e0:t.cur= .alloc o k)(h:zm s o t (k s.n)=some (s',t')):cL den p w f life os s t s' t':=by
 unfold zm at h;cases z:aR s.n s.m with
 |true=>rw [z] at h;exact nA h
 |false=>
  rw [z] at h;refine fk (P:=cL den p w f life os s t) h ?_;obtain ⟨cur,code,pos,stack⟩:=t;cases e0;have key:step den p w (s.abs f life os) ⟨.alloc o k,code,pos,stack⟩= .go ⟨bG (λi=>if i=s.n then o else bH s.m f s.old s.new i) (s.n+1) life,s.gens,s.drawn,s.toks,os⟩ ⟨k s.n,code,pos,stack⟩:=by rw [<- PN];unfold ST.abs;simp only [step,E5]
  refine key.trans<|go_eq (g':=bH s.m f s.old ((s.n,o)::s.new)) λi=> ?_
  by_cases hi:i=s.n
  ·refine (if_pos hi).trans ?_;rw [dT,if_neg<|hi▸uC z,Fb];exact (if_pos hi).symm
  ·refine (if_neg hi).trans ?_;rw [dT,dT,Fb];exact agX (λx=>if i<s.m then over f s.old i else x) (if_neg hi).symm
theorem PY{k:Option Obj->Sem Fin}(e0:t.cur= .loadIfAlive a k)(h:zn s a t k=some (s',t')):cL den p w f life os s t s' t':=by
 have fin:∀o,(bG (bH s.m f s.old s.new) s.n life).get? a=o->cL den p w f life os s t s ⟨k o,t.code,t.pos,t.stack⟩:=λo e1=>by obtain ⟨cur,code,pos,stack⟩:=t;cases e0;unfold cL ST.abs;simp only [step,e1]
 unfold zn at h;cases e:aR a s.n with
 |false=>rw [e] at h;exact fk (P:=cL den p w f life os s t) h<|fin _ (PP<|uC e)
 |true=>rw [e] at h;exact pA h λo g h=>fk (P:=cL den p w f life os s t) h (fin _<|(pj<|au e).trans (agX iW<|zq g))
theorem PZ(h:zp den p w s t=some (s',t')):step den p w (s.abs f life os) t= .go (s'.abs f life os) t':=by
 have sm:same den p w s t=some (s',t')->step den p w (s.abs f life os) t= .go (s'.abs f life os) t':=λh=>PS h;unfold zp at h;cases e:t.cur with
 |load a q k=>rw [e] at h;exact PU e h
 |update a q g k=>rw [e] at h;exact PW e h
 |alloc o k=>rw [e] at h;exact PX e h
 |loadIfAlive a k=>rw [e] at h;exact PY e h
 |fresh k=>
  rw [e] at h;refine fk (P:=cL den p w f life os s t) h ?_;obtain ⟨cur,code,pos,stack⟩:=t;cases e
  rfl
 |_=>rw [e] at h;exact sm h
end
def uD(tb:String->Option iz)(p:ck)(w:bb)(n₀:Nat)(ann:Option Value)(b:Nat):Nat->ST->eA->Option (Flow×ST×Code×Pos)
 |0,_,_=>none
 |n+1,s,t=>match endAt b t with
  |some f=>some (f,s,t.code,t.pos)
  |none=>bif stepOk n₀ ann t then (zp (denote tb) p w s t).bind λr=>uD tb p w n₀ ann b n r.1 r.2 else none
def zt(tb:String->Option iz)(p:ck)(w:bb)(n₀:Nat)(ann:Option Value)(b:Nat)(fo:Nat->Obj)(life:Life)(os:jw)(n:Nat)(s:ST)(t:eA)(f:Flow)(r:ST×Code×Pos):Prop:=segRun tb p w n₀ ann b n (s.abs fo life os) t=some (f,r.1.abs fo life os,r.2)
theorem rE{tb:String->Option iz}{p:ck}{n₀:Nat}{b:Nat}{fo:Nat->Obj}{life:Life}{os:jw}:∀{n:Nat} {s s':ST} {t:eA} {f:Flow} {c:Code} {q:Pos},
 uD tb p w n₀ ann b n s t=some (f,s',c,q)->zt tb p w n₀ ann b fo life os n s t f (s',c,q)
 |0,_,_,_,_,_,_,h=>nA h
 |n+1,s,s',t,f,c,q,h=>by
  unfold uD at h;unfold zt segRun;cases he:endAt b t with
  |some x=>rw [he] at h;exact fk (P:=λf r=>some (x,s.abs fo life os,t.code,t.pos)=some (f,r.1.abs fo life os,r.2)) h ag0
  |none=>rw [he] at h;exact pz h λhk h=>pA h λr hs h=>by rw [hk,PZ (f:=fo) (life:=life) (os:=os) hs];exact rE h
abbrev pw:=agv
noncomputable def ge(P:aD)(x:Str)(t:Tok)(v:Value):DictEntry:=⟨PyData.keyHash P x,.str x t,v⟩
noncomputable def rF(es:List DictEntry)(n:Nat):Obj:=⟨.type "dict",none,.dict es.toArray n, #[]⟩
noncomputable def pB(ps:List Value):Obj:=⟨.none,none,.fields ps.toArray, #[]⟩
noncomputable def rG:List (Nat×Nat×Nat)->List Value
 | []=>[]
 |(a,b,c)::r=>.int a 0:: .int b 0:: .ref c::rG r
noncomputable def pC:Obj:=⟨.type "code",none,.fields #[.str (am "<module>") 182,.str (am "<module>") 183,.str (am "/claim/cut.py") 184,.int 1 0,.int 0 0,.int 0 0,.int 0 0,.int 0 0,.ref 11,.bool false,.int 181 0,.ref 12,.none,.none,.none,.none,.int 185 0,.int 1 0,.str (am "/claim/cut.py") 186], #[]⟩
def g8(P:aD):List DictEntry:=[ge P (am "__doc__") 166 .none,ge P (am "__package__") 167 .none,ge P (am "__loader__") 168<|.builtin "__main__.__loader__#opaque",ge P (am "__spec__") 169 .none,ge P (am "__annotations__") 170<|.ref 6,ge P (am "__builtins__") 171<|.ref 4,ge P (am "__file__") 173<|.str (am "/claim/cut.py") 172,ge P (am "__cached__") 174 .none]
def g0(P:aD):Obj:=rF (ge P (am "__name__") 165 (.str (am "__main__") 164)::g8 P) 9
def pD:Env:={scope:=pw.main.scope,locals:=mainNs,globals:=mainNs,cells:=[],code:=.ref 13,frame:=some 14}
def gZ:Code:=.body (xz pw) pD
noncomputable def z0:Pos:=⟨0,0,0,0⟩
noncomputable def dI(i n:Nat):List Stmt:=(pw.main.body.drop i).take n
noncomputable def Fd:Stmt->dC×List Stmt×cC
 | .FunctionDef _ a b _ _ _ s _ _ _=>(a,b,s)
 |_=>(default,[],default)
noncomputable def P0:Stmt->List Stmt
 | .ClassDef _ _ _ b _ _ _ _ _ _ _=>b
 |_=>[]
def rH:List Stmt->Nat->Stmt
 | [],_=>.Pass z0
 |s::r,i=>match i with
  |0=>s
  |j+1=>rH r j
def top(i:Nat):dC×List Stmt×cC:=Fd<|rH pw.main.body i
def l7(i j:Nat):dC×List Stmt×cC:=Fd<|rH (P0<|rH pw.main.body i) j
noncomputable def uE(d:dC×List Stmt×cC)(name qual:Str)(dV pm cd:Value):Obj:=
 ⟨.type "function",none,.func {name:=name,qualname:=qual,params:=d.1,body:=.stmts d.2.1,scope:=d.2.2,globals:=3,closure:=[],defaults:=dV,kwdefaults:=.none,pyModule:=pm,code:=cd}, #[]⟩
abbrev jd:=Nat×(dC×List Stmt×cC)×Str×Str×Value×Value×Nat×Nat
noncomputable def md(x:String)(t:Nat):Value:=.str (am x) t
def ts(M:Value)(l:List (Nat×Nat×String×Nat×Nat)):List jd:=l.map λp=>(p.2.1,top p.1,am p.2.2.1,am p.2.2.1,.none,M,p.2.2.2.1,p.2.2.2.2)
abbrev jL:=Nat×Nat×String×Value×Nat×Nat×Nat×Nat×List Value×Bool×List (Nat×Nat×String×Nat×Nat)
noncomputable def dvA(a:Nat):Value:=([(873,.ref 866),(930,.ref 923),(1301,.ref 1294)].lookup a).getD .none
def ms(c:jL):List jd:=c.2.2.2.2.2.2.2.2.2.2.map λp=>(p.2.1,l7 c.2.1 p.1,am p.2.2.1,am c.2.2.1++(am "."++am p.2.2.1),dvA p.2.1,c.2.2.2.1,p.2.2.2.1,p.2.2.2.2)
def rk(r:jd):Nat×Obj:=(r.1,uE r.2.1 r.2.2.1 r.2.2.2.1 r.2.2.2.2.1 r.2.2.2.2.2.1 (.ref<|r.1-1))
noncomputable def rc(r:jd):Nat×Value:=(r.1-1,.str r.2.2.2.1 r.2.2.2.2.2.2.1)
def iI(P:aD)(r:jd):DictEntry:=ge P r.2.2.1 r.2.2.2.2.2.2.2<|.ref r.1
def jM(P:aD)(c:jL):DictEntry:=ge P (am c.2.2.1) c.2.2.2.2.2.2.2.1<|.ref c.1
def uF(a:Nat)(c:jL):List (Nat×Value):=(a,.str (am c.2.2.1)<|c.2.2.2.2.1-4)::(ms c).map rc
def uG(P:aD)(c:jL)(tail:List DictEntry)(n:Nat):Nat×Obj:=(c.1-1,⟨.type "dict",none,.dict (ge P (am "__module__") c.2.2.2.2.1 c.2.2.2.1::ge P (am "__firstlineno__") (c.2.2.2.2.1+4) (.int c.2.2.2.2.2.1<|c.2.2.2.2.1+3)::((ms c).map (iI P)++(ge P (am "__static_attributes__") c.2.2.2.2.2.2.1 (.ref<|c.1-2)::tail))).toArray n, #[]⟩)
def uH(P:aD)(c:jL):List (Nat×Obj):=bif c.2.2.2.2.2.2.2.2.2.1 then
 [uG P c [ge P (am "__dict__") (c.2.2.2.2.2.2.1+2) (.ref<|c.1+1),ge P (am "__weakref__") (c.2.2.2.2.2.2.1+4) (.ref<|c.1+2),ge P (am "__doc__") (c.2.2.2.2.2.2.1+5) .none] 4,
  (c.1,⟨.type "type",none,.cls {name:=am c.2.2.1,bases:=[.type "object"],mro:=[.ref c.1,.type "object"],ns:=c.1-1,qualname:=am c.2.2.1,subclasses:=c.2.2.2.2.2.2.2.2.1}, #[none,none,some (md c.2.2.1<|c.2.2.2.2.1-7),some (md c.2.2.1<|c.2.2.2.2.1+1),some<|.builtin "object.__new__",some<|.bool true]⟩)] else []
def P1:Value:=md "__main__" 164
def zw:Value:=md "emacs.intervals" 194
def zy:Value:=md "emacs.overlaytree" 466
def P3:Value:=md "emacs.overlaygaps" 724
def P4:Value:=md "emacs.plists" 762
def md5:Value:=md "emacs.proprules" 820
def zz:Value:=md "emacs.overlays" 878
def P5:Value:=md "emacs.propchanges" 1087
def Fe:Value:=md "emacs.textprops" 1101
def Ff:Value:=md "emacs.charprops" 1254
def P6:Value:=md "emacs.bufferprops" 1372
def Fg:Value:=md "emacs.objects" 1400
def P7:Value:=md "emacs.views" 1475
def uI:Value:=md "emacs.bufferview" 1567
def P8:Value:=md "emacs.gap" 1769
def P9:Value:=md "emacs.markers" 1888
def Qb:Value:=md "emacs.buffer" 1984
def Qc:Value:=md "emacs.errors" 2123
def Fh:Value:=md "emacs.editing" 2156
def Qd:Value:=md "emacs.plainlisp" 2236
def Qe:Value:=md "law_np0119_01" 2335
def Fi(P:aD):List (Nat×Obj):=[(3,g0 P),(12,pB []),(13,pC),(0,qJ P),(4,qK P),(2,⟨.none,none,.dict #[] 0, #[]⟩)]
abbrev View:=Flow×Code×Pos×Nat×List (Nat×Obj)×Nat×Array qH×qI×Nat×List (Option Obj)×List (Option Value)
noncomputable def fJ:Option Obj->Option Value
 |some ⟨_,_,.fields vs,_⟩=>vs[1]?
 |_=>none
def pE(as cs:List Nat):Option (Flow×ST×Code×Pos)->Option View
 |some (f,s,c,q)=>some (f,c,q,s.m,s.old,s.n,s.gens,s.drawn,s.toks,as.map<|look s.new,cs.map λa=>fJ<|look s.new a)
 |none=>none
def pF:List jd:=ts P1 [(0,21,"_wall",188,193)]++(ts zw [(4,70,"total_of",261,266),(5,77,"own_length",268,273),(6,84,"text_length",275,280),(7,91,"put_in_stead",282,290),(8,98,"set_left",292,298),(9,105,"set_right",300,306),(10,112,"rotate_right",308,316),(11,119,"rotate_left",318,326),(12,126,"right_turn_helps",328,335),(13,133,"left_turn_helps",337,344),(14,140,"settle",346,356),(15,147,"settle_up",358,364),(16,154,"add_above",366,372),(17,161,"find_interval",374,384),(18,168,"leftmost",386,391),(19,175,"rightmost",393,398),(20,182,"following",400,405),(21,189,"preceding",407,412),(22,196,"put_behind",414,421),(23,203,"put_ahead",423,431),(24,210,"split_at",433,442),(25,217,"drop_interval",444,454),(26,224,"insert_interval",456,465)]++(ts zy [(30,273,"hand_down",541,547),(31,280,"hand_down_to",549,556),(32,287,"greatest_end",558,565),(33,294,"renew_limits",567,573),(34,301,"hang",575,583),(35,308,"turn_left",585,592),(36,315,"turn_right",594,601),(37,322,"is_red",603,608),(38,329,"colour_inserted",610,620),(39,336,"turned_inward",622,630),(40,343,"put_node",632,641),(41,350,"first_below",643,648),(42,357,"take_place",650,658),(43,364,"drop_node",660,671),(44,371,"colour_dropped",673,681),(45,378,"sibling_of",683,689),(46,385,"turn_towards",691,698),(47,392,"lightened",700,711),(48,399,"nodes_between",713,723)]))
def pG:List jL:=[(38,2,"Interval",zw,203,5,222,229,[],true,[(0,35,"__init__",209,216)]),(59,3,"IntervalTree",zw,237,13,252,259,[],true,[(0,56,"__init__",243,250)]),(241,28,"OverlayNode",zy,475,179,503,510,[],true,[(0,238,"__init__",481,491)]),(262,29,"OverlayTree",zy,518,193,532,539,[],true,[(0,259,"__init__",524,529)])]
def uJ(P:aD):List DictEntry:=(pF.take 1).map (iI P)++((pG.take 2).map (jM P)++(((pF.drop 1).take 23).map (iI P)++((pG.drop 2).map (jM P)++((pF.drop 24).map<|iI P))))
noncomputable def uK:List (Nat×Nat×Nat):=[(1,0,20),(5,0,27),(13,0,48),(17,0,69),(19,0,76),(21,0,83),(23,0,90),(33,0,97),(37,0,104),(41,0,111),(50,0,118),(59,0,125),(65,0,132),(71,0,139),(85,0,146),(88,0,153),(92,0,160),(105,0,167),(109,0,174),(113,0,181),(119,0,188),(125,0,195),(133,0,202),(141,0,209),(150,0,216),(166,0,223),(179,0,230),(193,0,251),(198,0,272),(208,0,279),(215,0,286),(221,0,293),(228,0,300),(237,0,307),(249,0,314),(261,0,321),(263,0,328),(283,0,335),(292,0,342),(319,0,349),(325,0,356),(334,0,363),(356,0,370),(365,0,377),(367,0,384),(372,0,391),(398,0,398)]
def g1(P:aD):Obj:=rF (ge P (am "__name__") 165 (.str (am "emacs.overlaytree") 466)::(g8 P++(uJ P))) 56
noncomputable def s1(P:aD):Obj:=⟨.none,none,.dict #[] 0, #[]⟩
def pH(P:aD):List (Nat×Obj):=[(3,g1 P),(12,pB (rG<|uK)),(13,pC),(0,qJ P),(4,qK P),(2,s1 P)]
noncomputable def n1:Nat:=400
noncomputable def Fj:Nat:=724
noncomputable def Fk:Pos:=⟨398,0,415,16⟩
def rI(P:aD):List (Nat×Obj):=pF.map rk++(pG.flatMap (λc=>(ms c).map rk)++pG.flatMap (uH P))
def kK:List (Nat×Value):=pF.map rc++pG.flatMap (λc=>uF (((ms c).headD default).1-8) c)
def jN:List jd:=ts P3 [(50,406,"begins_to_move",727,734),(51,413,"grows",736,743),(52,418,"open_gap",745,749),(53,425,"shift_nodes",751,761)]++(ts P4 [(55,432,"eq",765,771),(56,439,"plist_find",773,780),(57,446,"plist_get",782,789),(58,453,"plist_with",791,799),(59,460,"holds_pair",801,809),(60,467,"same_plist",811,819)]++(ts md5 [(63,502,"value_in",868,877)]++(ts zz [(67,579,"overlay_begin",984,989),(68,586,"overlay_end",991,996),(69,593,"take_out",998,1003),(70,600,"lay",1005,1013),(71,607,"made_overlay",1015,1026),(72,614,"overlay_get",1028,1035),(73,621,"overlay_put",1037,1046),(74,626,"of_nodes",1048,1052),(75,631,"overlays_at",1054,1058),(76,638,"is_in",1060,1068),(77,643,"overlays_in",1070,1074),(78,650,"next_overlay_change",1076,1086)]++(ts P5 [(80,657,"next_change",1090,1100)]++(ts Fe [(83,727,"properties_at",1187,1193),(84,734,"range_nodes",1195,1205),(85,741,"join_at",1207,1217),(86,748,"join_range",1219,1230),(87,755,"put_property",1232,1243),(88,762,"text_inserted",1245,1253)]++(ts Ff [(90,769,"priority_of",1257,1266),(91,776,"rank",1268,1276),(93,811,"sorted_overlays",1315,1321),(94,818,"char_property_from",1323,1334),(95,825,"char_property",1336,1345),(96,832,"next_char_change",1347,1357),(97,839,"next_single_char_change",1359,1371)]++(ts P6 [(99,846,"property_at",1375,1382),(100,853,"next_single",1384,1393),(101,858,"overlays_at_edges",1395,1399)])))))))
def l8:List jL:=[(491,62,"PropRules",md5,829,483,859,866,[],true,[(0,481,"__init__",835,841),(1,488,"is_nil",843,849)]),(519,65,"Overlay",zz,887,506,906,913,[],true,[(0,516,"__init__",893,901)]),(568,66,"OverlayHome",zz,921,513,975,982,[],true,[(0,537,"__init__",927,933),(1,544,"inserted",935,943),(2,551,"deleted",945,952),(3,558,"text_came",954,962),(4,565,"text_gone",964,971)]),(716,82,"TextProps",Fe,1110,592,1178,1185,[],true,[(0,671,"__init__",1116,1122),(1,678,"inserted",1124,1132),(2,685,"deleted",1134,1141),(3,692,"text_came",1143,1150),(4,699,"text_gone",1152,1159),(5,706,"rows_between",1161,1168),(6,713,"put_rows",1170,1176)]),(800,92,"Ranked",Ff,1284,676,1306,1313,[],true,[(0,790,"__init__",1290,1296),(1,797,"key",1298,1304)])]
def zA(P:aD):List DictEntry:=(jN.take 10).map (iI P)++((l8.take 1).map (jM P)++(((jN.drop 10).take 1).map (iI P)++(((l8.drop 1).take 2).map (jM P)++(((jN.drop 11).take 13).map (iI P)++(((l8.drop 3).take 1).map (jM P)++(((jN.drop 24).take 8).map (iI P)++((l8.drop 4).map (jM P)++((jN.drop 32).map<|iI P))))))))
noncomputable def zB:List (Nat×Nat×Nat):=[(417,0,405),(423,0,412),(425,0,417),(437,0,424),(455,0,431),(459,0,438),(464,0,445),(467,0,452),(472,0,459),(475,0,466),(483,0,473),(498,0,501),(506,0,508),(513,0,529),(531,0,578),(534,0,585),(537,0,592),(542,0,599),(549,0,606),(553,0,613),(555,0,620),(563,0,625),(565,0,630),(567,0,637),(571,0,642),(574,0,649),(582,0,656),(592,0,663),(614,0,726),(618,0,733),(631,0,740),(643,0,747),(651,0,754),(659,0,761),(664,0,768),(673,0,775),(676,0,782),(683,0,810),(685,0,817),(691,0,824),(693,0,831),(697,0,838),(708,0,845),(710,0,852),(713,0,857)]
def g2(P:aD):Obj:=rF (ge P (am "__name__") 165 (.str (am "emacs.objects") 1400)::(g8 P++(uJ P++zA P))) 101
noncomputable def s2(P:aD):Obj:=⟨.none,none,.dict #[] 0, #[]⟩
def nB(P:aD):List (Nat×Obj):=[(3,g2 P),(12,pB (rG<|uK++zB)),(13,pC),(0,qJ P),(4,qK P),(2,s2 P)]
noncomputable def n2:Nat:=859
noncomputable def Fm:Nat:=1402
noncomputable def Fn:Pos:=⟨716,0,716,8⟩
def rJ(P:aD):List (Nat×Obj):=jN.map rk++(l8.flatMap (λc=>(ms c).map rk)++l8.flatMap (uH P))
def kL:List (Nat×Value):=jN.map rc++l8.flatMap (λc=>uF (((ms c).headD default).1-8) c)
def uL:List jd:=ts uI [(112,1040,"symbols_of",1647,1651),(113,1047,"string_entry",1653,1665),(114,1054,"entries_at",1667,1678)]
def jO:List jL:=[(876,103,"Text",Fg,1409,717,1425,1432,[],true,[(0,873,"__init__",1415,1422)]),(911,104,"Opaque",Fg,1440,722,1467,1474,[.ref 1388],true,[(0,894,"shown",1446,1451),(1,901,"kind",1453,1458),(2,908,"same_as",1460,1466)]),(982,108,"View",P7,1488,735,1559,1566,[.ref 1123],true,[(0,930,"__init__",1495,1502),(1,937,"begin",1504,1509),(2,944,"end",1511,1516),(3,951,"code_at",1518,1524),(4,958,"faces_at",1526,1532),(5,965,"hidden_at",1534,1540),(6,972,"shown_at",1542,1548),(7,979,"strings_at",1550,1556)]),(1003,110,"ShownNames",uI,1576,762,1598,1605,[],true,[(0,1000,"__init__",1582,1592)]),(1031,111,"Hiding",uI,1613,770,1638,1645,[],true,[(0,1021,"__init__",1619,1626),(1,1028,"of_symbols",1628,1635)]),(1123,115,"BufferView",uI,1686,800,1765,1768,[],false,[(0,1068,"__init__",1692,1700),(1,1075,"begin",1702,1707),(2,1082,"end",1709,1714),(3,1089,"code_at",1716,1722),(4,1096,"rules",1724,1729),(5,1101,"faces_at",1731,1735),(6,1108,"hidden_at",1737,1745),(7,1115,"shown_at",1747,1755),(8,1120,"strings_at",1757,1761)]),(1212,117,"GapText",P8,1778,853,1880,1887,[],true,[(0,1139,"__init__",1784,1791),(1,1146,"size",1793,1798),(2,1153,"code",1800,1806),(3,1160,"codes",1808,1816),(4,1167,"move_gap",1818,1825),(5,1174,"widen_gap",1827,1834),(6,1181,"insert",1836,1843),(7,1188,"delete",1845,1852),(8,1195,"put",1854,1861),(9,1202,"narrow_gap",1863,1868),(10,1209,"is_whole",1870,1875)]),(1282,119,"Markers",P9,1897,912,1976,1983,[],true,[(0,1230,"__init__",1903,1908),(1,1237,"numbers",1910,1915),(2,1244,"put",1917,1924),(3,1251,"drop",1926,1932),(4,1258,"within",1934,1943),(5,1265,"inserted",1945,1955),(6,1272,"deleted",1957,1964),(7,1279,"replaced",1966,1974)]),(1388,121,"Buffer",Qb,1993,946,2119,2122,[],false,[(0,1301,"__init__",2000,2008),(1,1308,"shown",2010,2015),(2,1315,"kind",2017,2022),(3,1322,"begin",2024,2029),(4,1329,"end",2031,2036),(5,1336,"size",2038,2043),(6,1343,"code_at",2045,2051),(7,1350,"codes",2053,2060),(8,1357,"goto",2062,2068),(9,1364,"tick",2070,2075),(10,1371,"is_modified",2077,2082),(11,1378,"set_modified",2084,2090),(12,1385,"touch",2092,2098)]),(1407,123,"LispSignal",Qc,2132,1010,2148,2155,[],false,[(0,1404,"__init__",2138,2145)])]
def Fo(P:aD):List DictEntry:=(jO.take 2).map (jM P)++([ge P (am "SHOWN") 1478 (.int 0 1477)]++([ge P (am "HIDDEN") 1480 (.int 1 1479)]++(((jO.drop 2).take 3).map (jM P)++(uL.map (iI P)++((jO.drop 5).map<|jM P)))))
noncomputable def Fp:List (Nat×Nat×Nat):=[(717,0,864),(722,0,886),(735,0,921),(762,0,992),(770,0,1013),(781,0,1039),(785,0,1046),(792,0,1053),(800,0,1060),(853,0,1131),(912,0,1222),(946,0,1292),(1010,0,1396)]
def g3(P:aD):Obj:=rF (ge P (am "__name__") 165 (.str (am "emacs.errors") 2123)::(g8 P++(uJ P++zA P++Fo P))) 116
def s3(P:aD):Obj:=⟨.none,none,.dict #[ge P (am "type.__subclasses__.Exception.0") 2152 (.int 1407 0),ge P (am "type.__subclasses__.Exception.n") 2153<|.int 1 0] 2, #[]⟩
def l9(P:aD):List (Nat×Obj):=[(3,g3 P),(12,pB (rG<|uK++zB++Fp)),(13,pC),(0,qJ P),(4,qK P),(2,s3 P)]
noncomputable def n3:Nat:=1411
noncomputable def Fq:Nat:=2156
noncomputable def Fs:Pos:=⟨1010,0,1014,24⟩
def rK(P:aD):List (Nat×Obj):=uL.map rk++(jO.flatMap (λc=>(ms c).map rk)++(jO.flatMap (uH P)++ [
 (866,⟨.type "tuple",none,.seq #[.none] 0, #[]⟩),
 (923,⟨.type "tuple",none,.seq #[(.int 1 1493)] 0, #[]⟩),
 uG P (jO.getD 5 default) [ge P (am "__doc__") 1766 .none] 2,
 (1123,⟨(.type "type"),none,.cls {name:=(am "BufferView"),bases:=[(.ref 982)],mro:=[(.ref 1123),(.ref 982),(.type "object")],ns:=1122,qualname:=(am "BufferView")}, #[some (.ref 1055),none,some<|.str (am "BufferView") 1679,some<|.str (am "BufferView") 1687,some<|.builtin "object.__new__",some<|.bool true]⟩),
 (1294,⟨.type "tuple",none,.seq #[(.int 8 1998)] 0, #[]⟩),
 uG P (jO.getD 8 default) [ge P (am "__doc__") 2120 .none] 2,
 (1388,⟨(.type "type"),none,.cls {name:=(am "Buffer"),bases:=[(.ref 911)],mro:=[(.ref 1388),(.ref 911),(.type "object")],ns:=1387,qualname:=(am "Buffer")}, #[some (.ref 1287),none,some<|.str (am "Buffer") 1986,some<|.str (am "Buffer") 1994,some<|.builtin "object.__new__",some<|.bool true]⟩),
 uG P (jO.getD 9 default) [ge P (am "__weakref__") 2150 (.ref 1408),ge P (am "__doc__") 2151 .none] 3,
 (1407,⟨(.type "type"),none,.cls {name:=(am "LispSignal"),bases:=[(.type "Exception")],mro:=[(.ref 1407),(.type "Exception"),(.type "BaseException"),(.type "object")],ns:=1406,qualname:=(am "LispSignal")}, #[some (.ref 1391),none,some<|.str (am "LispSignal") 2125,some<|.str (am "LispSignal") 2133,some<|.builtin "Exception.__new__",some<|.bool true]⟩)]))
def kM:List (Nat×Value):=uL.map rc++ [(0,864),(1,886),(2,921),(3,992),(4,1013),(5,1060),(6,1131),(7,1222),(8,1292),(9,1396)].flatMap (λp=>uF p.2<|jO.getD p.1 default)
def rL:List jd:=ts Fh [(125,1417,"need_writable",2159,2164),(126,1424,"reached",2166,2175),(127,1431,"tell_ahead",2177,2185),(128,1438,"tell_behind",2187,2196),(129,1445,"text_in",2198,2205),(130,1452,"hung_in",2207,2215),(131,1459,"put_in",2217,2226)]++([(1467,top 132,am "insert",am "insert",.ref 1460,Fh,2228,2235)]++(ts Qe [(137,1543,"_law_pot",2338,2342),(138,1550,"_law_dip",2344,2351),(139,1557,"_law_value",2353,2360),(140,1564,"_law_rows",2362,2375),(141,1571,"_law_order",2377,2382),(142,1576,"_law_values",2384,2388),(143,1581,"_law_numbers",2390,2394),(144,1588,"_law_faces",2396,2405),(145,1595,"_law_hidden",2407,2416),(146,1600,"_law_shown",2418,2422),(147,1605,"_law_strings",2424,2428),(148,1610,"law",2430,2434)]))
def rM:List jL:=[(1534,135,"PlainLisp",Qd,2251,1059,2327,2334,[],true,[(0,1482,"__init__",2257,2263),(1,1489,"number",2265,2271),(2,1496,"symbol",2273,2279),(3,1503,"number_of",2281,2287),(4,1510,"list_of",2289,2295),(5,1517,"items",2297,2303),(6,1524,"pair",2305,2311),(7,1531,"symbol_property",2313,2322)])]
def Qf(P:aD):List DictEntry:=(rL.take 8).map (iI P)++([ge P (am "NAMES") 2243 (.ref 1468)]++(rM.map (jM P)++((rL.drop 8).map<|iI P)))
noncomputable def Qg:List (Nat×Nat×Nat):=[(1016,0,1416),(1019,0,1423),(1024,0,1430),(1027,0,1437),(1031,0,1444),(1038,0,1451),(1043,0,1458),(1055,0,1466),(1059,0,1474),(1091,0,1542),(1094,0,1549),(1101,0,1556),(1108,0,1563),(1119,0,1570),(1121,0,1575),(1125,0,1580),(1127,0,1587),(1132,0,1594),(1137,0,1599),(1147,0,1604),(1156,0,1609)]
def g4(P:aD):Obj:=rF (ge P (am "__name__") 165 (.str (am "law_np0119_01") 2335)::(g8 P++(uJ P++zA P++Fo P++Qf P))) 138
def s4(P:aD):Obj:=⟨.none,none,.dict #[ge P (am "type.__subclasses__.Exception.0") 2152 (.int 1407 0),ge P (am "type.__subclasses__.Exception.n") 2153<|.int 1 0] 2, #[]⟩
def iJ(P:aD):List (Nat×Obj):=[(3,g4 P),(12,pB (rG<|uK++zB++Fp++Qg)),(13,pC),(0,qJ P),(4,qK P),(2,s4 P)]
noncomputable def n4:Nat:=1611
noncomputable def kN:Nat:=2435
noncomputable def Ft:Pos:=⟨1156,0,1186,15⟩
def rN(P:aD):List (Nat×Obj):=rL.map rk++(rM.flatMap (λc=>(ms c).map rk)++(rM.flatMap (uH P)++ [
 (1460,⟨.type "tuple",none,.seq #[(.bool false)] 0, #[]⟩),
 (1468,⟨.type "tuple",none,.seq #[(.str (am "category") 2238),(.str (am "front-sticky") 2239),(.str (am "rear-nonsticky") 2240),(.str (am "evaporate") 2241),(.str (am "priority") 2242)] 0, #[]⟩),
 (1602,⟨.none,none,.fields #[], #[]⟩),
 (1604,⟨(.type "code"),none,.fields #[(.str (am "_law_strings") 2423),(.str (am "_law_strings") 2424),(.str (am "/claim/cut.py") 2425),(.int 1147 0),(.int 2 0),(.int 0 0),(.int 0 0),(.int 3 0),(.ref 1601),(.bool true),(.int 181 0),(.ref 1602),.none,.none,.none,(.ref 1603),(.int 2426 0),(.int 1147 0),(.str (am "/claim/cut.py") 2427)], #[]⟩),
 (1607,⟨.none,none,.fields #[], #[]⟩),
 (1609,⟨(.type "code"),none,.fields #[(.str (am "law") 2429),(.str (am "law") 2430),(.str (am "/claim/cut.py") 2431),(.int 1156 0),(.int 1 0),(.int 0 0),(.int 0 0),(.int 3 0),(.ref 1606),(.bool true),(.int 181 0),(.ref 1607),.none,.none,.none,(.ref 1608),(.int 2432 0),(.int 1156 0),(.str (am "/claim/cut.py") 2433)], #[]⟩)]))
def kP:List (Nat×Value):=rL.map rc++rM.flatMap (λc=>uF (((ms c).headD default).1-8) c)
def Fu:List jd:=pF++(jN++(uL++rL))
def crA:List jL:=pG++(l8++(jO++rM))
def zC:List jd:=Fu++crA.flatMap ms
def runG(p:ck)(w:bb)(fuel m:Nat)(old:List (Nat×Obj))(tk:Nat)(body:List Stmt)(e:Env)(c:Code)(ps:Pos):Option (Flow×ST×Code×Pos):=
 uD iX p w 11 (some<|.ref 6) 1 fuel ⟨m,old,[],m, #[],{},tk⟩ (piecesOf body e c ps [xA z0])
lay_quick Mine.runG
def zD(w:bb):Option (Flow×ST×Code×Pos):=runG pw w 2270 15 (Fi w.params) 187 (dI 0 49) pD gZ z0
theorem Qh(w:bb):pE ((rI w.params).map (·.1)) (kK.map (·.1)) (zD w)=some (.next,gZ,Fk,15,pH w.params,n1, #[],{},Fj,(rI w.params).map λp=>some p.2,kK.map λp=>some p.2):=by
 unfold zD;rw [Fast.te12184768622420727928]
 kernel_rfl
def zE(w:bb):Option (Flow×ST×Code×Pos):=runG pw w 2865 n1 (pH w.params) Fj (dI 49 54) pD gZ Fk
theorem Qi(w:bb):pE ((rJ w.params).map (·.1)) (kL.map (·.1)) (zE w)=some (.next,gZ,Fn,n1,nB w.params,n2, #[],{},Fm,(rJ w.params).map λp=>some p.2,kL.map λp=>some p.2):=by
 unfold zE;rw [Fast.te12184768622420727928]
 kernel_rfl
def zF(w:bb):Option (Flow×ST×Code×Pos):=runG pw w 3992 n2 (nB w.params) Fm (dI 103 21) pD gZ Fn
theorem Qj(w:bb):pE ((rK w.params).map (·.1)) (kM.map (·.1)) (zF w)=some (.next,gZ,Fs,n2,l9 w.params,n3, #[],{},Fq,(rK w.params).map λp=>some p.2,kM.map λp=>some p.2):=by
 unfold zF;rw [Fast.te12184768622420727928]
 kernel_rfl
def zG(w:bb):Option (Flow×ST×Code×Pos):=runG pw w 1100 n3 (l9 w.params) Fq (dI 124 25) pD gZ Fs
theorem Qk(w:bb):pE ((rN w.params).map (·.1)) (kP.map (·.1)) (zG w)=some (.next,gZ,Ft,n3,iJ w.params,n4, #[],{},kN,(rN w.params).map λp=>some p.2,kP.map λp=>some p.2):=by
 unfold zG;rw [Fast.te12184768622420727928]
 kernel_rfl
abbrev wd:Option Value:=some<|.ref 6
noncomputable def fm(P:aD):Life:=(iY P).life
noncomputable def Fv:Obj:=⟨.type "tuple",none,.seq #[] 0, #[]⟩
def Fx:Obj:=⟨.type "frame",none,.plain, #[some (.ref 13),some<|.ref 3,some<|.ref 3,none,some<|.str (am "__main__") 164,none,some<|.ref 0]⟩
def Fy(P:aD):List Obj:=[qJ P,boot_o_1 P,boot_o_2 P,boot_o_3 P,qK P,boot_o_5 P,boot_o_6 P,boot_o_7 P,boot_o_8 P,boot_o_9 P,boot_o_10 P,Fv,pB [],pC,Fx]
def hA(P:aD):Heap:=⟨(Fy P).toArray,fm P⟩
theorem pre:∀w:bb,(λos=>topGo iX pw w 11 wd 12 ⟨iY w.params,xB [],xD,xE,os⟩<|xF pw)=
 λos=>some (⟨hA w.params, #[],{},187,os⟩,⟨denote iX gZ,gZ,z0,[xA z0]⟩):=λw=>by kernel_rfl
theorem Ql:∀w:bb,(λos=>segRun iX pw w 11 wd 1 1 ⟨hA w.params, #[],{},187,os⟩<|blockOf (xz pw) pD gZ z0 [xA z0])=
 λos=>some (.next,⟨hA w.params, #[],{},187,os⟩,gZ,z0):=λw=>by kernel_rfl
theorem fin(h:Heap)(w:bb):(λos=>xG iX pw w 11 wd 2 ⟨h, #[],{},kN,os⟩ ⟨doneF .next,gZ,Ft,[xA z0]⟩)=λos=>some ⟨h, #[],{},kN,os⟩:=by kernel_rfl
theorem whole:xz pw=dI 0 49++(dI 49 54++(dI 103 21++(dI 124 25++ []))):=by kernel_rfl
def F0(P:aD)(i:Nat):Obj:=((Fy P)[i]?).getD default
variable{tk:Nat}{q:Pos}{c:Code}{f:Flow}{r:Option (Flow×ST×Code×Pos)}
theorem uM{as cs:List Nat}{n:Nat}{g:Array qH}{d:qI}{l1:List (Option Obj)}{l2:List (Option Value)}(h:pE as cs r=some (f,c,q,m,old,n,g,d,tk,l1,l2)):
 ∃new,r=some (f,⟨m,old,new,n,g,d,tk⟩,c,q)/\as.map (look new)=l1/\cs.map (λa=>fJ<|look new a)=l2:=by
 match r,h with
 |some (f',⟨m',old',new',n',g',d',tk'⟩,c',q'),h=>simp only [pE,agw,xH] at h;obtain ⟨rfl,rfl,rfl,rfl,rfl,rfl,rfl,rfl,rfl,h1,h2⟩:=h;exact ⟨new',rfl,h1,h2⟩
 |none,h=>cases h
variable{i:Nat}{l:List (Nat×Obj)}
theorem uN(h:look l i=some o):(i,o)∈l:=by
 induction l with
 |nil=>exact absurd h (by simp [look])
 |cons q r ih=>
  obtain ⟨b,x⟩:=q;rw [pq] at h
  by_cases e:i=b
  ·rw [if_pos e] at h;obtain rfl:=av h;rw [e];exact Ni ..
  ·rw [if_neg e] at h;exact List.mem_cons_of_mem _ (ih h)
variable{F:Nat->Obj}
theorem rebase{n:Nat}(h:∀p∈old,p.1<m):∀i,i<n->bH n (bH m F old new) old [] i=bH m F old new i:=by
 intro i hi;rw [dT,if_pos hi];unfold over;cases e:look old i with
 |none=>rfl
 |some o=>have hm:=h _<|uN e;show o=bH m F old new i;rw [dT,if_pos hm];unfold over;rw [e];rfl
theorem jP(hi:i<m)(hn:look old i=none):bH m F old new i=F i:=by rw [dT,if_pos hi];unfold over;rw [hn];rfl
theorem Qm(hi:i<m)(hn:look old i=some o):bH m F old new i=o:=by rw [dT,if_pos hi];unfold over;rw [hn];rfl
theorem uO(hi:¬i<m)(hn:look new i=some o):bH m F old new i=o:=by rw [dT,if_neg hi];unfold over;rw [hn];rfl
variable{ko:List (Nat×Obj)}
theorem rO(h:(ko.map (·.1)).map (look new)=ko.map (λp=>some p.2)):∀p∈ko,look new p.1=some p.2:=by
 induction ko with
 |nil=>intro p hp;exact absurd hp du
 |cons q r ih=>
  simp only [mW,Nj] at h;intro p hp;rcases aO.mp hp with e|hp
  ·rw [e];exact h.1
  ·exact ih h.2 p hp
variable{co:List (Nat×Value)}
theorem uP(h:(co.map (·.1)).map (λa=>fJ<|look new a)=co.map (λp=>some p.2)):∀p∈co,fJ (look new p.1)=some p.2:=by
 induction co with
 |nil=>intro p hp;exact absurd hp du
 |cons q r ih=>
  simp only [mW,Nj] at h;intro p hp;rcases aO.mp hp with e|hp
  ·rw [e];exact h.1
  ·exact ih h.2 p hp
noncomputable def gJ:List Nat:=[3,12,13,0,4,2]
theorem uQ(l:List (Nat×Obj))(m:Nat)(h:l.map (·.1)=gJ)(hm:15<=m):∀p∈l,p.1<m:=by
 intro p hp;have:p.1∈gJ:=h▸eT hp;simp only [gJ,aO,du,or_false] at this
 omega
theorem pI(l:List (Nat×Obj))(i:Nat)(h:l.map (·.1)=gJ)(hi:15<=i):look l i=none:=by
 cases e:look l i with
 |none=>rfl
 |some o=>
  have:i∈gJ:=h▸eT (f:=(·.1)) (uN e);simp only [gJ,aO,du,or_false] at this
  omega
structure Ends(w:bb)(F:Nat->Obj):Prop where
 olds:∀p∈iJ w.params,F p.1=p.2
 k1:∀p∈rI w.params,F p.1=p.2
 k2:∀p∈rJ w.params,F p.1=p.2
 k3:∀p∈rK w.params,F p.1=p.2
 k4:∀p∈rN w.params,F p.1=p.2
 c1:∀p∈kK,fJ (some (F p.1))=some p.2
 c2:∀p∈kL,fJ (some (F p.1))=some p.2
 c3:∀p∈kM,fJ (some (F p.1))=some p.2
 c4:∀p∈kP,fJ (some (F p.1))=some p.2
 low:∀i,i<15->i∉gJ->F i=F0 w.params i
variable{v:Value}{o:Option Obj}
theorem uR(h:fJ o=some v):fJ (some (o.getD<|F i))=some v:=by
 cases o with
 |none=>cases h
 |some x=>exact h
noncomputable def within(a b:Nat):List Nat->Bool
 | []=>true
 |i::r=>dD a i&&aR i b&&within a b r
variable{l:List Nat}{b:Nat}
theorem ma(h:within a b l):∀i∈l,a<=i/\i<b:=by
 induction l with
 |nil=>intro p hp;exact absurd hp du
 |cons j r ih=>
  unfold within at h;simp only [lN] at h;intro i hi;rcases aO.mp hi with e|hi
  ·rw [e];exact ⟨au h.1.1,au h.1.2⟩
  ·exact ih h.2 i hi
theorem Qn(P:aD):within 15 n1 ((rI P).map (·.1)):=by kernel_rfl
theorem Qo(P:aD):within n1 n2 ((rJ P).map (·.1)):=by kernel_rfl
theorem Qp(P:aD):within n2 n3 ((rK P).map (·.1)):=by kernel_rfl
theorem Qq(P:aD):within n3 n4 ((rN P).map (·.1)):=by kernel_rfl
theorem Qr:within 15 n1 (kK.map (·.1)):=by kernel_rfl
theorem Qs:within n1 n2 (kL.map (·.1)):=by kernel_rfl
theorem Qt:within n2 n3 (kM.map (·.1)):=by kernel_rfl
theorem Qu:within n3 n4 (kP.map (·.1)):=by kernel_rfl
theorem Qv(P:aD):(pH P).map (·.1)=gJ:=by kernel_rfl
theorem Qw(P:aD):(nB P).map (·.1)=gJ:=by kernel_rfl
theorem Qx(P:aD):(l9 P).map (·.1)=gJ:=by kernel_rfl
theorem Qy(P:aD):(iJ P).map (·.1)=gJ:=by kernel_rfl
theorem Qz(P:aD):((iJ P).map (·.1)).map (look<|iJ P)=(iJ P).map (λp=>some p.2):=by kernel_rfl
theorem QA(P:aD):bG (bH 15 (F0 P) (Fi P) []) 15 (fm P)=hA P:=by kernel_rfl
theorem zH(w:bb):∃F:Nat->Obj,Ends w F/\∃M,dD M 30000/\∀os,xG iX pw w 11 wd M ⟨iY w.params,xB [],xD,xE,os⟩ (xF pw)=some ⟨bG F n4<|fm w.params, #[],{},kN,os⟩:=by
 have h1:=Qh w;have h2:=Qi w;have h3:=Qj w;have h4:=Qk w;obtain ⟨nw1,r1,v1,u1⟩:=uM h1;obtain ⟨nw2,r2,v2,u2⟩:=uM h2;obtain ⟨nw3,r3,v3,u3⟩:=uM h3;obtain ⟨nw4,r4,v4,u4⟩:=uM h4;clear h1 h2 h3 h4;unfold zD runG at r1;unfold zE runG at r2;unfold zF runG at r3;unfold zG runG at r4;have K1:=Qv w.params;have K2:=Qw w.params;have K3:=Qx w.params;have K4:=Qy w.params
 let F1:=bH 15 (F0 w.params) (pH w.params) nw1
 let F2:=bH n1 F1 (nB w.params) nw2
 let F3:=bH n2 F2 (l9 w.params) nw3
 let F4:=bH n3 F3 (iJ w.params) nw4
 have l1:15<=n1:=by decide
 have l2:n1<=n2:=by decide
 have l3:n2<=n3:=by decide
 have l4:n3<=n4:=by decide
 have up1:∀i,15<=i->i<n1->F4 i=F1 i:=λi a b=>by show bH n3 F3 (iJ w.params) nw4 i=_;rw [jP (by omega) (pI _ _ K4 a)];show bH n2 F2 (l9 w.params) nw3 i=_;rw [jP (by omega) (pI _ _ K3 a)];exact jP b<|pI _ _ K2 a
 have up2:∀i,15<=i->i<n2->F4 i=F2 i:=λi a b=>by show bH n3 F3 (iJ w.params) nw4 i=_;rw [jP (by omega) (pI _ _ K4 a)];exact jP b<|pI _ _ K3 a
 have up3:∀i,15<=i->i<n3->F4 i=F3 i:=λi a b=>jP b<|pI _ _ K4 a;refine ⟨F4,⟨?_, ?_, ?_, ?_, ?_, ?_, ?_, ?_, ?_, ?_⟩, ?_⟩
 ·intro p hp;have hl:=uQ _ n3 K4 (by decide) p hp;exact Qm hl (rO (Qz w.params) p hp)
 ·intro p hp;have h:=ma (Qn w.params) p.1 (eT hp);rw [up1 _ h.1 h.2];exact uO (by omega) (rO v1 p hp)
 ·intro p hp;have h:=ma (Qo w.params) p.1 (eT hp);rw [up2 _ (by omega) h.2];exact uO (by omega) (rO v2 p hp)
 ·intro p hp;have h:=ma (Qp w.params) p.1 (eT hp);rw [up3 _ (by omega) h.2];exact uO (by omega) (rO v3 p hp)
 ·intro p hp;have h:=ma (Qq w.params) p.1 (eT hp);exact uO (by omega) (rO v4 p hp)
 ·intro p hp;have h:=ma Qr p.1 (eT hp);rw [up1 _ h.1 h.2];show fJ (some (bH 15 (F0 w.params) (pH w.params) nw1 p.1))=_;rw [dT,if_neg (by omega)];exact uR (uP u1 p hp)
 ·intro p hp;have h:=ma Qs p.1 (eT hp);rw [up2 _ (by omega) h.2];show fJ (some (bH n1 F1 (nB w.params) nw2 p.1))=_;rw [dT,if_neg (by omega)];exact uR (uP u2 p hp)
 ·intro p hp;have h:=ma Qt p.1 (eT hp);rw [up3 _ (by omega) h.2];show fJ (some (bH n2 F2 (l9 w.params) nw3 p.1))=_;rw [dT,if_neg (by omega)];exact uR (uP u3 p hp)
 ·intro p hp;have h:=ma Qu p.1 (eT hp);show fJ (some (bH n3 F3 (iJ w.params) nw4 p.1))=_;rw [dT,if_neg (by omega)];exact uR (uP u4 p hp)
 ·intro i hi ho
  have none_of:∀l:List (Nat×Obj),l.map (·.1)=gJ->look l i=none:=λl hl=>by
   cases e:look l i with
   |none=>rfl
   |some o=>exact absurd (hl▸eT (f:=(·.1)) (uN e)) ho
  show bH n3 F3 (iJ w.params) nw4 i=_;rw [jP (by omega) (none_of _ K4)];show bH n2 F2 (l9 w.params) nw3 i=_;rw [jP (by omega) (none_of _ K3)];show bH n1 F1 (nB w.params) nw2 i=_;rw [jP (by omega) (none_of _ K2)];exact jP hi<|none_of _ K1
 ·have e0:=QA w.params;have e1:bG (bH n1 F1 (pH w.params) []) n1 (fm w.params)=bG F1 n1 (fm w.params):=rD (rebase (uQ _ _ K1 (by decide)));have e2:bG (bH n2 F2 (nB w.params) []) n2 (fm w.params)=bG F2 n2 (fm w.params):=rD (rebase (uQ _ _ K2 (by decide)));have e3:bG (bH n3 F3 (l9 w.params) []) n3 (fm w.params)=bG F3 n3 (fm w.params):=rD (rebase (uQ _ _ K3 (by decide)));have a1:=λos=>rE (fo:=F0 w.params) (life:=fm w.params) (os:=os) r1;have a2:=λos=>rE (fo:=F1) (life:=fm w.params) (os:=os) r2;have a3:=λos=>rE (fo:=F2) (life:=fm w.params) (os:=os) r3;have a4:=λos=>rE (fo:=F3) (life:=fm w.params) (os:=os) r4;simp only [zt,ST.abs] at a1 a2 a3 a4;rw [e0] at a1;rw [e1] at a2;rw [e2] at a3;rw [e3] at a4;have t4:=λos=>xJ (a4 os) (piece_nil (congrFun (fin (bG F4 n4 (fm w.params)) w) os));have t3:=λos=>xJ (a3 os) (t4 os);have t2:=λos=>xJ (a2 os) (t3 os);have t1:=λos=>xJ (a1 os) (t2 os);have t0:=λos=>piece_block (congrFun (Ql w) os) (by rw [whole];exact t1 os);have t:=λos=>go_top (congrFun (pre w) os) (t0 os);exact ⟨12+(1+(2270+(2865+(3992+(1100+2))))),by decide,t⟩
noncomputable def qv:ck:=view pw [148]
noncomputable def kQ:List Str:=pw.boundNames.filter λn=> !(n == am "law")
def zI(P:aD):List (Nat×Obj):=[(1,boot_o_1 P),(5,boot_o_5 P),(6,boot_o_6 P),(7,boot_o_7 P),(8,boot_o_8 P),(9,boot_o_9 P),(10,boot_o_10 P),(11,Fv),(14,Fx)]
def KN(P:aD):List (Nat×Obj):=iJ P++(zI P++(rN P++(rK P++(rJ P++rI P))))
def HK(P:aD)(G:Nat->Obj):Heap:=bG (λi=>(look (KN P) i).getD<|G i) n4<|fm P
def lkA(p:ck)(h0 h1:Heap)(os:jw):Bool:=xK (ki p.main.body) h0 h1&&xL p h1&&xM ⟨h1, #[],{},kN,os⟩&&xN h0 h1
def lkB(q:ck)(l:List Str)(ms:List Str)(s:ah):=Df q l ms (λ_=>true) true s
noncomputable def lkC:=Dg
lay_quick Mine.lkA Mine.lkB Mine.lkC
theorem QB(w:bb)(G:Nat->Obj)(os:jw):lkA pw (iY w.params) (HK w.params G) os:=by rw [Fast.te17117224564436901190];kernel_rfl
theorem QC(w:bb)(G:Nat->Obj)(os:jw):lkB qv kQ (ki pw.main.body) ⟨HK w.params G, #[],{},kN,os⟩=lkC qv kQ:=by rw [Fast.te14893852068241788865,Fast.te8922988679337047446];kernel_rfl
noncomputable def Fw(w:bb):Nat->Obj:=Nk<|zH w
theorem rP(w:bb):Ends w (Fw w):=(Dh<|zH w).1
theorem QD(w:bb):∃M,dD M 30000/\∀os,xG iX pw w 11 wd M ⟨iY w.params,xB [],xD,xE,os⟩ (xF pw)=some ⟨bG (Fw w) n4<|fm w.params, #[],{},kN,os⟩:=(Dh<|zH w).2
def H1(w:bb):Heap:=bG (Fw w) n4<|fm w.params
theorem QE(P:aD):∀p∈zI P,p.1<15/\p.1∉gJ/\F0 P p.1=p.2:=by
 rintro ⟨a,b⟩ hp
 simp only [zI,aO,du,or_false,xH] at hp;rcases hp with ⟨rfl,rfl⟩|⟨rfl,rfl⟩|⟨rfl,rfl⟩|⟨rfl,rfl⟩|⟨rfl,rfl⟩|⟨rfl,rfl⟩|⟨rfl,rfl⟩|⟨rfl,rfl⟩|⟨rfl,rfl⟩<;>exact ⟨au rfl,by simp [gJ],by kernel_rfl⟩
theorem told(w:bb):∀p∈KN w.params,Fw w p.1=p.2:=by
 intro p hp;have E:=rP w;unfold KN at hp;rcases b9.mp hp with h|h
 ·exact E.olds p h
 rcases b9.mp h with h|h
 ·obtain ⟨a,b,c⟩:=QE w.params p h;exact (E.low p.1 a b).trans c
 rcases b9.mp h with h|h
 ·exact E.k4 p h
 rcases b9.mp h with h|h
 ·exact E.k3 p h
 rcases b9.mp h with h|h
 ·exact E.k2 p h
 ·exact E.k1 p h
theorem Fz(w:bb):H1 w=HK w.params (Fw w):=by
 unfold H1 HK;apply rD;intro i _;cases e:look (KN w.params) i with
 |none=>rfl
 |some o=>exact told w _<|uN e
theorem QF:opening pw=plainProg pw.main.scope.names:=by kernel_rfl
theorem QG(s:ah):fenceModules? pw s=some s:=by kernel_rfl
theorem QH(w:bb):((iY w.params).isNs dE,(iY w.params).objs.size,(iY w.params).nsMap dE "__annotations__")=(true,11,wd):=by kernel_rfl
variable{Xt:ah->Bool}
theorem QI{p q:ck}{loose:List Str}{N m₀ k₀ k₁:Nat}{d₀ d₁:qI}{gs₀ gs₁:Array qH}{H₀ H₁:bb->Heap}(op:∀w:bb,(Nl iX p w N).map (λs=>(s.heap,s.gens,s.drawn,s.toks))=some (H₀ w,gs₀,d₀,k₀))(hg:gs₀.size=0)(size:∀w:bb,((H₀ w).isNs dE,(H₀ w).objs.size,(H₀ w).nsMap dE "__annotations__")=(true,m₀,ann))(run:∀w:bb,∃M,dD M N/\∀os,xG iX p w m₀ ann M ⟨H₀ w,gs₀,d₀,k₀,os⟩ (xF p)=some ⟨H₁ w,gs₁,d₁,k₁,os⟩)(l1:∀w os,(xK (ki p.main.body) (H₀ w) (H₁ w)&&xL p (H₁ w)&&xM ⟨H₁ w,gs₁,d₁,k₁,os⟩&&xN (H₀ w) (H₁ w)))(l2:∀w os,Df q loose (ki p.main.body) Xt true ⟨H₁ w,gs₁,d₁,k₁,os⟩=Dg q loose):LeftO p q loose Xt (λs=>s.heap) H₁ N:=λw=>by
 obtain ⟨⟨h,gs,d,k,os⟩,e,e'⟩:=bF.mp (op w);simp only [xH] at e';obtain ⟨rfl,rfl,rfl,rfl⟩:=e';have z:=size w;simp only [xH] at z;obtain ⟨z1,z2,z3⟩:=z;obtain ⟨M,le,rn⟩:=run w;have r:=topRun_mono (N-M) _ _ _ _ (rn os);rw [show M+(N-M)=N by have:=au le;omega] at r;have l1:=l1 w os;have t:Di iX p w N ⟨H₀ w,gs,d,k,os⟩=some ⟨H₁ w,gs₁,d₁,k₁,os⟩:=by unfold Di;dsimp only;rw [z1,z2,z3,r,hg];show (match xK (ki p.main.body) (H₀ w) (H₁ w)&&xL p (H₁ w)&&xM ⟨H₁ w,gs₁,d₁,k₁,os⟩&&xN (H₀ w) (H₁ w) with|true=>_|false=>_)=_;rw [l1]
 unfold openEnds;rw [e];show (Di iX p w N _).map _=_;rw [t];exact agX some (tK (l2 w os) ag0)
theorem QJ(w:bb)(os:jw):(xK (ki pw.main.body) (iY w.params) (H1 w)&&xL pw (H1 w)&&xM ⟨H1 w, #[],{},kN,os⟩&&xN (iY w.params) (H1 w)):=by have l1:=QB w (Fw w) os;unfold lkA at l1;rw [<- Fz] at l1;exact l1
theorem QK(w:bb)(os:jw):Df qv kQ (ki pw.main.body) (λ_=>true) true ⟨H1 w, #[],{},kN,os⟩=Dg qv kQ:=by have l2:=QC w (Fw w) os;unfold lkB lkC at l2;rw [<- Fz] at l2;exact l2
theorem QL(w:bb):(Nl iX pw w 30000).map (λs=>(s.heap,s.gens,s.drawn,s.toks))=some (iY w.params,xB [],xD,xE):=boot_open QF (by decide) QG w
theorem left:LeftO pw qv kQ (λ_=>true) (λs=>s.heap) H1 30000:=
 QI (H₀:=λw=>iY w.params) QL ag0 QH QD QJ QK
abbrev eG:OpenRow:=Dj.row
def QM:Stmt->Pos
 | .FunctionDef _ _ _ _ _ _ _ _ _ p=>p
 |_=>z0
def nF:DefRec:={name:=am "law",params:=(top 148).1,body:=(top 148).2.1,scope:=(top 148).2.2,pos:=QM<|rH pw.main.body 148}
theorem zJ:defOf qv eG.name=some (nF,[]):=by kernel_rfl
theorem hp:eG.prog.theDef eG.name=some (nF.params,nF.body,nF.scope):=by kernel_rfl
theorem hk:kwWritten? nF.params.kwonlyargs nF.params.kw_defaults=some []:=by kernel_rfl
theorem QN:(chainsOk qv&&opensWell eG.prog&&(frees eG.toRowW&&eG.toRowW.within.isEmpty)):=by kernel_rfl
abbrev nG(w:bb)(h:Heap):Prop:=∀b o,(H1 w).get? b=some o->h.get? b=some o
abbrev zK:Prop:=WalkO qv kQ (λ_ _=>True) nG eG.toRowW nF [] λf vs=>PySem.call f vs
theorem QO(k1:eG.wellSaid)(hb:eG.prog.bare)(hw:eG.toRowW.promised)(call:zK):eG.Holds:=
 holds_open (r:=eG) (q:=qv) (loose:=kQ) (Xt:=λ_=>true) (XP:=λ_ _=>True) (Yf:=λs=>s.heap) (Ya:=H1) (YP:=nG) (N:=30000)
  left (λw s e b o h=>by rw [e];exact h) (λw h h' y k b o e=>k b o<|y b o e) (λ_ _=>trivial) (λ_ _ _ _ _=>trivial)
  zJ hp hk (λ_ _=>recFacts_nil ag0) ag0 k1 QN hb hw call
noncomputable def FA(l:dw):Bool:=decide<|l.foot<=(xz l.prog).length
noncomputable def wl1(l:dw):Bool:=l.footing.all footLine
noncomputable def wl2(l:dw):Bool:=noClassBlock l.prog l.footing
noncomputable def FB(l:dw):Bool:=l.most.all (λn=>decide<|63<=n)
noncomputable def FC(l:dw):Bool:=l.bound.all (λn=>decide<|2 ^ 63<=n)
noncomputable def wl5(l:dw):Bool:=xO {strict:=true,foot:=some l.bound',writes:=l.writes,may:=l.may} l.footing
noncomputable def wl6(l:dw):Bool:=defStands l.about l.above
noncomputable def wl7(l:dw):Bool:=l.namesIt
noncomputable def wl8(l:dw):Bool:=(["type","isinstance","issubclass","getattr","hasattr"]:List Str).all λn=>l.about != [n]
noncomputable def wl9(l:dw):Bool:=l.bound'.all (λn=> !Nm n||l.about == [n]|| !l.reads n)
noncomputable def wl10(l:dw):Bool:=(!l.writes||(l.prog.main.body.flatMap Nn).all λn=> !l.reads n)
noncomputable def wl11(l:dw):Bool:=(l.prog.main.body.flatMap Nn).all (λn=> !l.reads n||(drawsOf n l.prog.main.body).all λmn=>mn.2 !=("attrgetter":Str)&&mn.2 !=("methodcaller":Str))
noncomputable def wl12(l:dw):Bool:=xP l.prog l.footing (λsc n=>(!(["type","isinstance","issubclass","getattr","hasattr"]:List Str).contains n||sc.names.lookup n == some .globalImplicit)&&
 (l.may !=some n||sc.kind == .module||sc.names.lookup n == some .globalImplicit))
noncomputable def wl13(l:dw):Bool:=l.own.contains l.name
noncomputable def wl14(l:dw):Bool:=l.own.eraseDups.length == l.own.length
noncomputable def wl15(l:dw):Bool:=l.own.all λn=> !Nm n
noncomputable def wl16(l:dw):Bool:=xP l.prog l.above λ_ n=> !l.own.contains n
noncomputable def wl17(l:dw):Bool:=xP l.prog l.footing λsc n=>sc.kind == .module||sc.names.lookup n !=some .globalExplicit
noncomputable def wo0(p:ck):Bool:=sreFenced p.main
noncomputable def wo1(p:ck):Bool:=((moduleNames p.main.body).isEmpty||lookedIntoSs (moduleNames p.main.body) p.main.body)
noncomputable def wo2(p:ck):Bool:=namesResolve p
noncomputable def wo3(p:ck):Bool:=p.boundNames.all λn=> !worldNames.contains n
noncomputable def wo4(p:ck):Bool:=xO {strict:= !(ki p.main.body).all Dk.contains,foot:=none,bare:=(["vars","dir","locals"]:List Str).filter<|readsOut p p.main.body} p.main.body
noncomputable def rdO(p:ck)(x:Str):Bool:= !readsOut p p.main.body x
def wo4a(p:ck):Bool:=rdO p "vars"
def wo4b(p:ck):Bool:=rdO p "dir"
def wo4c(p:ck):Bool:=rdO p "locals"
noncomputable def wo4d(p:ck):Bool:=xO {strict:= !(ki p.main.body).all Dk.contains,foot:=none,bare:=[]} p.main.body
variable{l:List Str}{a:Str}{f:Str->Bool}
theorem fil_c(h:(!f a))(k:l.filter f= []):(a::l).filter f= []:=by rw [qL (by rw [Bool.not_eq_true']at h;rw [h];decide),k]
theorem wo4_of{p:ck}(h1:wo4a p)(h2:wo4b p)(h3:wo4c p)(h4:wo4d p):wo4 p:=
 (agX (λl=>xO {strict:= !(ki p.main.body).all Dk.contains,foot:=none,bare:=l} p.main.body)<|fil_c h1 (fil_c h2<|fil_c h3 ag0)).trans h4
noncomputable def wo5(p:ck):Bool:=xP p p.main.body λ_ n=>attrL n
noncomputable def wr1(l:dw):Bool:=l.row.prog.boundNames.contains l.row.name
noncomputable def wr2(l:dw):Bool:= !startupNames.contains l.row.name
noncomputable def twA(p:ck):Bool:=p.tablesWhole
lay_quick Mine.wl1 Mine.wl2 Mine.wl5 Mine.wl6 Mine.wl7 Mine.wl8 Mine.wl9 Mine.wl10 Mine.wl11 Mine.wl12 Mine.wl13 Mine.wl14 Mine.wl15 Mine.wl16 Mine.wl17 Mine.wo0 Mine.wo1 Mine.wo2 Mine.wo3 Mine.wo4a Mine.wo4b Mine.wo4c Mine.wo4d Mine.wo5 Mine.wr1 Mine.wr2 Mine.twA
abbrev rl:dw:=Dj
theorem QP:FA rl:=by kernel_rfl
theorem QQ:wl1 (rl):=(congrFun Fast.te15944679267144286686<|rl).trans<|by kernel_rfl
theorem QR:wl2 (rl):=(congrFun Fast.te18102010416871866950<|rl).trans<|by kernel_rfl
theorem QS:FB rl:=by kernel_rfl
theorem QT:FC rl:=by kernel_rfl
theorem QU:wl5 (rl):=(congrFun Fast.te5795134821187236666<|rl).trans<|by kernel_rfl
theorem QV:wl6 (rl):=(congrFun Fast.te12750548047858743217<|rl).trans<|by kernel_rfl
theorem QW:wl7 (rl):=(congrFun Fast.te4839841088211550549<|rl).trans<|by kernel_rfl
theorem QX:wl8 (rl):=(congrFun Fast.te561981074350916578<|rl).trans<|by kernel_rfl
theorem QY:wl9 (rl):=(congrFun Fast.te13298990681996205226<|rl).trans<|by kernel_rfl
theorem QZ:wl10 (rl):=(congrFun Fast.te9047539717123533738<|rl).trans<|by kernel_rfl
theorem Q0:wl11 (rl):=(congrFun Fast.te12239576629043324071<|rl).trans<|by kernel_rfl
theorem Q1:wl12 (rl):=(congrFun Fast.te15760723585558012177<|rl).trans<|by kernel_rfl
theorem Q2:wl13 (rl):=(congrFun Fast.te13037177091574829013<|rl).trans<|by kernel_rfl
theorem Q3:wl14 (rl):=(congrFun Fast.te18300399794730339745<|rl).trans<|by kernel_rfl
theorem Q4:wl15 (rl):=(congrFun Fast.te7915956316035508148<|rl).trans<|by kernel_rfl
theorem Q5:wl16 (rl):=(congrFun Fast.te2101936035261840402<|rl).trans<|by kernel_rfl
theorem Q6:wl17 (rl):=(congrFun Fast.te6172010356438100095<|rl).trans<|by kernel_rfl
theorem Q7:wo0 (rl.prog):=(congrFun Fast.te9912920357794915207<|rl.prog).trans<|by kernel_rfl
theorem Q8:wo1 (rl.prog):=(congrFun Fast.te6511744373976081288<|rl.prog).trans<|by kernel_rfl
theorem Q9:wo2 (rl.prog):=(congrFun Fast.te10701094304595432489<|rl.prog).trans<|by kernel_rfl
theorem Ra:wo3 (rl.prog):=(congrFun Fast.te15753536393360498264<|rl.prog).trans<|by kernel_rfl
theorem wo4a_is:wo4a rl.prog:=(congrFun Fast.te9629293743086829453 rl.prog).trans<|by kernel_rfl
theorem wo4b_is:wo4b rl.prog:=(congrFun Fast.te18357578025397889343 rl.prog).trans<|by kernel_rfl
theorem wo4c_is:wo4c rl.prog:=(congrFun Fast.te13893055543738362606 rl.prog).trans<|by kernel_rfl
theorem wo4d_is:wo4d rl.prog:=(congrFun Fast.te11815970392506058552 rl.prog).trans<|by kernel_rfl
theorem Rb:wo4 rl.prog:=wo4_of wo4a_is wo4b_is wo4c_is wo4d_is
theorem Re:wo5 (rl.prog):=(congrFun Fast.te1205186615570389189<|rl.prog).trans<|by kernel_rfl
theorem Rf:wr1 (rl):=(congrFun Fast.te10653562883281821627<|rl).trans<|by kernel_rfl
theorem Rg:wr2 (rl):=(congrFun Fast.te11994247781096443940<|rl).trans<|by kernel_rfl
theorem Rh:twA (eG.prog):=(congrFun Fast.te9137597174975862285<|eG.prog).trans<|by kernel_rfl
theorem Ri(p:ck)(h0:wo0 p)(h1:wo1 p)(h2:wo2 p)(h3:wo3 p)(h4:wo4 p)(h5:wo5 p):Dl p:=by unfold Dl;exact bJ (bJ (bJ (bJ (bJ (h0) h1) h2) h3) h4) h5
theorem part_of(l:dw)(h0:Dl l.row.prog)(h1:l.row.toRowW.solid)(h2:l.row.pre.litsOk)(h3:l.row.post.litsOk):l.row.partSaid:=by unfold OpenRow.partSaid;exact bJ (bJ (bJ (bJ (bJ (bJ (bJ (bJ (bJ (bJ (bJ (bJ (bJ (h0) ag0) ag0) ag0) ag0) ag0) ag0) h1) h2) h3) ag0) ag0) ag0) ag0
theorem Rj(l:dw)(h0:l.row.partSaid)(h1:wr1 l)(h2:wr2 l):l.row.wellSaid:=by unfold OpenRow.wellSaid;exact bJ (bJ (h0) h1) h2
theorem Rk(l:dw)(h:l.row.wellSaid)(h0:FA l)(h1:wl1 l)(h2:wl2 l)(h3:FB l)(h4:FC l)(h5:wl5 l)(h6:wl6 l)(h7:wl7 l)(h8:wl8 l)(h9:wl9 l)(h10:wl10 l)(h11:wl11 l)(h12:wl12 l)(h13:wl13 l)(h14:wl14 l)(h15:wl15 l)(h16:wl16 l)(h17:wl17 l):l.wellSaid:=by unfold OpenLaw.wellSaid;exact bJ (bJ (bJ (bJ (bJ (bJ (bJ (bJ (bJ (bJ (bJ (bJ (bJ (bJ (bJ (bJ (bJ (bJ (h) h0) h1) h2) h3) h4) h5) h6) h7) h8) h9) h10) h11) h12) h13) h14) h15) h16) h17
theorem Rl:rl.wellSaid:=
 Rk rl (Rj rl (part_of rl (Ri rl.prog Q7 Q8 Q9 Ra Rb Re) (by kernel_rfl) (by kernel_rfl)<|by kernel_rfl) Rf Rg) QP QQ QR QS QT QU QV QW QX QY QZ Q0 Q1 Q2 Q3 Q4 Q5 Q6
theorem Rm:eG.prog.tablesWhole:=Rh
theorem Rp:eG.prog.bare:=⟨ag0,ag0,ag0,ag0,ag0,Rm⟩
theorem Rq:eG.toRowW.promised:=by w_witness2
theorem agV(call:zK):Dj.Holds:=
 holds_law Rl λk1=>QO k1 Rp Rq call
variable{x:Str}{F l:List (Str×Value)}{A:bj}{Q:List (Str×Value)->ah->Prop}{c:Prop}{xs D:List Value}{ns N:List Str}{fd:FuncData}
noncomputable def nH(p:dC):Bool:=p.posonlyargs.isEmpty&&p.vararg.isNone&&p.kwonlyargs.isEmpty&&p.kwarg.isNone
theorem mf:∀{l:List (Str×Value)},x∉l.map (·.1)->l.lookup x=none
 | [],_=>rfl
 |(n,y)::l,h=>by have:(x == n)=false:=beq_false_of_ne λq=>h<|q▸ .head _;unfold lO;rw [this];exact mf λq=>h<|.tail _ q
theorem pJ:∀{l:List (Str×Value)},(l.map (·.1)).Nodup->(x,v)∈l->l.lookup x=some v
 |(n,y)::l,nd,h=>by
  unfold lO;rcases aO.mp h with q|q
  ·cases q;rw [beq_self_eq_true]
  ·have:(x == n)=false:=beq_false_of_ne λz=>(dF.mp nd).1<|z▸bB.mpr ⟨_,q,ag0⟩;rw [this];exact pJ (dF.mp nd).2 q
theorem FF:∀{r:List (Str×Value)},(∀e∈r,F.lookup e.1=some e.2)->((r.map (·.1)).filterMap λn=>(F.lookup n).map (n,·))=r
 | [],_=>rfl
 |(n,y)::r,h=>by rw [mW,qM (b:=(n,y)) (f:=λn=>(F.lookup n).map (n,·))<|(agX (dq (n,·)) (h _<|.head _)).trans ag0,FF λe he=>h e<|.tail _ he]
section
variable{M:mX}{E:Value->ah->Prop}
noncomputable abbrev zL(x:Str×Value)(slots:List (Str×Value)):Sem (ForInStep (List<|Str×Value)):=if (lO x.1 slots).isNone=true then pure (oB<|slots++ [(x.1,x.2)]) else pure (oB slots)
theorem FG{S r2:List (Str×Value)}(k:ao M A (forIn r2 S zL) Q E s):∀{r1:List (Str×Value)},(∀e∈r1,∃v,S.lookup e.1=some v)->ao M A (forIn (r1++r2) S zL) Q E s
 | [],_=>k
 |e::r1,h=>by rw [List.cons_append,mY];obtain ⟨v,q⟩:=h e (.head _);refine aj ?_;show ao M A (if (lO e.1 S).isNone=true then _ else _) _ _ _;rw [q];exact aE (FG k λe he=>h e (.tail _ he))
theorem FH:∀{r S:List (Str×Value)},((S++r).map (·.1)).Nodup->Q (S++r) s->ao M A (forIn r S zL) Q E s
 | [],S,_,q=>by rw [qN];exact aE<|bc S▸q
 |e::r,S,nd,q=>by
  rw [mY];have n0:S.lookup e.1=none:=mf λw=>by rw [bK,mW,kj] at nd;exact nd.2.2 _ w _ (.head _) ag0
  refine aj ?_;show ao M A (if (lO e.1 S).isNone=true then _ else _) _ _ _;rw [n0];have z:S++e::r=(S++ [e])++r:=(List.append_cons S e r);exact aE (FH (S:=S++ [e]) (z▸nd)<|z▸q)
theorem zM{α:Type}[Decidable c]{t e:Sem α}{Q:α->ah->Prop}(h:¬c)(k:ao M A e Q E s):ao M A (if c then t else e) Q E s:=(if_neg h).symm▸k
theorem Rr{α β:Type}{l l':List α}{b b':β}{f:α->β->Sem (ForInStep β)}{Q:β->ah->Prop}(e1:l=l')(e2:b=b')(k:ao M A (forIn l' b' f) Q E s):ao M A (forIn l b f) Q E s:=e1▸e2▸k
theorem uS(h:ns.length=xs.length):(ns.zip xs).map (·.1)=ns:=tL<|aF h
theorem jQ(nd:(l.map (·.1)).Nodup)(h:x∈l.map (·.1)):∃v,l.lookup x=some v:=
 (bB.mp h).elim λe w=>⟨e.2,w.2▸pJ nd w.1⟩
def dU(n1 n2 n3:List Str)(x1 x2 d2 d3:List Value):Prop:=n1.length=x1.length/\n2.length=x2.length/\n2.length=d2.length/\n3.length=d3.length
section
variable{n1 n2 n3:List Str}{x1 x2 d2 d3:List Value}
theorem dU.z(l:dU n1 n2 n3 x1 x2 d2 d3):(n1++(n2++n3)).zip (x1++x2)=n1.zip x1++n2.zip x2:=by rw [tM l.1];have z:=tM (l₁:=n2) (r₁:=n3) (l₂:=x2) (r₂:=[]) l.2.1;rw [bc,No,bc] at z;rw [z]
theorem dU.le(l:dU n1 n2 n3 x1 x2 d2 d3):(x1++x2).length<=(n1++(n2++n3)).length:=by rw [aX,aX,aX, <- l.1, <- l.2.1];exact eB (fh _ _) _
theorem dU.dl(l:dU n1 n2 n3 x1 x2 d2 d3):(d2++d3).length=(n2++n3).length:=by rw [aX,aX,l.2.2.1,l.2.2.2]
theorem dU.d0(l:dU n1 n2 n3 x1 x2 d2 d3):(d2++d3).drop ((d2++d3).length-(n1++(n2++n3)).length)=d2++d3:=by rw [Nat.sub_eq_zero_of_le (ae (aF l.dl) (by rw [aX (as:=n1)];exact dy _ _))];rfl
theorem dU.n(l:dU n1 n2 n3 x1 x2 d2 d3):(n1++(n2++n3)).length-(d2++d3).length=n1.length:=by rw [l.dl,aX,Dm]
theorem dU.fst(l:dU n1 n2 n3 x1 x2 d2 d3):(n1.zip x1++n2.zip x2).map (·.1)=n1++n2:=by rw [bK,uS l.1,uS l.2.1]
theorem dU.all(l:dU n1 n2 n3 x1 x2 d2 d3):(n1.zip x1++n2.zip x2)++n3.zip d3=(n1++(n2++n3)).zip (x1++(x2++d3)):=by rw [tM l.1,tM l.2.1,aJ]
theorem dU.take(l:dU n1 n2 n3 x1 x2 d2 d3)(hN:N=n1++(n2++n3))(hD:D=d2++d3):N.take (N.length-(D.drop<|D.length-N.length).length)=n1:=by rw [hN,hD,l.d0,l.n,List.take_left]
theorem dU.drop(l:dU n1 n2 n3 x1 x2 d2 d3)(hN:N=n1++(n2++n3))(hD:D=d2++d3):(N.drop<|N.length-(D.drop<|D.length-N.length).length).zip (D.drop<|D.length-N.length)=n2.zip d2++n3.zip d3:=by rw [hN,hD,l.d0,l.n,List.drop_left,tM l.2.2.1]
theorem dU.fin(l:dU n1 n2 n3 x1 x2 d2 d3)(hN:N=n1++(n2++n3))(nd:(((n1.zip x1++n2.zip x2)++n3.zip d3).map (·.1)).Nodup):
 (N++ []).filterMap (λn=>(((n1.zip x1++n2.zip x2)++n3.zip d3).lookup n).map (n,·))=(n1++(n2++n3)).zip (x1++(x2++d3)):=by
 rw [bc,hN, <- l.all];exact (agX (List.filterMap _) (by rw [bK,l.fst,uS l.2.2.2,aJ]:((n1.zip x1++n2.zip x2)++n3.zip d3).map (·.1)=n1++(n2++n3)).symm).trans (FF λe he=>pJ nd he)
theorem FI(hp:nH fd.params)(hns:fd.params.args.map (·.arg)=n1++(n2++n3))(nd:(n1++(n2++n3)).Nodup)(l:dU n1 n2 n3 x1 x2 d2 d3)(hd:∀(Q':Option (Array Value)->ah->Prop),(∀o,(o.getD #[]).toList=d2++d3->Q' o s)->ao M A (tN fd.defaults) Q' E s)(h:Q ((n1++(n2++n3)).zip<|x1++(x2++d3)) s):ao M A (Do fd ⟨x1++x2,[]⟩) Q E s:=by
 cases hfp:fd.params with
 |mk pa aa va ka kd kw df=>
 rw [hfp] at hp hns;have hp:=gC.mp hp;have hp':=gC.mp hp.1;have hp'':=gC.mp hp'.1;cases tO.mp hp''.1;cases Dp.mp hp''.2;cases tO.mp hp'.2;cases Dp.mp hp.2;have hns: []++aa.map (·.arg)=n1++(n2++n3):=hns;have ndS:((n1.zip x1++n2.zip x2).map (·.1)).Nodup:=by rw [l.fst];exact (aJ .. ▸ nd:((n1++n2)++n3).Nodup).sublist (Dq _ _)
 have inS:∀x,x∈n1++n2->∃v,(n1.zip x1++n2.zip x2).lookup x=some v:=λx hx=>jQ ndS<|l.fst.symm▸hx;have ndF:(((n1.zip x1++n2.zip x2)++n3.zip d3).map (·.1)).Nodup:=by rw [bK,l.fst,uS l.2.2.2,aJ];exact nd
 unfold Do;rw [hfp];refine aj (aE (aj (hd _ λo ho=> ?_)));refine zM (λw=>absurd (agY (gC.mp w).1) (mZ.mpr (hns▸l.le))) (zM (λw=> ?_) (aj (Rr (b':=n1.zip x1++n2.zip x2) (l':=n2.zip d2++n3.zip d3) ?_ ?_ ?_)))
 ·exact De<|(agX xQ<|tO.mpr (Np.mpr λx hx z=>(inS x (cJ _<|l.take hns ho▸hx)).elim λv q=>De<|(agX Option.isNone<|(agX (lO x)<|(agX (Nq · (x1++x2)) hns).trans l.z).trans q).symm.trans z)).symm.trans w
 ·exact l.drop hns ho
 ·exact (agX (Nq · _) hns).trans l.z
 ·exact FG (FH ndF (aj (aE (zM (λw=>nomatch w) (aE<|(agX (λz=>Q z s)<|l.fin hns ndF).mpr h))))) λe he=>inS _<|bp _ (Nr he).1
end
theorem Rs{dv:List Value}(hp:nH fd.params)(nd:(fd.params.args.map (·.arg)).Nodup)(h1:xs.length<=fd.params.args.length)(h2:dv.length<=fd.params.args.length)(h3:fd.params.args.length<=xs.length+dv.length)(hd:∀(Q':Option (Array Value)->ah->Prop),(∀o,(o.getD #[]).toList=dv->Q' o s)->ao M A (tN fd.defaults) Q' E s)(h:Q ((fd.params.args.map (·.arg)).zip<|xs++dv.drop (dv.length-(fd.params.args.length-xs.length))) s):ao M A (Do fd ⟨xs,[]⟩) Q E s:=by
 have hns:fd.params.args.length=(fd.params.args.map (·.arg)).length:=(aG _).symm;rw [hns] at h1 h2 h3 h;generalize hg:fd.params.args.map (·.arg)=ns at h1 h2 h3 h nd;obtain ⟨c,hc⟩:=Dr h1;obtain ⟨b,hb⟩:=Dr (Nat.le_of_add_le_add_left (hc▸h3:xs.length+c<=xs.length+dv.length));obtain ⟨a,ha⟩:=Dr h2;have hx:xs.length=b+a:=Nt ((iZ _ _).trans (hc.symm.trans (ha.trans ((agX (· + a) hb).trans (oC _ _ _)))));have e2:dv.length-(ns.length-xs.length)=b:=by rw [hc,Ds,hb,Ds]
 rw [e2] at h;have n2:(ns.drop a).length=dv.length:=by rw [iA,ha,Dm]
 have x2:(xs.drop a).length=b:=by rw [iA,hx,Dm]
 have bD:b<=dv.length:=hb▸dy _ _;have e:ns=ns.take a++((ns.drop a).take b++(ns.drop a).drop b):=by rw [tP,tP]
 have ex:xs=xs.take a++xs.drop a:=(tP _ _).symm;have ed:dv=dv.take b++dv.drop b:=(tP _ _).symm;rw [ex];refine FI (d2:=dv.take b) (d3:=dv.drop b) hp (hg.trans e) (e▸nd) ⟨?_, ?_, ?_, ?_⟩ (ed▸hd) ?_
 ·rw [qO (ha▸dy _ _),qO (hx▸dy _ _)]
 ·rw [qO (n2▸bD),x2]
 ·rw [qO (n2▸bD),qO bD]
 ·rw [iA,n2,iA]
 ·rw [<- e, <- aJ,tP];exact h
end
variable{a b:Bool}{p:Prop}{j:Nat}{d:Data}
theorem al(h:(a&&b)):a:=(gC.mp h).1
theorem ar(h:(a&&b)):b:=(gC.mp h).2
theorem nt(h:(!a)):a=false:=by
 rcases a with _|_
 ·exact ag0
 ·exact h.symm
theorem nn{α:Type}{a:α}{P:Prop}(h:none=some a):P:=nomatch h
theorem nb{P:Prop}(h:false):P:=nomatch h
theorem ob{α β:Type}{o:Option α}{f:α->Option β}{b:β}{P:Prop}(h:o.bind f=some b)(k:∀a,o=some a->f a=some b->P):P:=by
 rcases o with _|a
 ·exact nn h
 ·exact k a ag0 h
def oI{α:Type}(o:Option α)(k:α->Prop):Prop:=match o with
 |some a=>k a
 |none=>True
theorem oI.k{α:Type}{o:Option α}{k:α->Prop}{a:α}(h:oI o k)(e:o=some a):k a:=by subst e;exact h
theorem bI(h:cond b p True)(e:b):p:=by subst e;exact h
def cE{α:Type}(l:List α)(k:α->List α->Prop):Prop:=match l with
 | []=>False
 |a::r=>k a r
section
variable{α β:Type}{l:List α}{m:List β}{a x:α}{b y:β}{P:Prop}
theorem cE.k{f:α->List α->Prop}(q:cE l f)(k:∀a r,l=a::r->f a r->P):P:=by
 rcases l with _|⟨a,r⟩
 ·exact q.elim
 ·exact k a r ag0 q
theorem cE.of{f:α->List α->Prop}{r:List α}(e:l=a::r)(q:f a r):cE l f:=by subst e;exact q
theorem fM(e:l[i]? = some a):i<l.length:=(fF.mp e).1
theorem kR(e:(l++ [a])[i]? = some x)(k1:l[i]? = some x->P)(k2:i=l.length->x=a->P):P:=
 (Dt i l.length).elim (λh=>k1<|(oD h).symm.trans e) λh=>
  have e:=(Du h).symm.trans e;have z:i-l.length=0:=Nu.mp<|fM e
  k2 (tQ (Nat.le_of_sub_eq_zero z) h) (av<|(agX ([a][·]?) z).symm.trans e).symm
theorem uT(n:l.length=m.length)(e:(l++ [a])[i]? = some x)(f:(m++ [b])[i]? = some y)(k1:l[i]? = some x->m[i]? = some y->P)(k2:i=l.length->x=a->y=b->P):P:=
 kR e (λe=>kR f (k1 e) λz _=>absurd (fM e)<|z▸n▸m6 _) λz e=>kR f (λf=>absurd (fM f)<|z▸n▸m6 _) λ_=>k2 z e
theorem uU(e:l[i]? = some x):(l++ [a])[i]? = some x:=(oD<|fM e).trans e
theorem FJ:(l++ [a])[l.length]? = some a:=(Du<|cf _).trans (agX ([a][·]?)<|Nv _)
theorem uV(e:(l.set i a)[j]? = some x)(k1:i≠j->l[j]? = some x->P)(k2:i=j->x=a->P):P:=
 (dz<|i=j).symm.elim (λn=>k1 n<|(Nw n).symm.trans e) λz=>by subst z;exact k2 ag0 (av<|(List.getElem?_set_self<|(tR (as:=l))▸fM e).symm.trans e).symm
end
theorem eq2{α β:Type}{R:α->β->Prop}{a x:α}{b y:β}(p:x=a)(q:y=b)(r:R a b):R x y:=by subst p q;exact r
theorem mem_lookup{α β:Type}[BEq α][LawfulBEq α]{k:α}{v:β}{l:List (α×β)}(e:l.lookup k=some v):(k,v)∈l:=
 (List.lookup_eq_some_iff.mp e).elim λl1 h=>h.elim λl2 h=>h.1▸bp l1 (.head _)
noncomputable def zN:Data->Option (Array Value)
 | .fields vs=>some vs
 |_=>none
theorem FK{a:Array Value}(h:zN d=some a):d= .fields a:=oI.k (k:=λa=>d= .fields a) (by clear h;rcases d<;>first|exact trivial|exact rfl) h
theorem two{α β:Type}{P:Nat->α->β->Prop}{a c:α}{b d:β}(h0:P 0 a b)(h1:P 1 c d)(i:Nat)(x:α)(y:β)(e: [a,c][i]? = some x)(f: [b,d][i]? = some y):P i x y:=by
 rcases i with _|_|i
 ·exact eq2 (R:=P 0) (av e).symm (av f).symm h0
 ·exact eq2 (R:=P 1) (av e).symm (av f).symm h1
 ·exact nn e
end Mine
namespace Mine
variable{b:Bool}{a n:Nat}
inductive V where
 |none
 |bool (b:Bool)
 |int (i:Int)
 |str (n:Nat)
 |ref (a:Nat)
 |tup (vs:List V)
 deriving Inhabited
inductive O where
 |inst (c:Nat) (fs:List V)
 |list (vs:List V)
 |dict (kvs:List (Int×V))
 |fix (ns:List Int)
 |tab (o:Option Nat)
 |aux
 deriving Inhabited
abbrev Hp:=List O
abbrev Loc:=List<|Option V
inductive Op where
 |lt|le|gt|ge|eq|ne|is|aY|isIn|FL
inductive P where
 |attr (n:Nat)|item|sliceTo|sliceFrom|slice|rev
 |add|sub|mul|mod|neg
 |cmp (op:Op)
 |abs|len|sum|min2|max2|isBool|isInt|isTup|pK (c:Nat)|listOf|jR|sorted
 |list|tup|dict (ks:List Int)
 |append|pop|extend|fN|nameAt
mutual
inductive E where
 |loc (i:Nat)
 |cst (v:V)
 |prim (p:P) (as:Es)
 |and (a b:E)
 |or (a b:E)
 |not (a:E)
 |ite (c a b:E)
 |call (f:Nat) (as:Es)
 |new (c:Nat) (as:Es)
 |l7 (o:E) (n:Nat) (as:Es)
 |lm (p:P) (o:E) (as:Es)
 |chain (a:E) (o1:Op) (b:E) (o2:Op) (c:E)
 |comp (t:List Nat) (it:It) (ifs:Es) (elt:E)
 |pL (src:E) (f:Nat) (rev:Bool)
 |kT (src:E) (o:E) (n:Nat) (rev:Bool)
 |pM (src:E) (body:E)
 |bad
inductive Es where
 |nil
 |cons (e:E) (es:Es)
inductive It where
 |seq (e:E)
 |aN (e:E)
 |jS (a b:E)
end
mutual
inductive T where
 |loc (i:Nat)
 |attr (e:E) (n:Nat)
 |item (e i:E)
 |slice (e lo hi:E)
 |tup (ts:Ts)
inductive Ts where
 |nil
 |cons (t:T) (ts:Ts)
end
mutual
inductive S where
 |ag (t:T) (e:E)
 |expr (e:E)
 |ite (c:E) (a b:Ss)
 |while (c:E) (b:Ss)
 |for (t:List Nat) (it:It) (b:Ss)
 |ret (e:E)
 |bad
inductive Ss where
 |nil
 |cons (s:S) (ss:Ss)
end
inductive Fl where
 |next
 |ret (v:V)
structure FD where
 np:Nat
 ns:Nat
 df:List V
 body:Ss
structure CD where
 fields:List Nat
 init:Nat
 meths:List (Nat×Nat)
structure d5 where
 fn:Nat->Option FD
 cl:Nat->Option CD
noncomputable def lim:Nat:=4000
noncomputable def idx(n:Nat):List Nat->Option Nat
 | []=>a8
 |m::r=>if n=m then some 0 else (idx n r).map (· + 1)
noncomputable def dJ(k:Int):List (Int×V)->Option V
 | []=>a8
 |(j,v)::r=>if k=j then some v else dJ k r
noncomputable def fq(k:Int)(v:V):List (Int×V)->List (Int×V)
 | []=>[(k,v)]
 |(j,x)::r=>if k=j then (j,v)::r else (j,x)::fq k v r
noncomputable def nI(x y:Option Bool):Option Bool:=x.bind λa=>y.map (a&& ·)
def fO(f:V->V->Option Bool):List V->List V->Option Bool
 | [],[]=>some true
 | [],_::_=>some false
 |_::_,[]=>some false
 |x::xs,y::ys=>nI (f x y)<|fO f xs ys
noncomputable def jT:V->Option Int
 | .int i=>some i
 |_=>a8
noncomputable def mh:V->Option Nat
 | .ref a=>some a
 |_=>a8
noncomputable def FM:V->Option Nat
 | .str n=>some n
 |_=>a8
noncomputable def pN:V->Option (List V)
 | .tup xs=>some xs
 |_=>a8
noncomputable def zO:V->Option Bool
 | .bool b=>some b
 |_=>a8
noncomputable def cW:O->Option (List V)
 | .list xs=>some xs
 |_=>a8
noncomputable def pO:O->Option (List<|Int×V)
 | .dict kvs=>some kvs
 |_=>a8
def oP{α:Type}(o:Option α)(k:α->Prop):Prop:=match o with
 |some a=>k a
 |a8=>False
section
variable{β:Type}
def fI(v:V)(k:Int->Option β):Option β:=(jT v).bind k
def fL(h:Hp)(v:V)(k:Nat->List V->Option β):Option β:=(mh v).bind λa=>h[a]?.bind λo=>(cW o).bind<|k a
end
noncomputable def mi:O->Bool
 | .inst c _=>a6 c 9
 |_=>false
def n9(o:O):Option Bool:=bif mi o then some false else a8
def zP(h:Hp):V->Option Bool
 | .none=>some true
 | .tup _=>some false
 | .ref y=>h[y]?.bind n9
 |_=>a8
noncomputable def zQ(x:Int):V->Option Bool
 | .int y=>some (decide<|x=y)
 | .tup _=>some false
 |_=>a8
noncomputable def zR(x:Nat):V->Option Bool
 | .str y=>some (decide<|x=y)
 |_=>a8
def eqT(f:V->V->Option Bool)(xs:List V):V->Option Bool
 | .none=>some false
 | .int _=>some false
 | .tup ys=>fO f xs ys
 |_=>a8
def rQ(f:V->V->Option Bool)(xs ys:List V):Option Bool:=bif a6 xs.length ys.length then fO f xs ys else some false
def nJ(f:V->V->Option Bool)(x y:Nat)(o o':O):Option Bool:=bif mi o&&mi o' then some (decide<|x=y) else (cW o).bind λxs=>(cW o').bind λys=>rQ f xs ys
def uW(f:V->V->Option Bool)(h:Hp)(x:Nat):V->Option Bool
 | .none=>h[x]?.bind n9
 | .ref y=>h[x]?.bind λo=>h[y]?.bind λo'=>nJ f x y o o'
 |_=>a8
def eJ(h:Hp):Nat->V->V->Option Bool
 |0,_,_=>a8
 |n+1,a,b=>match a with
  | .none=>zP h b
  | .int x=>zQ x b
  | .str x=>zR x b
  | .tup xs=>eqT (eJ h n) xs b
  | .ref x=>uW (eJ h n) h x b
  |_=>a8
noncomputable def deep:Nat:=8
def FN(f:V->V->Option Bool)(xs ys:List V):Option Bool:=(rQ f xs ys).map not
def FO(h:Hp)(a b:V):Option Bool:=match a with
 | .int x=>(jT b).map λy=>decide<|x≠y
 | .tup xs=>(pN b).bind λys=>(fO (eJ h deep) xs ys).map not
 | .ref _=>fL h a λ_ xs=>fL h b λ_ ys=>FN (eJ h deep) xs ys
 |_=>a8
def zS(op:Op)(x y:Int):Option Bool:=match op with
 | .lt=>some (decide<|x<y)
 | .le=>some (decide<|x<=y)
 | .gt=>some (decide<|y<x)
 | .ge=>some (decide<|y<=x)
 |_=>a8
noncomputable def FP:V->Bool
 | .none=>true
 |_=>false
noncomputable def FQ(y:Nat):V->Option Bool
 | .none=>some false
 | .ref x=>some (decide<|x=y)
 |_=>a8
def gn(a b:V):Option Bool:=match b with
 | .none=>some<|FP a
 | .ref y=>FQ y a
 |_=>a8
def allInts:List V->Option (List Int)
 | []=>some []
 |v::r=>(jT v).bind λi=>(allInts r).map (i:: ·)
def FS(h:Hp)(i:Int):V->Option Bool
 | .tup vs=>(allInts vs).map λns=>decide<|i∈ns
 | .ref a=>h[a]?.bind λo=>(pO o).map λkvs=>(dJ i kvs).isSome
 |_=>a8
def Rt(h:Hp)(a b:V):Option Bool:=fI a λi=>FS h i b
def bR(h:Hp)(op:Op)(a b:V):Option Bool:=match op with
 | .eq=>eJ h deep a b
 | .ne=>FO h a b
 | .is=>gn a b
 | .aY=>(gn a b).map not
 | .isIn=>Rt h a b
 | .FL=>a8
 |op=>fI a λx=>fI b λy=>zS op x y
noncomputable def lexLt:List Int->List Int->Bool
 | [],[]=>false
 | [],_::_=>true
 |_::_,[]=>false
 |a::r,b::s=>if a=b then lexLt r s else decide (a<b)
def Rv:List V->Option (List Int)
 | []=>some []
 |v::r=>match v with
  | .tup vs=>allInts vs
  |_=>allInts (v::r)
def keyOf:V->Option (List Int)
 | .int i=>some [i]
 | .tup vs=>Rv vs
 |_=>a8
def keysOf:List V->Option (List<|List Int)
 | []=>some []
 |v::r=>(keyOf v).bind λk=>(keysOf r).map (k:: ·)
noncomputable def Rx:List V->Nat×Nat
 | []=>(2,0)
 |v::r=>match v with
  | .tup vs=>(1,vs.length)
  |_=>(2,r.length+1)
def kindOf:V->Nat×Nat
 | .tup vs=>Rx vs
 |_=>(0,0)
noncomputable def kU{α:Type}(lt:List Int->List Int->Bool)(k:List Int)(v:α):List (List Int×α)->List (List Int×α)
 | []=>[(k,v)]
 |(j,x)::r=>if lt k j then (k,v)::(j,x)::r else (j,x)::kU lt k v r
def gp{α:Type}(lt:List Int->List Int->Bool):List (List Int×α)->List (List Int×α)
 | []=>[]
 |(k,v)::r=>kU lt k v<|gp lt r
def jU:List V->Bool
 | []=>true
 |v::r=>r.all λx=>kindOf x == kindOf v
def sortBy(rev:Bool)(ks:List V)(vs:List V):Option (List V):=(keysOf ks).bind λkl=>if kl.Nodup/\jU ks=true/\vs.length<60/\ks.length=vs.length then
 some ((gp (λa b=>if rev then lexLt b a else lexLt a b)<|kl.zip vs).map (·.2)) else a8
abbrev small(i:Int):Prop:= -(2 ^ 62)<=i/\i<=2 ^ 62
def bY(h:Hp)(vs:List V):Option (V×Hp):=if vs.length<=lim then some (.ref h.length,h++ [.list vs]) else a8
noncomputable def fP(vs:List V)(i:Int):Option V:=if 0<=i then vs[i.toNat]? else if 0<=i+vs.length then vs[(i+vs.length).toNat]? else a8
def cut(vs:List V)(lo hi:Int):Option (List V):=if 0<=lo/\0<=hi/\lo<=lim/\hi<=lim then some ((vs.drop lo.toNat).take<|hi.toNat-lo.toNat) else a8
def FT(h:Hp):V->Option (List V)
 | .tup vs=>some vs
 | .ref a=>h[a]?.bind cW
 |_=>a8
noncomputable def FU:O->Option (Nat×List V)
 | .inst c fs=>some (c,fs)
 |_=>a8
section
variable{β:Type}
def bM(G:d5)(F:Nat×List V->CD->Option β)(o:O):Option β:=(FU o).bind λp=>(G.cl p.1).bind<|F p
def uX(G:d5)(h:Hp)(v:V)(F:Nat->Nat×List V->CD->Option β):Option β:=(mh v).bind λa=>h[a]?.bind (bM G<|F a)
end
def Ry(G:d5)(n:Nat):O->Option V:=bM G λp cd=>(idx n cd.fields).bind λi=>p.2[i]?
def uY(G:d5)(h:Hp)(v:V)(n:Nat):Option V:=uX G h v λ_ p cd=>(idx n cd.fields).bind λi=>p.2[i]?
noncomputable def putAt:List V->Nat->V->Option (List V)
 | [],0,v=>some [v]
 | [],_+1,_=>a8
 |_::r,0,v=>some (v::r)
 |x::r,i+1,v=>(putAt r i v).map (x:: ·)
def Rz(G:d5)(h:Hp)(a n:Nat)(v:V):O->Option Hp:=bM G λp cd=>(idx n cd.fields).bind λi=>(putAt p.2 i v).map λfs'=>h.set a<|.inst p.1 fs'
def zT(G:d5)(h:Hp)(o:V)(n:Nat)(v:V):Option Hp:=uX G h o λa p cd=>(idx n cd.fields).bind λi=>(putAt p.2 i v).map λfs'=>h.set a<|.inst p.1 fs'
def zU(h:Hp)(a:Nat)(k:Int)(v:V):O->Option Hp
 | .dict kvs=>if kvs.length<=100/\small k then some (h.set a (.dict<|fq k v kvs)) else a8
 | .list vs=>if 0<=k/\k<vs.length then some (h.set a (.list<|vs.set k.toNat v)) else a8
 |_=>a8
def nK(h:Hp)(o i v:V):Option Hp:=fI i λk=>(mh o).bind λa=>h[a]?.bind (zU h a k v)
def rR(h:Hp)(o lo hi v:V):Option Hp:=fI lo λi=>fI hi λj=>fL h o λa xs=>fL h v λb ys=>
 if a≠b/\0<=i/\i<=j/\j<=xs.length/\xs.length+ys.length<=lim then some (h.set a (.list<|xs.take i.toNat++(ys++xs.drop j.toNat))) else a8
noncomputable def FV:O->Option Nat
 | .inst c _=>bif a6 c 10||a6 c 18 then a8 else some (100+c)
 | .list _=>some 5
 |_=>a8
def jV(h:Hp):V->Option Nat
 | .none=>some 0
 | .bool _=>some 1
 | .int _=>some 2
 | .str _=>some 3
 | .tup _=>some 4
 | .ref a=>h[a]?.bind FV
section
variable{β:Type}
noncomputable def fQ(vs:List V)(k:V->Option β):Option β:=match vs with
 | [a]=>k a
 |_=>none
noncomputable def ft(vs:List V)(k:V->V->Option β):Option β:=match vs with
 | [a,b]=>k a b
 |_=>none
noncomputable def RA(vs:List V)(k:V->V->V->Option β):Option β:=match vs with
 | [a,b,c]=>k a b c
 |_=>none
end
def zV(i:Int):O->Option V
 | .list xs=>if small i then fP xs i else none
 | .dict kvs=>dJ i kvs
 |_=>none
def itemOf(h:Hp)(o:V)(i:Int):Option V:=match o with
 | .tup xs=>if small i then fP xs i else none
 | .ref a=>h[a]?.bind (zV i)
 |_=>none
def zW(h:Hp)(j:Int):O->Option (V×Hp)
 | .list xs=>if 0<=j/\j<=lim then bY h (xs.take j.toNat) else none
 | .fix ns=>if 0<=j/\j<=lim then bY h ((ns.take j.toNat).map V.int) else none
 |_=>none
def zX(h:Hp)(o:V)(j:Int):Option (V×Hp):=match o with
 | .tup xs=>if 0<=j/\j<xs.length/\xs.length<=lim then some (.tup<|xs.take j.toNat,h) else none
 | .ref a=>h[a]?.bind (zW h j)
 |_=>none
def zY(h:Hp)(o:V)(i:Int):Option (V×Hp):=match o with
 | .tup xs=>if 1<=i/\i<=xs.length/\xs.length<=lim then some (.tup<|xs.drop i.toNat,h) else none
 | .ref a=>h[a]?.bind λo=>(cW o).bind λxs=>if 0<=i/\i<=lim then bY h (xs.drop i.toNat) else none
 |_=>none
def FW(h:Hp)(a b:V):Option (V×Hp):=match a with
 | .int a=>fI b λb=>some (.int<|a+b,h)
 | .ref a=>h[a]?.bind λo=>(cW o).bind λxs=>fL h b λ_ ys=>bY h<|xs++ys
 |_=>none
def FX(h:Hp)(a b:V):Option (V×Hp):=match a with
 | .int a=>fI b λb=>if small a/\small b then some (.int<|a*b,h) else none
 | .ref a=>h[a]?.bind λo=>(cW o).bind λxs=>fI b λk=>fQ xs λx=>if 0<=k/\k<=100 then bY h (cg k.toNat x) else none
 |_=>none
def zZ(h:Hp):O->Option (V×Hp)
 | .list xs=>bY h xs
 | .dict kvs=>bY h<|kvs.map λkv=>.int kv.1
 |_=>none
def listOf(h:Hp)(o:V):Option (V×Hp):=match o with
 | .ref a=>h[a]?.bind (zZ h)
 | .tup xs=>bY h xs
 |_=>none
noncomputable def FY:O->Bool
 | .dict kvs=>kvs.isEmpty
 |_=>false
def z5(h:Hp)(o:O):Option (V×Hp):=bif FY o then bY h [] else (cW o).bind λxs=>(sortBy false xs xs).bind<|bY h
def RC(h:Hp)(o:V):Option (V×Hp):=(mh o).bind λa=>h[a]?.bind (z5 h)
def getOf(h:Hp)(o:V)(k:Int):Option (V×Hp):=(mh o).bind λa=>h[a]?.bind λo=>(pO o).bind λkvs=>some ((dJ k kvs).getD .none,h)
def sumOf(h:Hp)(xs:List V):Option (V×Hp):=(allInts xs).bind (λns=>if ∀i∈ns,0<=i/\i<=2 ^ 40 then some (.int ns.sum,h) else none)
def rS(h:Hp)(vs:List V)(f:Nat->Bool):Option (V×Hp):=fQ vs λv=>(jV h v).map λt=>(.bool<|f t,h)
def prim(G:d5)(p:P)(vs:List V)(h:Hp):Option (V×Hp):=match p with
 | .attr n=>fQ vs λo=>(uY G h o n).map (·,h)
 | .item=>ft vs λo i=>fI i λi=>(itemOf h o i).map (·,h)
 | .sliceTo=>ft vs λo j=>fI j<|zX h o
 | .sliceFrom=>ft vs λo i=>fI i<|zY h o
 | .slice=>RA vs λo i j=>fL h o λ_ xs=>fI i λi=>fI j λj=>(cut xs i j).bind<|bY h
 | .rev=>fQ vs λo=>fL h o λ_ xs=>bY h xs.reverse
 | .add=>ft vs<|FW h
 | .sub=>ft vs λa b=>fI a λa=>fI b λb=>some (.int<|a-b,h)
 | .mul=>ft vs<|FX h
 | .mod=>ft vs λa b=>fI a λa=>fI b λb=>if 0<b then some (.int<|a % b,h) else none
 | .neg=>fQ vs λa=>fI a λa=>some (.int<|-a,h)
 | .cmp op=>ft vs λa b=>(bR h op a b).map λr=>(.bool r,h)
 | .abs=>fQ vs λa=>fI a λa=>some (.int a.natAbs,h)
 | .len=>fQ vs λo=>(FT h o).map λxs=>(.int xs.length,h)
 | .sum=>fQ vs λo=>fL h o λ_ xs=>sumOf h xs
 | .min2=>ft vs λa b=>fI a λa=>fI b λb=>some (.int<|min a b,h)
 | .max2=>ft vs λa b=>fI a λa=>fI b λb=>some (.int<|max a b,h)
 | .isBool=>rS h vs λt=>t == 1
 | .isInt=>rS h vs λt=>t == 1||t == 2
 | .isTup=>rS h vs λt=>t == 4
 | .pK c=>if c=9 then rS h vs λt=>t == 109 else none
 | .listOf=>fQ vs<|listOf h
 | .jR=>fQ vs λo=>fL h o λ_ xs=>some (.tup xs,h)
 | .sorted=>fQ vs<|RC h
 | .list=>bY h vs
 | .tup=>if vs.length<=lim then some (.tup vs,h) else none
 | .dict ks=>if ks.length=vs.length/\ks.Nodup/\ks.length<=10 then some (.ref h.length,h++ [.dict (ks.zip vs)]) else none
 | .append=>ft vs λo v=>fL h o λa xs=>if xs.length<lim then some (.none,h.set a (.list<|xs++ [v])) else none
 | .pop=>fQ vs λo=>fL h o λa xs=>(xs.getLast?).map λx=>(x,h.set a<|.list xs.dropLast)
 | .extend=>ft vs λo u=>fL h o λa xs=>fL h u λb ys=>if a≠b/\xs.length+ys.length<=lim then some (.none,h.set a (.list<|xs++ys)) else none
 | .fN=>ft vs λo k=>fI k<|getOf h o
 | .nameAt=>fQ vs λv=>(FM v).bind λn=>if n<5 then some (.int n,h) else none
abbrev bA:=V->Hp->Prop
abbrev Calls:=Nat->List V->Hp->bA->Prop
inductive IV where
 |vals (vs:List V)
 |lst (a:Nat)
 |aN (lo:Int) (n:Nat)
def IV.next(h:Hp)(i:Nat):IV->Option (Option V)
 | .vals vs=>some vs[i]?
 | .lst a=>(h[a]?.bind cW).map (·[i]?)
 | .aN lo n=>some<|if i<n then some (.int<|lo+i) else a8
noncomputable def hO(i:Nat)(v:V)(l:Loc):Option Loc:=if i<l.length then some (l.set i<|some v) else a8
def pP:List Nat->List V->Loc->Option Loc
 | [],vs,l=>bif vs.isEmpty then some l else a8
 |i::is,vs,l=>match vs with
  | []=>a8
  |v::vs=>(hO i v l).bind<|pP is vs
def bindL(is:List Nat)(v:V)(l:Loc):Option Loc:=match is with
 | []=>a8
 |i::r=>bif r.isEmpty then hO i v l else (pN v).bind λvs=>pP (i::r) vs l
def wl(o:Option (Option V))(h:Hp)(Q:bA):Prop:=oP o λo=>oP o λv=>Q v h
def wp(o:Option (V×Hp))(Q:bA):Prop:=oP o λp=>Q p.1 p.2
def wb(v:V)(p q:Prop):Prop:=oP (zO v) λb=>cond b p q
def wt(v:V)(h:Hp)(Q:bA):Prop:=oP (zO v) λb=>Q (.bool<|!b) h
def wn(v:V)(p:Prop):Prop:=match v with
 | .none=>p
 | .bool _=>p
 | .tup _=>p
 |_=>False
def uZ(v:V)(p:Prop):Prop:=match v with
 | .none=>p
 |_=>False
def wk(S':Fl->Loc->Hp->Prop)(k:Loc->Hp->Prop)(f:Fl)(l:Loc)(h:Hp):Prop:=match f with
 | .next=>k l h
 | .ret v=>S' (.ret v) l h
def wf(Q:bA)(f:Fl)(l:Loc)(h:Hp):Prop:=match f with
 | .ret v=>Q v h
 | .next=>Q .none h
def oE(x:Option V)(p:Prop)(k:V->Prop):Prop:=match x with
 |a8=>p
 |some v=>k v
def lE(l:List V)(k:V->List V->Prop):Prop:=match l with
 | []=>False
 |v::r=>k v r
def iK(iv:IV)(turn:V->Hp->(Option V->Hp->Prop)->Prop)(K:List V->Hp->Prop):Nat->Nat->List V->Hp->Prop
 |0,_,_,_=>False
 |n+1,i,acc,h=>oP (iv.next h i) λx=>oE x (K acc h) λv=>turn v h λr h'=>oE r (iK iv turn K n (i+1) acc h') λx=>iK iv turn K n (i+1) (acc++ [x]) h'
def vd(t:List Nat)(l:Loc)(ifs:Loc->Hp->(Bool->Hp->Prop)->Prop)(elt:Loc->Hp->bA->Prop)(v:V)(h:Hp)(K:Option V->Hp->Prop):Prop:=
 oP (bindL t v l) λl'=>ifs l' h λb h3=>cond b (elt l' h3 λx h4=>K (some x) h4)<|K a8 h3
def jW(Q:bA)(vs:List V)(h:Hp):Prop:=wp (bY h vs) Q
def hU(call:V->Hp->bA->Prop)(K:List V->Hp->Prop):List V->List V->Hp->Prop
 | [],acc,h=>K acc h
 |v::r,acc,h=>call v h λk h'=>hU call K r (acc++ [k]) h'
def gq(rev:Bool)(vs:List V)(Q:bA)(ks:List V)(h:Hp):Prop:=wp ((sortBy rev ks vs).bind<|bY h) Q
def aQ(G:d5)(p:P)(vs:List V)(h:Hp)(Q:bA):Prop:=wp (prim G p vs h) Q
def RD(G:d5)(n:Nat):O->Option Nat:=bM G λ_ cd=>cd.meths.lookup n
def nM(G:d5)(h:Hp)(v:V)(n:Nat):Option Nat:=uX G h v λ_ _ cd=>cd.meths.lookup n
def je(h:Hp)(v:V):Option (List V):=(mh v).bind λa=>h[a]?.bind cW
noncomputable def z6:O->Bool
 | .aux=>true
 |_=>false
def tabS(h:Hp):Option Nat->Option Hp
 |a8=>some<|h.set 1 (.tab<|some h.length)++ [.aux]
 |some i=>h[i]?.bind λo=>bif z6 o then some h else a8
noncomputable def vf:O->Option (Option Nat)
 | .tab o=>some o
 |_=>a8
def rT(h:Hp):Option Hp:=h[(1:Nat)]?.bind λo=>(vf o).bind<|tabS h
noncomputable def RE(p:P):Bool:=dD 27 p.ctorIdx&&dD p.ctorIdx 29
noncomputable def vg(p:P):Bool:=a6 p.ctorIdx 30
def z7(p:P):O->Bool
 | .list _=>RE p
 | .dict _=>vg p
 |_=>false
def mj(h:Hp)(p:P)(v:V):Bool:=((mh v).bind λa=>h[a]?).any<|z7 p
def wv(v:V)(h:Hp)(Q:IV->Hp->Prop):Prop:=match v with
 | .tup vs=>Q (.vals vs) h
 | .ref a=>oP (h[a]?.bind cW) λ_=>Q (.lst a) h
 |_=>False
mutual
def aH(G:d5)(C:Calls):E->Loc->Hp->bA->Prop
 | .loc i,l,h,Q=>wl l[i]? h Q
 | .cst v,_,h,Q=>Q v h
 | .prim p as,l,h,Q=>cM G C as l h λvs h1=>aQ G p vs h1 Q
 | .and a b,l,h,Q=>aH G C a l h λv h1=>wb v (aH G C b l h1 Q)<|Q (.bool false) h1
 | .or a b,l,h,Q=>aH G C a l h λv h1=>wb v (Q (.bool true) h1)<|aH G C b l h1 Q
 | .not a,l,h,Q=>aH G C a l h λv h1=>wt v h1 Q
 | .ite c a b,l,h,Q=>aH G C c l h λv h1=>wb v (aH G C a l h1 Q)<|aH G C b l h1 Q
 | .call f as,l,h,Q=>cM G C as l h λvs h1=>C f vs h1 Q
 | .new c as,l,h,Q=>cM G C as l h λvs h1=>oP (G.cl c) λcd=>C cd.init (.ref h1.length::vs) (h1++ [.inst c []]) λr h2=>uZ r<|Q (.ref h1.length) h2
 | .l7 o n as,l,h,Q=>aH G C o l h λv h1=>oP (nM G h1 v n) λf=>cM G C as l h1 λvs h2=>C f (v::vs) h2 Q
 | .lm p o as,l,h,Q=>aH G C o l h λv h1=>mj h1 p v=true/\cM G C as l h1 λvs h2=>aQ G p (v::vs) h2 Q
 | .chain a o1 b o2 c,l,h,Q=>aH G C a l h λva h1=>aH G C b l h1 λvb h2=>oP (bR h2 o1 va vb) λr=>cond r (aH G C c l h2 λvc h3=>aQ G (.cmp o2) [vb,vc] h3 Q)<|Q (.bool false) h2
 | .comp t it ifs elt,l,h,Q=>ml G C it l h λiv h1=>∃n,iK iv (vd t l (λl' h2 K=>jf G C ifs l' h2 K) λl' h2 K=>aH G C elt l' h2 K) (jW Q) n 0 [] h1
 | .pL src f rev,l,h,Q=>aH G C src l h λv h1=>oP (je h1 v) λvs=>hU (λx h2 K=>C f [x] h2 K) (gq rev vs Q) vs [] h1
 | .kT src o n rev,l,h,Q=>aH G C src l h λv h1=>aH G C o l h1 λov h2=>oP (je h2 v) λvs=>oP (nM G h2 ov n) λf=>hU (λx h3 K=>C f [ov,x] h3 K) (gq rev vs Q) vs [] h2
 | .pM src body,l,h,Q=>aH G C src l h λv h1=>oP (je h1 v) λvs=>oP (rT h1) λh2=>hU (λx h3 K=>aH G C body [some x] h3 K) (gq false vs Q) vs [] h2
 | .bad,_,_,_=>False
def cM(G:d5)(C:Calls):Es->Loc->Hp->(List V->Hp->Prop)->Prop
 | .nil,_,h,Q=>Q [] h
 | .cons e es,l,h,Q=>aH G C e l h λv h1=>cM G C es l h1 λvs h2=>Q (v::vs) h2
def jf(G:d5)(C:Calls):Es->Loc->Hp->(Bool->Hp->Prop)->Prop
 | .nil,_,h,Q=>Q true h
 | .cons e es,l,h,Q=>aH G C e l h λv h1=>wb v (jf G C es l h1 Q)<|Q false h1
def ml(G:d5)(C:Calls):It->Loc->Hp->(IV->Hp->Prop)->Prop
 | .seq e,l,h,Q=>aH G C e l h λv h1=>wv v h1 Q
 | .aN e,l,h,Q=>aH G C e l h λv h1=>oP (jT v) λi=>0<=i/\i<=lim/\Q (.aN 0 i.toNat) h1
 | .jS a b,l,h,Q=>aH G C a l h λva h1=>aH G C b l h1 λvb h2=>oP (jT va) λi=>oP (jT vb) λj=>0<=i/\i<=j/\j<=lim/\Q (.aN i (j-i).toNat) h2
end
def Ts.len:Ts->Nat
 | .nil=>0
 | .cons _ r=>r.len+1
def mo:Loc->Nat->V->(Loc->Prop)->Prop
 | [],_,_,_=>False
 |x::r,i,v,k=>match i with
  |0=>k (some v::r)
  |i+1=>mo r i v λr'=>k (x::r')
theorem FZ{v:V}(l:Loc):∀{i:Nat} {k:Loc->Prop},mo l i v k->i<l.length/\k (l.set i<|some v):=by
 induction l with
 |nil=>exact λh=>h.elim
 |cons x r ih=>
  intro i k h;rcases i with _|i
  ·exact ⟨xR _,h⟩
  ·exact ⟨Nat.succ_lt_succ (ih h).1,(ih h).2⟩
mutual
def hV(G:d5)(C:Calls):T->V->Loc->Hp->(Loc->Hp->Prop)->Prop
 | .loc i,v,l,h,Q=>mo l i v λl'=>Q l' h
 | .attr e n,v,l,h,Q=>aH G C e l h λo h1=>oP (zT G h1 o n v) λh2=>Q l h2
 | .item e i,v,l,h,Q=>aH G C e l h λo h1=>aH G C i l h1 λk h2=>oP (nK h2 o k v) λh3=>Q l h3
 | .slice e lo hi,v,l,h,Q=>aH G C e l h λo h1=>aH G C lo l h1 λa h2=>aH G C hi l h2 λb h3=>oP (rR h3 o a b v) λh4=>Q l h4
 | .tup ts,v,l,h,Q=>oP (pN v) λvs=>vs.length=ts.len/\jg G C ts vs l h Q
def jg(G:d5)(C:Calls):Ts->List V->Loc->Hp->(Loc->Hp->Prop)->Prop
 | .nil,vs,l,h,Q=>cond vs.isEmpty (Q l h) False
 | .cons t ts,vs,l,h,Q=>lE vs λv vs=>hV G C t v l h λl' h'=>jg G C ts vs l' h' Q
end
def vh(test:Loc->Hp->bA->Prop)(body:Loc->Hp->(Fl->Loc->Hp->Prop)->Prop)(Q:Fl->Loc->Hp->Prop):Nat->Loc->Hp->Prop
 |0,_,_=>False
 |n+1,l,h=>test l h λv h1=>wb v (body l h1 (wk Q<|vh test body Q n))<|Q .next l h1
def mq(t:List Nat)(iv:IV)(body:Loc->Hp->(Fl->Loc->Hp->Prop)->Prop)(Q:Fl->Loc->Hp->Prop):Nat->Nat->Loc->Hp->Prop
 |0,_,_,_=>False
 |n+1,i,l,h=>oP (iv.next h i) λx=>oE x (Q .next l h) λv=>oP (bindL t v l) λl1=>body l1 h<|wk Q (mq t iv body Q n<|i+1)
mutual
def pQ(G:d5)(C:Calls):S->Loc->Hp->(Fl->Loc->Hp->Prop)->Prop
 | .ag t e,l,h,Q=>aH G C e l h λv h1=>hV G C t v l h1 λl' h2=>Q .next l' h2
 | .expr e,l,h,Q=>aH G C e l h λv h1=>wn v<|Q .next l h1
 | .ite c a b,l,h,Q=>aH G C c l h λv h1=>wb v (bP G C a l h1 Q)<|bP G C b l h1 Q
 | .while c b,l,h,Q=>∃n,vh (aH G C c) (bP G C b) Q n l h
 | .for t it b,l,h,Q=>ml G C it l h λiv h1=>∃n,mq t iv (bP G C b) Q n 0 l h1
 | .ret e,l,h,Q=>aH G C e l h λv h1=>Q (.ret v) l h1
 | .bad,_,_,_=>False
def bP(G:d5)(C:Calls):Ss->Loc->Hp->(Fl->Loc->Hp->Prop)->Prop
 | .nil,l,h,Q=>Q .next l h
 | .cons s ss,l,h,Q=>pQ G C s l h<|wk Q λl' h'=>bP G C ss l' h' Q
end
noncomputable def frame(fd:FD)(vs:List V):Option Loc:=
 let full:=vs++fd.df.drop (fd.df.length-(fd.np-vs.length))
 if full.length=fd.np then some (full.map some++cg (fd.ns-fd.np) a8) else a8
def kW(G:d5):Nat->Calls
 |0,_,_,_,_=>False
 |d+1,f,vs,h,Q=>oP (G.fn f) λfd=>oP (frame fd vs) λl=>bP G (kW G d) fd.body l h<|wf Q
section
variable{α:Type}{o:Option α}{f:α->Prop}{P p q:Prop}{v:V}{x y:Option V}
theorem oP.k(q:oP o f)(k:∀a,o=some a->f a->P):P:=by
 rcases o with _|a
 ·exact q.elim
 ·exact k a ag0 q
theorem oP.i{a:α}(e:o=some a)(q:f a):oP o f:=by subst e;exact q
theorem z8(e:zO v=some b):v= .bool b:=oI.k (k:=λb=>v= .bool b) (by clear e;rcases v<;>first|exact trivial|exact rfl) e
theorem nN{i:Int}(e:jT v=some i):v= .int i:=oI.k (k:=λi=>v= .int i) (by clear e;rcases v<;>first|exact trivial|exact rfl) e
theorem kX(e:mh v=some a):v= .ref a:=oI.k (k:=λa=>v= .ref a) (by clear e;rcases v<;>first|exact trivial|exact rfl) e
theorem z9{vs:List V}(e:pN v=some vs):v= .tup vs:=oI.k (k:=λvs=>v= .tup vs) (by clear e;rcases v<;>first|exact trivial|exact rfl) e
theorem RG(e:FM v=some n):v= .str n:=oI.k (k:=λn=>v= .str n) (by clear e;rcases v<;>first|exact trivial|exact rfl) e
theorem fS{o:O}{xs:List V}(e:cW o=some xs):o= .list xs:=oI.k (k:=λxs=>o= .list xs) (by clear e;rcases o<;>first|exact trivial|exact rfl) e
theorem F5{o:O}{xs:List (Int×V)}(e:pO o=some xs):o= .dict xs:=oI.k (k:=λxs=>o= .dict xs) (by clear e;rcases o<;>first|exact trivial|exact rfl) e
theorem RH{o:O}{p:Nat×List V}(e:FU o=some p):o= .inst p.1 p.2:=oI.k (k:=λp=>o= .inst p.1 p.2) (by clear e;rcases o<;>first|exact trivial|exact rfl) e
theorem wb.k(w:wb v p q)(t:v= .bool true->p->P)(f:v= .bool false->q->P):P:=
 oP.k w λb e w=>by
  rcases b with _|_
  ·exact f (z8 e) w
  ·exact t (z8 e) w
end
end Mine
namespace Mine
open PySem PySem.W PyProof.Rows
def kY:List (Str×Nat):=(Fu.map (·.2.2.1)).zipIdx
def jX:List (Str×Nat):=(crA.map λc=>am c.2.2.1).zipIdx
noncomputable def atT:List Str:=["total","plist","left","right","parent","root","pop","extend","number","begin","end","front_advance","rear_advance","limit","offset","is_red","count","append","lisp","nil","true","category","front_sticky","rear_nonsticky","evaporate","priority","defaults","symbol_property","number_of","node","home","tree","overlays","rules","is_nil","pair","key","props","size","codes","spans","first","face","invisible","display","before","after","is_all","numbers","items","buffer","names","hiding","__init__","code_at","of_symbols","faces_at","room","cells","gap_start","gap_end","widen_gap","move_gap","rows","position","advances","name","text","markers","point","begv","zv","mark","is_live","is_read_only","ticks","codes_ticks","saved_ticks","listeners","undo","locals","syntax","file","code","symbol","data","before_change","touch","after_change","insert","text_comes","text_came","inserted","plists","get","index","strings_at","hidden_at","shown_at"].map am
noncomputable def fT:List Str:=["category","front-sticky","rear-nonsticky","evaporate","priority","thing","killed buffer","buffer ","buffer-read-only","args-out-of-range","symbol","list","pair","b"].map am
noncomputable def gu:List (Nat×CD):=[(0,⟨[0,1,2,3,4],106,[(53,106)]⟩),(1,⟨[5],107,[(53,107)]⟩),(2,⟨[8,9,10,11,12,13,14,15,2,3,4],108,[(53,108)]⟩),(3,⟨[5,16],109,[(53,109)]⟩),(4,⟨[18,19,20,21,22,23,24,25,26],110,[(53,110),(34,111)]⟩),(5,⟨[8,29,30,1],112,[(53,112)]⟩),(6,⟨[31,32,33],113,[(53,113),(92,114),(91,116)]⟩),(7,⟨[31],118,[(53,118),(92,119),(91,121)]⟩),(8,⟨[33],125,[(53,125),(36,126)]⟩),(9,⟨[39,40],127,[(53,127)]⟩),(10,⟨[],0,[]⟩),(11,⟨[39,41],131,[(53,131),(9,132),(10,133),(54,134),(56,135),(97,136),(98,137),(96,138)]⟩),(12,⟨[42,43,44,45,46],139,[(53,139)]⟩),(13,⟨[47,48],140,[(53,140),(55,141)]⟩),(14,⟨[39,41,50,51,52],142,[(53,142),(9,143),(10,144),(54,145),(56,147),(97,148),(98,149),(96,150),(33,146)]⟩),(15,⟨[57,58,59,60],151,[(53,151),(38,152),(83,153),(39,154),(62,155),(61,156),(89,157)]⟩),(16,⟨[63],162,[(53,162),(48,163),(92,167)]⟩),(17,⟨[8,66,67,68,69,70,71,72,73,74,75,76,77,78,79,37,32,80,81,82],170,[(53,170),(9,173),(10,174),(38,175),(54,176),(39,177),(87,182)]⟩),(18,⟨[84,85],183,[(53,183)]⟩),(19,⟨[41,19,20,93],184,[(53,184),(8,185),(84,186),(28,187),(49,189),(35,190),(27,191)]⟩)]
def RJ:List (dC×List Stmt×cC):=zC.map (·.2.1)
def fnAt(k:Nat):dC×List Stmt×cC:=RJ.getD k (default,[],default)
noncomputable def Aa:Nat:=192
structure Sc where
 kinds:List (Str×NameKind)
 slots:List (Str×Nat)
 lam:Bool
noncomputable def mr(x:Str):List Str->Option Nat
 | []=>none
 |y::r=>if x=y then some 0 else (mr x r).map (· + 1)
abbrev CE:=Sc->Expr->E
noncomputable def om{α β:Type}(o:Option α)(d:β)(f:α->β):β:=match o with
 |some a=>f a
 |none=>d
noncomputable def l1{α β:Type}(l:List α)(d:β)(f:α->β):β:=match l with
 | []=>d
 |a::r=>bif r.isEmpty then f a else d
def l2{α β:Type}(l:List α)(d:β)(f:α->α->β):β:=match l with
 | []=>d
 |a::r=>l1 r d<|f a
noncomputable def mw:Expr->Option Str
 | .Name x _=>some x
 |_=>none
noncomputable def nQ:Expr->Option oF
 | .Constant k _ _=>some k
 |_=>none
noncomputable def F6:Expr->Option (Expr×Expr)
 | .Subscript o s _=>some (o,s)
 |_=>none
noncomputable def F7:Expr->Option (Option Expr×Option Expr×Option Expr)
 | .Slice a b k _=>some (a,b,k)
 |_=>none
noncomputable def RK(op:Dv)(a:Expr):Option Expr:=match op with
 | .USub=>some a
 |_=>none
def F8:Expr->Option Expr
 | .UnaryOp op a _=>RK op a
 |_=>none
noncomputable def Ab:oF->Option Int
 | .int i=>some i
 |_=>none
noncomputable def kV(o:Option Nat):NameKind->Option Nat
 | .local=>o
 | .cell=>o
 |_=>none
def isVar(σ:Sc)(x:Str):Option Nat:=(σ.kinds.lookup x).bind (kV<|σ.slots.lookup x)
noncomputable def kG:NameKind->Bool
 | .globalImplicit=>true
 |_=>false
def bN(σ:Sc)(x:Str):Bool:=(σ.kinds.lookup x).any kG
def F9(σ:Sc)(x:Str):E:=om (isVar σ x) (bif bN σ x then (if x=am "SHOWN" then .cst (.int 0) else if x=am "HIDDEN" then .cst (.int 1) else .bad) else .bad) .loc
def Ga:oF->E
 | .none=>.cst .none
 | .bool b=>.cst<|.bool b
 | .int i=>.cst<|.int i
 | .str s=>om (mr s fT) .bad λn=>.cst<|.str n
 |_=>.bad
noncomputable def notStar(e:Expr):Bool:= !(a6 e.ctorIdx 22)
def aU(rec:CE)(σ:Sc):List Expr->Es
 | []=>.nil
 |e::r=>bif notStar e then .cons (rec σ e) (aU rec σ r) else .cons .bad .nil
noncomputable def kZ(a:E):Es:=.cons a .nil
noncomputable def gK(a b:E):Es:=.cons a<|.cons b .nil
noncomputable def Gb(a b c:E):Es:=.cons a (.cons b<|.cons c .nil)
def jY:oG->Op
 | .Eq=>.eq| .NotEq=>.ne| .Lt=>.lt| .LtE=>.le| .Gt=>.gt| .GtE=>.ge| .Is=>.is| .IsNot=>.aY| .In=>.isIn| .NotIn=>.FL
noncomputable def RL(op:BoolOp)(a b:E):E:=match op with
 | .And=>.and a b
 | .Or=>.or a b
def cBool(rec:CE)(σ:Sc)(op:BoolOp):List Expr->E
 | []=>.bad
 |e::r=>bif r.isEmpty then rec σ e else RL op (rec σ e) (cBool rec σ op r)
noncomputable def constInt:Option Expr->Option Int
 |some (.Constant (.int i) _ _)=>some i
 |_=>none
noncomputable def jh{α:Type}:List (Option α)->Option (List α)
 | []=>some []
 |some a::r=>(jh r).map (a:: ·)
 |none::_=>none
noncomputable def cX(σ:Sc)(sc:cC)(base:Nat):Sc:=
 ⟨sc.names.map λ(n,k)=>if k == .free&&σ.kinds.lookup n == some .cell then (n,.cell) else (n,k),
  ((sc.names.filter λ(n,k)=>k == .local&& !(n == am ".0")).zipIdx.map λ(p,i)=>(p.1,base+i))++σ.slots,false⟩
noncomputable def ji:Expr->Option (List Expr)
 | .Tuple es _ _=>some es
 |_=>none
def Ac(σ:Sc)(e:Expr):Option Nat:=(mw e).bind<|isVar σ
def fu(σ:Sc):List Expr->Option (List Nat)
 | []=>some []
 |e::r=>(Ac σ e).bind λi=>(fu σ r).map (i:: ·)
def Gc(σ:Sc)(t:Expr):Option (List Nat):=om (ji t) ((Ac σ t).map λi=>[i]) λes=>(fu σ es).bind λis=>bif dD 2 is.length then some is else none
def targets(σ:Sc)(t:Expr):List Nat:=(Gc σ t).getD []
def my(σ:Sc)(t:Expr):Bool:=(Gc σ t).isSome
def RM(rec:CE)(σ:Sc)(e f:Expr)(as:List Expr)(ks:List km):It:=
 bif as.all notStar then (bif ks.isEmpty&&(mw f).any λx=>decide (x=am "range")&&bN σ x then (match as with
  | []=>.seq .bad
  |a::r=>bif r.isEmpty then .aN (rec σ a) else l1 r (.seq .bad) λb=>.jS (rec σ a)<|rec σ b) else .seq (rec σ e)) else .seq .bad
noncomputable def Ad:Expr->Option (Expr×List Expr×List km)
 | .Call f as ks _=>some (f,as,ks)
 |_=>none
def rU(rec:CE)(σ:Sc)(e:Expr):It:=om (Ad e) (bif notStar e then .seq (rec σ e) else .seq .bad) λp=>RM rec σ e p.1 p.2.1 p.2.2
def Ae(o:Expr):Bool:=om (Ad o) true λp=> !p.2.1.isEmpty
def cB(rec:CE)(σ:Sc)(o:Expr):E:=bif Ae o then rec σ o else .bad
noncomputable def cj(σ:Sc):Nat:=σ.slots.foldl (λm p=>max m<|p.2+1) 0
def Gd(rec:CE)(σ:Sc)(a:Expr)(t:Str):E:=bif bN σ t then (if t=am "bool" then .prim .isBool (aU rec σ [a]) else if t=am "int" then .prim .isInt (aU rec σ [a]) else if t=am "tuple" then .prim .isTup (aU rec σ [a])
 else om (jX.lookup t) .bad λc=>bif a6 c 9 then .prim (.pK c) (aU rec σ [a]) else .bad) else .bad
def Ge(rec:CE)(σ:Sc)(f:Str)(a:Expr):E:=
 if f=am "len" then .prim .len (aU rec σ [a]) else if f=am "abs" then .prim .abs (aU rec σ [a]) else if f=am "sum" then .prim .sum (aU rec σ [a])
 else if f=am "list" then .prim .listOf (aU rec σ [a]) else if f=am "tuple" then .prim .jR (aU rec σ [a]) else if f=am "sorted" then .prim .sorted (aU rec σ [a]) else .bad
def Gf(rec:CE)(σ:Sc)(f:Str)(a b:Expr):E:=
 if f=am "min" then .prim .min2 (aU rec σ [a,b]) else if f=am "max" then .prim .max2 (aU rec σ [a,b])
 else if f=am "isinstance" then om (mw b) .bad (Gd rec σ a) else .bad
def Ag(rec:CE)(σ:Sc)(f:Str)(as:List Expr):E:=
 bif bN σ f then om (kY.lookup f) (om (jX.lookup f) (match as with
  | []=>.bad
  |a::r=>bif r.isEmpty then Ge rec σ f a else l1 r .bad λb=>Gf rec σ f a b) λc=>.new c<|aU rec σ as) λk=>.call k (aU rec σ as) else .bad
noncomputable def jZ:List Nat->Bool
 | []=>true
 |n::r=> !(r.any λm=>a6 n m)&&jZ r
noncomputable def vj(o:Option NameKind):Bool:=match o with
 |some .local=>true
 |_=>false
noncomputable def Ah(o:Option NameKind):Bool:=match o with
 |some .cell=>true
 |_=>false
noncomputable def Ai{α:Type}(o:Option α):Bool:=match o with
 |none=>true
 |_=>false
noncomputable def Gg(a b:Option Nat):Bool:=match a,b with
 |some n,some m=>a6 n m
 |_,_=>false
def vk(σ:Sc):Bool:=Ai (σ.kinds.lookup<|am "__debug__")&&Ai (σ.kinds.lookup<|am "__classdict__")&&jZ (σ.slots.map (·.2))
def RN(lo hi st:Option Expr):Bool:=lo.isNone&&st.isNone&&om hi false λe=>om (nQ e) false λk=>(Ab k).isSome
def Aj(e:Expr):Bool:=om (F6 e) false λp=>(mw p.1).isSome&&om (F7 p.2) false λq=>RN q.1 q.2.1 q.2.2
def Gh(σ:Sc)(args:dC)(p:Arg)(body:Expr)(sc:cC)(lp:Pos):Bool:=Aj body&&(σ.lam&&(a6 lp.line 1155&&(a6 lp.col 60&&(args.posonlyargs.isEmpty&&(args.vararg.isNone&&(args.kwonlyargs.isEmpty&&(args.kwarg.isNone&&(args.defaults.isEmpty&&(args.kw_defaults.isEmpty&&(sc.names == [(p.arg,.local)]&&(sc.kind == .function&&(!sc.isGenerator&&(!sc.isCoroutine&&(sc.more.isEmpty&&vk ⟨[(p.arg,.local)],[(p.arg,0)],false⟩))))))))))))))
def Gi(rec:CE)(σ:Sc)(src key:Expr):E:=match key with
 | .Name f _=>om (kY.lookup f) .bad λn=>bif bN σ f then .pL (rec σ src) n false else .bad
 | .Lambda args body sc lp=>l1 args.args .bad λp=>bif Gh σ args p body sc lp then .pM (rec σ src) (rec ⟨[(p.arg,.local)],[(p.arg,0)],false⟩ body) else .bad
 |_=>.bad
def Gj(rec:CE)(σ:Sc)(src key:Expr):E:=match key with
 | .Attribute o m _=>om (mr m atT) .bad λn=>.kT (rec σ src) (cB rec σ o) n true
 |_=>.bad
noncomputable def Gk:oF->Bool
 | .bool b=>b
 |_=>false
noncomputable def Gl:oF->Bool
 | .none=>true
 |_=>false
noncomputable def Ak(k:km)(x:Str):Bool:=k.arg.any λy=>decide<|y=x
def Al(rec:CE)(σ:Sc)(src:Expr)(k:km)(ks:List km):E:=
 bif Ak k (am "key") then (match ks with
  | []=>Gi rec σ src k.value
  |k2::r=>bif r.isEmpty&&(Ak k2 (am "reverse")&&(nQ k2.value).any Gk) then Gj rec σ src k.value else .bad) else .bad
def vm(rec:CE)(σ:Sc)(o:Expr)(m:Str)(as:List Expr):E:=om (mr m atT) .bad λn=>.l7 (cB rec σ o) n<|aU rec σ as
def Am(rec:CE)(σ:Sc)(o:Expr)(m:Str)(as:List Expr):E:=match as with
 | []=>if m=am "pop" then .lm .pop (cB rec σ o) .nil else vm rec σ o m []
 |a::r=>bif r.isEmpty then (if m=am "append" then .lm .append (cB rec σ o) (aU rec σ [a]) else if m=am "extend" then .lm .extend (cB rec σ o) (aU rec σ [a]) else vm rec σ o m (a::r))
  else if m=am "get" then l1 r .bad λb=>bif (nQ b).any Gl then .lm .fN (cB rec σ o) (aU rec σ [a]) else .bad else vm rec σ o m (a::r)
def Gm(rec:CE)(σ:Sc)(x m:Str)(as:List Expr):E:=
 bif bN σ x then (match jX.lookup x with
  |some c=>if m=am "__init__" then (bif a6 c 10||a6 c 18 then .bad else om (gu.lookup c) .bad λcd=>.call cd.init<|aU rec σ as) else .bad
  |none=>if x=am "NAMES" then (if m=am "index" then l1 as .bad λa=>.prim .nameAt (aU rec σ [a]) else .bad) else .bad) else .bad
def Gn(rec:CE)(σ:Sc)(o:Expr)(m:Str)(as:List Expr):E:=match o with
 | .Name x _=>bif (isVar σ x).isSome then Am rec σ o m as else Gm rec σ x m as
 |_=>Am rec σ o m as
def RP(e:Expr):Bool:=om (nQ e) false λk=>om (Ab k) false λi=>decide<|i=1
def Go(e:Expr):Bool:=om (F8 e) false RP
def Gp(rec:CE)(σ:Sc)(o:Expr)(lo hi st:Option Expr):E:=match st with
 |none=>(match lo with
  |none=>om hi .bad λb=>.prim .sliceTo (gK (rec σ o)<|rec σ b)
  |some a=>om hi (.prim .sliceFrom (gK (rec σ o)<|rec σ a)) λb=>.prim .slice (Gb (rec σ o) (rec σ a)<|rec σ b))
 |some e=>bif lo.isNone&&(hi.isNone&&Go e) then .prim .rev (kZ<|rec σ o) else .bad
def Gq(rec:CE)(σ:Sc)(o s:Expr):E:=match s with
 | .Slice lo hi st _=>Gp rec σ o lo hi st
 | .Starred _ _=>.bad
 |i=>.prim .item (gK (rec σ o)<|rec σ i)
def Gs(t:Expr):List Str:=om (ji t) (mw t).toList λes=>es.filterMap mw
def An(σ:Sc)(sc:cC)(p:Str×NameKind):Bool:=match p.2 with
 | .cell=>false
 | .local=>vj<|sc.names.lookup p.1
 | .free=>Ah (σ.kinds.lookup p.1)&&(σ.slots.lookup p.1).isSome
 |_=>true
def Ao(σ σ':Sc)(p:Str×NameKind):Bool:=match p.2 with
 | .local=>(match σ'.slots.lookup p.1 with
  |some i=>dD (cj σ) i
  |none=>true)
 | .cell=>Gg (σ'.slots.lookup p.1)<|σ.slots.lookup p.1
 |_=>true
def Gu(σ:Sc)(sc:cC)(σ':Sc)(t:Expr):Bool:=
 my σ' t&&sc.kind == .function&&vk σ'&&(sc.names.all<|An σ sc)&&(σ'.kinds.all<|Ao σ σ')&&((Gs t).all λx=>vj<|σ'.kinds.lookup x)
def Gv(rec:CE)(σ:Sc)(a b:Expr):xS->E
 | .Add=>.prim .add (gK (rec σ a)<|rec σ b)
 | .Sub=>.prim .sub (gK (rec σ a)<|rec σ b)
 | .Mult=>.prim .mul (gK (rec σ a)<|rec σ b)
 | .Mod=>.prim .mod (gK (rec σ a)<|rec σ b)
 |_=>.bad
def Gw(rec:CE)(σ:Sc)(a:Expr):Dv->E
 | .Not=>.not<|rec σ a
 | .USub=>.prim .neg (kZ<|rec σ a)
 |_=>.bad
noncomputable def isSet(e:Expr):Bool:=a6 e.ctorIdx 7
def Gx(rec:CE)(σ:Sc)(a:Expr)(ops:List oG)(bs:List Expr):E:=match ops with
 | []=>.bad
 |op::r=>bif r.isEmpty then l1 bs .bad λb=>bif isSet b then .bad else .prim (.cmp<|jY op) (gK (rec σ a)<|rec σ b)
  else l1 r .bad λo2=>l2 bs .bad λb c=>bif isSet c then .bad else .chain (rec σ a) (jY op) (rec σ b) (jY o2) (rec σ c)
def Gy(rec:CE)(σ:Sc)(ks:List (Option Expr))(vs:List Expr):E:=om (jh<|ks.map constInt) .bad λis=>bif decide (is.length=vs.length)&&(jh (vs.map λv=>constInt<|some v)).isSome then .prim (.dict is) (aU rec σ vs) else .bad
def Ap(rec:CE)(σ:Sc)(elt:Expr)(gs:List Dw)(sc:cC):E:=l1 gs .bad λg=>bif decide (g.is_async=0)&&Gu σ sc (cX σ sc<|cj σ) g.target then .comp (targets (cX σ sc<|cj σ) g.target) (rU rec σ g.iter) (aU rec (cX σ sc<|cj σ) g.ifs) (rec (cX σ sc<|cj σ) elt) else .bad
def Gz(rec:CE)(σ:Sc)(f:Expr)(as:List Expr)(ks:List km)(cp:Pos):E:=bif as.all notStar then (match f with
 | .Name x _=>(match ks with
  | []=>Ag rec σ x as
  |k::ks=>l1 as .bad λa=>bif decide (x=am "sorted")&&bN σ x then Al rec σ a k ks else .bad)
 | .Attribute o m ap=>bif ks.isEmpty&&(aR as.length 29&&ap.endLine == cp.line) then Gn rec σ o m as else .bad
 |_=>.bad) else .bad
def Aq(rec:CE)(σ:Sc):Expr->E
 | .Name x _=>F9 σ x
 | .Constant c _ _=>Ga c
 | .Attribute o a _=>om (mr a atT) .bad λn=>.prim (.attr n) (kZ<|cB rec σ o)
 | .Subscript o s _=>Gq rec σ o s
 | .BinOp a op b _=>Gv rec σ a b op
 | .UnaryOp op a _=>Gw rec σ a op
 | .BoolOp op vs _=>cBool rec σ op vs
 | .IfExp c a b _=>.ite (rec σ c) (rec σ a)<|rec σ b
 | .Compare a ops bs _=>Gx rec σ a ops bs
 | .Tuple es _ _=>.prim .tup<|aU rec σ es
 | .List es _=>.prim .list<|aU rec σ es
 | .Dict ks vs _=>Gy rec σ ks vs
 | .ListComp elt gs sc _=>Ap rec σ elt gs sc
 | .Call f as ks cp=>Gz rec σ f as ks cp
 |_=>.bad
def aZ:Nat->CE
 |0=>λ_ _=>.bad
 |n+1=>Aq<|aZ n
noncomputable def fuel:Nat:=24
def GA(σ:Sc)(o:Expr)(lo hi st:Option Expr):T:=bif st.isNone then om lo (.attr .bad 0) λa=>om hi (.attr .bad 0) λb=>.slice (aZ fuel σ o) (aZ fuel σ a) (aZ fuel σ b) else .attr .bad 0
def GB(σ:Sc)(o s:Expr):T:=match s with
 | .Slice lo hi st _=>GA σ o lo hi st
 |i=>.item (aZ fuel σ o)<|aZ fuel σ i
def cT(σ:Sc):Expr->T
 | .Name x _=>om (isVar σ x) (.attr .bad 0) .loc
 | .Attribute o a _=>om (mr a atT) (.attr .bad 0) λn=>.attr (aZ fuel σ o) n
 | .Subscript o s _=>GB σ o s
 |_=>.attr .bad 0
def iL(σ:Sc):List Expr->Ts
 | []=>.nil
 |e::r=>.cons (cT σ e)<|iL σ r
def eM(σ:Sc):Expr->T
 | .Tuple es _ _=>if es.all notStar then .tup (iL σ es) else .attr .bad 0
 |e=>cT σ e
abbrev CS:=Sc->Stmt->S
noncomputable def j3(rec:CS)(σ:Sc):List Stmt->Ss
 | []=>.nil
 |s::r=>.cons (rec σ s)<|j3 rec σ r
noncomputable def pR(e:Expr):Bool:= !(dD 8 e.ctorIdx&&dD e.ctorIdx 10)
def GC(σ:Sc)(t v:Expr):Bool:=bif pR v then om (ji t) true λes=>om (ji v) true λvs=>(!(vs.all<|xT 8)||vs.all (xU 8))&&om (fu σ es) true jZ else (mw t).isSome
def RR(rec:CS)(σ:Sc):Stmt->S
 | .Assign ts v _=>l1 ts .bad λt=>bif GC σ t v then .ag (eM σ t) (aZ fuel σ v) else .bad
 | .Expr v _=>bif pR v then .expr (aZ fuel σ v) else .bad
 | .If c a b _=>.ite (aZ fuel σ c) (j3 rec σ a)<|j3 rec σ b
 | .While c b e _=>bif e.isEmpty then .while (aZ fuel σ c) (j3 rec σ b) else .bad
 | .For t it b e _=>bif e.isEmpty&&my σ t then .for (targets σ t) (rU (aZ fuel) σ it) (j3 rec σ b) else .bad
 | .Return v _=>om v (.ret<|.cst .none) λv=>.ret<|aZ fuel σ v
 |_=>.bad
def pS:Nat->CS
 |0=>λ_ _=>.bad
 |n+1=>RR<|pS n
noncomputable def dW(d:dC×List Stmt×cC):List Str:=d.1.args.map (·.arg)
def slotsOf(d:dC×List Stmt×cC):List Str:=
 dW d++d.2.2.names.filterMap λ(n,k)=>if (k == .local||k == .cell)&& !((dW d).contains n) then some n else none
def mz(d:dC×List Stmt×cC):Sc:=⟨d.2.2.names,(slotsOf d).zipIdx,d.2.2.names.any λp=>p.1 == am "beyond"⟩
noncomputable def k7:Expr->V
 | .Constant .none _ _=>.none
 | .Constant (.bool b) _ _=>.bool b
 | .Constant (.int i) _ _=>.int i
 |_=>.none
def vn(d:dC×List Stmt×cC):FD:=⟨(dW d).length,(slotsOf d).length+2,d.1.defaults.map k7,j3 (pS fuel) (mz d) d.2.1⟩
theorem d6{α β:Type}{P:β->Prop}{o:Option α}{d:β}{f:α->β}(h:∀a,o=some a->P (f a))(h0:P d):P (om o d f):=by
 induction o with
 |none=>exact h0
 |some a=>exact h a ag0
theorem iM{α β:Type}{P:β->Prop}{l:List α}{d:β}{f:α->β}(h:∀a,l= [a]->P (f a))(h0:P d):P (l1 l d f):=by
 induction l with
 |nil=>exact h0
 |cons a r=>
  induction r with
  |nil=>exact h a ag0
  |cons _ _=>exact h0
variable{b:Bool}
theorem ba{β:Type}{P:β->Prop}{x y:β}(h:b->P x)(h0:b=false->P y):P (bif b then x else y):=by
 induction b with
 |true=>exact h ag0
 |false=>exact h0 ag0
variable{p:Prop}
theorem aW{β:Type}{P:β->Prop}[Decidable p]{x y:β}(h:p->P x)(h0:¬p->P y):P (if p then x else y):=if q:p then (agX P<|if_pos q).mpr (h q) else (agX P<|if_neg q).mpr (h0 q)
variable{i:Nat}{x:Str}{σ:Sc}
theorem GD(e:isVar σ x=some i){P:Prop}(l:σ.kinds.lookup x=some .local->σ.slots.lookup x=some i->P)(c:σ.kinds.lookup x=some .cell->σ.slots.lookup x=some i->P):P:=
 ob e λk h e=>by
  induction k with
  |«local»=>exact l h e
  |cell=>exact c h e
  |_=>exact nn e
theorem vq(e:bN σ x):σ.kinds.lookup x=some .globalImplicit:=
 ((eC ..).mp e).elim λk h=>by
  induction k with
  |globalImplicit=>exact h.1
  |_=>exact nb h.2
variable{l:List Str}
theorem rV:∀{n:Nat},mr x l=some n->l[n]? = some x:=by
 induction l with
 |nil=>exact λe=>nn e
 |cons y r ih=>exact λ{n} e=>aW (P:=λo=>o=some n->(y::r)[n]? = some x) (λq e=>av e▸agX some q.symm) (λ_ e=>(bF.mp e).elim λm h=>h.2▸(tS).trans (ih h.1)) e
def bV:List Nat:=zC.map (·.1)
def cA:List Nat:=crA.map (·.1)
def k8:List (Str×Str×Value×Value×Nat):=zC.map λr=>(r.2.2.1,r.2.2.2.1,r.2.2.2.2.1,r.2.2.2.2.2.1,r.1-1)
noncomputable def PT:Nat:=1602
def KX(P:aD):List (Nat×Obj):=(KN P).filter λp=> !(a6 p.1 1602)
noncomputable def isRef(o:Option (Option Value))(a:Nat):Bool:=decide<|o=some (some<|.ref a)
noncomputable def vt(o:Option (Option Value)):Bool:=decide<|o=some none
noncomputable def vv:List Str:=[am "len",am "abs",am "sum",am "list",am "tuple",am "sorted",am "min",am "max",am "isinstance",am "bool",am "int",am "range"]
def RS(P:aD):Bool:=kY.all λp=>isRef (nsIn (KX P) dE p.1)<|bV.getD p.2 0
def RU(P:aD):Bool:=jX.all λp=>isRef (nsIn (KX P) dE p.1)<|cA.getD p.2 0
def RV(P:aD):Bool:=vv.all λx=>vt<|nsIn (KX P) dE x
theorem RW(P:aD):RS P:=by kernel_rfl
theorem RX(P:aD):RU P:=by kernel_rfl
theorem RY(P:aD):RV P:=by kernel_rfl
noncomputable def nR(o:Option (Option Value))(x:String):Bool:=decide<|o=some (some<|.builtin x)
def Ar(K:Frag)(a:Nat):Bool:=tT K (.ref a)&&(fnIn K a&&isFn K (.ref a))
def GE(K:Frag)(C:Nat)(cd:CD):Bool:=
 makesIn K C&&((clsIn K C).any (λx=>x.hasDict&&onlyObject x.mro)&&(nR (gb K (.ref C) "__getattribute__") "object.__getattribute__"&&(vt (gb K (.ref C) "__getattr__")&&
  (nR (gb K (.ref C) "__setattr__") "object.__setattr__"&&(isRef (gb K (.ref C) "__init__") (bV.getD cd.init 0)&&
  (cd.fields.all (λf=>vt (gb K (.ref C)<|atT.getD f gW)&& !(cd.meths.any λm=>a6 m.1 f))&&
  cd.meths.all (λm=>isRef (gb K (.ref C)<|atT.getD m.1 gW) (bV.getD m.2 0)&&Ar K (bV.getD m.2 0))))))))
def R0(K:Frag)(c:Nat):Bool:=(gu.lookup c).any (GE K<|cA.getD c 0)
def R1(P:aD):Bool:=(aT 20).all λc=>a6 c 10||a6 c 18||R0 (KX P) c
def R2(P:aD):Bool:=bV.all λa=>Ar (KX P) a
theorem R3(P:aD):R2 P:=by kernel_rfl
theorem R4(P:aD):R1 P:=by kernel_rfl
noncomputable def tyB:Nat->Option Value
 |0=>some<|.type "NoneType"
 |1=>some<|.type "bool"
 |2=>some<|.type "int"
 |3=>some<|.type "str"
 |4=>some<|.type "tuple"
 |5=>some<|.type "list"
 |_=>none
def rW(t:Nat):Option Value:=bif dD 100 t then (cA[t-100]?).map .ref else tyB t
noncomputable def nS(o:Option Bool)(b:Bool):Bool:=decide<|o=some b
def GG(K:Frag)(t:Nat)(v:Value):Bool:=nS (tU K v<|.type "bool") (t == 1)&&(nS (tU K v<|.type "int") (t == 1||t == 2)&&(nS (tU K v<|.type "tuple") (t == 4)&&nS (tU K v (.ref<|cA.getD 9 0)) (t == 109)))
def nT(K:Frag)(t:Nat):Bool:=(rW t).any<|GG K t
def GH(K:Frag)(D:Addr):Bool:=plainGet K D "__class__"&&(hasDictIn K D&&(nR (gb K (.ref D) "__class__") "object.__class__"&&(nR (tV K (.builtin "object.__class__") "__get__") "getset_descriptor.__get__"&&
 (nS (Dx K<|.builtin "object.__class__") true&&nS (mroIn K D<|.type "object") true))))
def R5(P:aD):Bool:=(aT 6).all (nT<|KX P)&&(aT 20).all λk=>(a6 k 10||a6 k 18)||(nT (KX P) (100+k)&&GH (KX P) (cA.getD k 0))
theorem GI(P:aD):R5 P:=by kernel_rfl
def R6(P:aD):Bool:=bV.all λa=>nR (tV (KX P) (.ref a) "__get__") "function.__get__"&&decide (Dx (KX P) (.ref a)=some false)
theorem R7(P:aD):R6 P:=by kernel_rfl
def R8:Bool:=atT.all λx=> !(copiedNames.contains x)
theorem R9:R8:=by decide +kernel
def G:d5:=⟨λf=>if f<Aa then some (vn<|fnAt f) else none,λc=>bif a6 c 10||a6 c 18 then none else gu.lookup c⟩
variable{d:FD}{k:Nat}
theorem R'(h:k<Aa)(e:vn (fnAt k)=d):G.fn k=some d:=(if_pos h).trans<|agX some e
variable{a:Addr}{h h':Heap}{w:bb}{X:Addr->Prop}{H:Hp}{p:Addr×Addr}{xs:Array Value}{fs:List V}{c:Nat}{F:List Nat}{x:List (Int×Value)}{v:List (Int×V)}
abbrev aK:=List<|Addr×Addr
def Mu(ρ:aK)(b:Addr):Prop:=∃p∈ρ,p.2=b
def c8:List Int->List Value->Prop
 | [],xs=>xs= []
 |i::r,xs=>cE xs λx xs=>(∃t,x= .int i t)/\c8 r xs
mutual
def VR(ρ:aK)(h:Heap):V->Value->Prop
 | .none,v=>v= .none
 | .bool b,v=>v= .bool b
 | .int i,v=>∃t,v= .int i t
 | .str n,v=>∃x t,fT[n]? = some x/\v= .str x t
 | .ref a,v=>∃p,ρ[a]? = some p/\v= .ref p.1
 | .tup vs,v=>∃a xs,v= .ref a/\cq h a xs.toArray/\¬Mu ρ a/\aA ρ h vs xs/\vs.length<=lim
def aA(ρ:aK)(h:Heap):List V->List Value->Prop
 | [],xs=>xs= []
 |v::vs,xs=>cE xs λx xs=>VR ρ h v x/\aA ρ h vs xs
end
def FR(ρ:aK)(h:Heap):List Nat->List V->List DictEntry->Prop
 |_,[],es=>es= []
 |F,v::vs,es=>cE F λf F=>cE es λe es=>(∃x t,atT[f]? = some x/\e.key= .str x t)/\VR ρ h v e.val/\FR ρ h F vs es
def PR(ρ:aK)(h:Heap):List (Int×V)->List (Int×Value)->Prop
 | [],s=>s= []
 |p::r,s=>cE s λe s=>p.1=e.1/\VR ρ h p.2 e.2/\PR ρ h r s
noncomputable def gL:Str:=am "_law_strings.<locals>."++am "<lambda>"
def Sa(ρ:aK)(o:Option Nat)(ps:Array Value):Prop:=match o with
 |none=>ps= #[]
 |some i=>∃q,ρ[i]? = some q/\ps= #[gE 1155,gE 60,.ref q.1]
def OR(w:bb)(ρ:aK)(h:Heap)(p:Addr×Addr):O->Prop
 | .inst c fs=>∃C cd es n,cA[c]? = some C/\gu.lookup c=some cd/\h.get? p.1=some (jx C p.2)/\h.get? p.2=some (jy es n)/\FR ρ h cd.fields fs es
 | .list vs=>p.1=p.2/\∃xs n,IsL h p.1 xs.toArray n/\aA ρ h vs xs/\vs.length<=lim
 | .fix ns=>p.1=p.2/\∃xs n,IsL h p.1 xs.toArray n/\c8 ns xs/\ns.length<=lim
 | .dict kvs=>p.1=p.2/\∃ks,h.DictOf (kq pw w) p.1 ks/\PR ρ h kvs ks
 | .tab o=>p.1=p.2/\p.1=PT/\∃ps,h.get? p.1=some (gc ps)/\Sa ρ o ps
 | .aux=>p.1≠p.2/\h.CodeRec (.ref p.1) gL/\(∃o,h.get? p.1=some o/\o.cls= .type "code")/\∃o,h.get? p.2=some o
structure HR(w:bb)(hb:Heap)(ρ:aK)(H:Hp)(h:Heap):Prop where
 base:∀b o,hb.get? b=some o->h.get? b=some o
 len:ρ.length=H.length
 obj:∀(i:Nat) (p:Addr×Addr) (o:O),ρ[i]? = some p->H[i]? = some o->OR w ρ h p o
 new:∀(i:Nat) (p:Addr×Addr) (o:O),ρ[i]? = some p->H[i]? = some o->(∀ns,o≠ .fix ns)->hb.get? p.1=none/\hb.get? p.2=none
 inj:∀(i j:Nat) (p q:Addr×Addr),ρ[i]? = some p->ρ[j]? = some q->i≠j->p.1≠q.1/\p.1≠q.2/\p.2≠q.2
def db(o:Obj):Prop:=o.cls= .type "tuple"->∀xs n,o.data≠ .seq xs n
structure Kp(X:Addr->Prop)(ρ ρ':aK)(h h':Heap):Prop where
 live:∀b o,h.get? b=some o->∃o',h'.get? b=some o'/\(db o->db o')
 more:∃m,ρ'=ρ++m/\∀p∈m,h.get? p.1=none/\h.get? p.2=none
 keep:∀b o,h.get? b=some o->¬Mu ρ b->¬X b->h'.get? b=some o
def eX(X:Addr->Prop)(h:Heap):Prop:=∀b o,X b->h.get? b=some o->db o
abbrev dX:Addr->Prop:=λ_=>False
theorem hW(h:Heap):eX dX h:=λ_ _ x=>x.elim
theorem cQ{o:Obj}{P:Prop}(n:h.get? a=none)(e:h.get? a=some o):P:=nn<|n.symm.trans e
theorem gone(k:∀o,h.get? a=some o->∃o',h'.get? a=some o')(n:h'.get? a=none):h.get? a=none:=by
 cases e:h.get? a with
 |none=>rfl
 |some o=>exact (k o e).elim λ_=>cQ n
section
variable{Y:Addr->Prop}{ρ ρ' ρ'' m:aK}{h'' hb:Heap}{b:Addr}{o:Obj}
theorem Kp.refl(X:Addr->Prop)(ρ:aK)(h:Heap):Kp X ρ ρ h h:=⟨λ_ o e=>⟨o,e,id⟩,⟨[],(bc ρ).symm,nofun⟩,λ_ _ e _ _=>e⟩
theorem Mu.more(x:Mu ρ b):Mu (ρ++m) b:=x.imp λ_ h=>⟨cJ _ h.1,h.2⟩
theorem Kp.mu(k:Kp X ρ ρ' h h')(e:h.get? b=some o)(n:¬Mu ρ b):¬Mu ρ' b:=λq=>
 k.more.elim λ_ hm=>q.elim λp hp=>(b9.mp<|hm.1▸hp.1).elim (λq=>n ⟨p,q,hp.2⟩) λq=>cQ (hm.2 p q).2<|hp.2▸e
theorem Kp.trans(k:Kp X ρ ρ' h h')(l:Kp X ρ' ρ'' h' h''):Kp X ρ ρ'' h h'':=
 have lv:∀b o,h.get? b=some o->∃o',h'.get? b=some o':=λb o e=>(k.live b o e).imp λ_=>tW
 ⟨λb o e=>(k.live b o e).elim λo' e1=>(l.live b o' e1.1).imp λ_ e2=>⟨e2.1,λq=>e2.2<|e1.2 q⟩,
  k.more.elim λm hm=>l.more.elim λm' hm'=>⟨m++m',hm'.1.trans ((agX (· ++ m') hm.1).trans<|aJ ..),λp hp=>(b9.mp hp).elim (hm.2 p) λq=>⟨gone (lv _) (hm'.2 p q).1,gone (lv _) (hm'.2 p q).2⟩⟩,
  λb o e n x=>l.keep b o (k.keep b o e n x) (k.mu e n) x⟩
theorem Kp.weak(k:Kp X ρ ρ' h h')(i:∀b o,h.get? b=some o->X b->Y b):Kp Y ρ ρ' h h':=⟨k.live,k.more,λb o e n x=>k.keep b o e n λq=>x<|i b o e q⟩
theorem Kp.pre(k:Kp X ρ ρ' h h')(e:ρ[i]? = some p):ρ'[i]? = some p:=k.more.elim λ_ hm=>(agX (·[i]?) hm.1).trans<|(oD<|fM e).trans e
structure Gr(ρ ρ':aK)(h h':Heap):Prop where
 pre:∀(i:Nat) (p:Addr×Addr),ρ[i]? = some p->ρ'[i]? = some p
 tup:∀a xs,cq h a xs->¬Mu ρ a->cq h' a xs/\¬Mu ρ' a
theorem IsTup.kp(k:Kp X ρ ρ' h h')(nx:eX X h)(t:cq h a xs)(n:¬Mu ρ a):cq h' a xs/\¬Mu ρ' a:=
 t.elim λo t=>t.2.2.elim λm d=>⟨⟨o,k.keep a o t.1 n λq=>nx a o q t.1 t.2.1 _ _ d,t.2.1,m,d⟩,k.mu t.1 n⟩
theorem Kp.gr(k:Kp X ρ ρ' h h')(nx:eX X h):Gr ρ ρ' h h':=⟨λ_ _=>k.pre,λ_ _=>IsTup.kp k nx⟩
mutual
theorem VR.gr(k:Gr ρ ρ' h h'):∀{v:V} {x:Value},VR ρ h v x->VR ρ' h' v x
 | .none,_,r=>r
 | .bool _,_,r=>r
 | .int _,_,r=>r
 | .str _,_,r=>r
 | .ref _,_,r=>r.imp λp e=>⟨k.pre _ _ e.1,e.2⟩
 | .tup _,_,r=>r.imp λa r=>r.imp λxs r=>⟨r.1,(k.tup _ _ r.2.1 r.2.2.1).1,(k.tup _ _ r.2.1 r.2.2.1).2,aA.gr k r.2.2.2.1,r.2.2.2.2⟩
theorem aA.gr(k:Gr ρ ρ' h h'):∀{vs:List V} {xs:List Value},aA ρ h vs xs->aA ρ' h' vs xs
 | [],_,r=>r
 |_::_,_,r=>cE.k r λ_ _ e r=>cE.of e ⟨VR.gr k r.1,aA.gr k r.2⟩
end
theorem FR.gr(k:Gr ρ ρ' h h'):∀{F:List Nat} {vs:List V} {es:List DictEntry},FR ρ h F vs es->FR ρ' h' F vs es:=λ{F vs}=>by
 induction vs generalizing F with
 |nil=>exact id
 |cons v vs ih=>exact λr=>cE.k r λ_ _ e r=>cE.k r λ_ _ e' r=>cE.of e<|cE.of e' ⟨r.1,r.2.1.gr k,ih r.2.2⟩
theorem PR.gr(k:Gr ρ ρ' h h'):∀{vs:List (Int×V)} {es:List (Int×Value)},PR ρ h vs es->PR ρ' h' vs es:=λ{vs}=>by
 induction vs with
 |nil=>exact id
 |cons f F ih=>exact λr=>cE.k r λ_ _ e r=>cE.of e ⟨r.1,r.2.1.gr k,ih r.2.2⟩
theorem OR.inst{o:O}{P:Prop}(r:OR w ρ h p o)(e:o= .inst c fs)(k:∀C cd es n,cA[c]? = some C->gu.lookup c=some cd->h.get? p.1=some (jx C p.2)->h.get? p.2=some (jy es n)->FR ρ h cd.fields fs es->P):P:=by subst e;exact r.elim λC r=>r.elim λcd r=>r.elim λes r=>r.elim λn r=>k C cd es n r.1 r.2.1 r.2.2.1 r.2.2.2.1 r.2.2.2.2
theorem OR.gr{o:O}(k:Gr ρ ρ' h h')(r:OR w ρ h p o)(k1:h'.get? p.1=h.get? p.1)(k2:h'.get? p.2=h.get? p.2):OR w ρ' h' p o:=by
 induction o with
 |inst c fs=>exact r.inst ag0 λC cd es n a b d e f=>⟨C,cd,es,n,a,b,k1.trans d,k2.trans e,f.gr k⟩
 |list vs=>exact ⟨r.1,r.2.imp λxs r=>r.imp λn r=>⟨k1.trans r.1,r.2.1.gr k,r.2.2⟩⟩
 |fix ns=>exact ⟨r.1,r.2.imp λxs r=>r.imp λn r=>⟨k1.trans r.1,r.2⟩⟩
 |dict kvs=>exact ⟨r.1,r.2.imp λks r=>⟨r.1.imp λo r=>r.imp λes r=>r.imp λep r=>⟨k1.trans r.1,r.2⟩,r.2.gr k⟩⟩
 |tab o=>exact ⟨r.1,r.2.1,r.2.2.imp λps r=>⟨k1.trans r.1,by
  induction o with
  |none=>exact r.2
  |some i=>exact r.2.imp λq r=>⟨k.pre _ _ r.1,r.2⟩⟩⟩
 |aux=>exact ⟨r.1,r.2.1.at λo e=>k1.trans e,r.2.2.1.imp λo r=>⟨k1.trans r.1,r.2⟩,r.2.2.2.imp λo r=>k2.trans r⟩
theorem VR.kp{v:V}{x:Value}(k:Kp X ρ ρ' h h')(nx:eX X h)(r:VR ρ h v x):VR ρ' h' v x:=r.gr<|k.gr nx
theorem aA.kp{v:List V}{x:List Value}(k:Kp X ρ ρ' h h')(nx:eX X h)(r:aA ρ h v x):aA ρ' h' v x:=r.gr<|k.gr nx
theorem FR.kp{v:List V}{x:List DictEntry}(k:Kp X ρ ρ' h h')(nx:eX X h)(r:FR ρ h F v x):FR ρ' h' F v x:=r.gr<|k.gr nx
theorem PR.kp(k:Kp X ρ ρ' h h')(nx:eX X h)(r:PR ρ h v x):PR ρ' h' v x:=r.gr<|k.gr nx
theorem OR.kp{o:O}(k:Kp X ρ ρ' h h')(nx:eX X h)(r:OR w ρ h p o)(k1:h'.get? p.1=h.get? p.1)(k2:h'.get? p.2=h.get? p.2):OR w ρ' h' p o:=r.gr (k.gr nx) k1 k2
theorem HR.at{o:O}(R:HR w hb ρ H h)(e:H[i]? = some o):∃p,ρ[i]? = some p/\OR w ρ h p o:=
 have l:i<ρ.length:=R.len▸fM e
 ⟨ρ[i],de l,R.obj i _ o (de l) e⟩
theorem HR.mem(R:HR w hb ρ H h)(hp:p∈ρ):∃(i:Nat) (o:O),ρ[i]? = some p/\H[i]? = some o:=
 (Ny.mp hp).elim λi e=>⟨i,_,e,de<|R.len▸fM e⟩
theorem OR.pT{o:O}(r:OR w ρ h p o):(∃x,h.get? p.1=some x)/\∃x,h.get? p.2=some x:=by
 induction o with
 |inst c fs=>exact r.inst ag0 λC cd es n a b d e f=>⟨⟨_,d⟩,_,e⟩
 |list vs=>exact r.2.elim λxs q=>q.elim λn q=>⟨⟨_,q.1⟩,_,r.1▸q.1⟩
 |fix ns=>exact r.2.elim λxs q=>q.elim λn q=>⟨⟨_,q.1⟩,_,r.1▸q.1⟩
 |dict kvs=>exact r.2.elim λks q=>q.1.elim λo q=>q.elim λes q=>q.elim λep q=>⟨⟨_,q.1⟩,_,r.1▸q.1⟩
 |tab o=>exact r.2.2.elim λps q=>⟨⟨_,q.1⟩,_,r.1▸q.1⟩
 |aux=>exact ⟨r.2.2.1.imp λ_=>tW,r.2.2.2⟩
theorem HR.alive(R:HR w hb ρ H h)(hp:p∈ρ):(∃x,h.get? p.1=some x)/\∃x,h.get? p.2=some x:=(R.mem hp).elim λ_ a=>a.elim λ_ a=>(R.obj _ _ _ a.1 a.2).pT
theorem HR.fresh(R:HR w hb ρ H h)(e:h.get? b=none):hb.get? b=none:=gone (λo q=>⟨o,R.base b o q⟩) e
theorem HR.side(R:HR w hb ρ H h)(nx:eX X h)(lv:∀b o,h.get? b=some o->X b->∃o',h'.get? b=some o'/\db o')(hx:∀b,X b->hb.get? b=none/\∀p∈ρ,p.1≠b/\p.2≠b)(k:∀b o,h.get? b=some o->¬X b->h'.get? b=some o):HR w hb ρ H h'/\Kp X ρ ρ h h':=
 have K:Kp X ρ ρ h h':=⟨λb o e=>(Classical.em<|X b).elim (λq=>(lv b o e q).imp λ_ e=>⟨e.1,λ_=>e.2⟩) λq=>⟨o,k b o e q,id⟩,⟨[],(bc ρ).symm,nofun⟩,λb o e _ x=>k b o e x⟩
 ⟨⟨λb o e=>k b o (R.base b o e) λq=>cQ (hx b q).1 e,R.len,λi p o e1 e2=>
  have O:=R.obj i p o e1 e2;have hp:=cG e1
  O.pT.1.elim λ_ d=>O.pT.2.elim λ_ e=>O.kp K nx ((k _ _ d λq=>((hx _ q).2 p hp).1 ag0).trans d.symm)<|(k _ _ e λq=>((hx _ q).2 p hp).2 ag0).trans e.symm,R.new,R.inj⟩,K⟩
theorem HR.ext(R:HR w hb ρ H h)(k:∀b o,h.get? b=some o->h'.get? b=some o):HR w hb ρ H h'/\Kp dX ρ ρ h h':=R.side (hW h) (λ_ _ _ q=>q.elim) (λ_ q=>q.elim) λb o e _=>k b o e
theorem HR.push(R:HR w hb ρ H h)(o:Obj):HR w hb ρ H (h.push o)/\Kp dX ρ ρ h (h.push o):=R.ext λb o' e=>dG o e
theorem HR.upd{o:O}(R:HR w hb ρ H h)(e:ρ[i]? = some p)(s:gF p.2 h h')(r:OR w ρ h' p o)(hc:∀x',h'.get? p.2=some x'->db x')(hn:∀ns,H[i]? ≠ some (.fix ns))(hn':∀ns,o≠ .fix ns):HR w hb ρ (H.set i o) h'/\Kp dX ρ ρ h h':=
 have K:Kp dX ρ ρ h h':=⟨λb x q=>(dz<|b=p.2).elim (λz=>r.pT.2.elim λx' e'=>⟨x',z▸e',λ_=>hc _ e'⟩) λz=>⟨x,(s.2 b z).trans q,id⟩,
  ⟨[],(bc ρ).symm,nofun⟩,λb x q n _=>(s.2 b λz=>n ⟨p,cG e,z.symm⟩).trans q⟩
 have at':=de (R.len▸fM e:i<H.length);have pn:=R.new i p _ e at' λns q=>hn ns (at'.trans (agX some q))
 ⟨⟨λb x q=>(s.2 b λz=>cQ pn.2<|z▸q).trans<|R.base b x q,R.len.trans tR.symm,
  λj q x e1 e2=>uV e2 (λn e2=>(R.obj j q x e1 e2).kp K (hW h) (s.2 _ (R.inj j i q p e1 e<|cU n).2.1) (s.2 _<|cU (R.inj i j p q e e1 n).2.2)) λz y=>y▸av (e.symm.trans<|z▸e1)▸r,
  λj q x e1 e2 nf=>uV e2 (λ_ e2=>R.new j q x e1 e2 nf) λz _=>av (e.symm.trans<|z▸e1)▸pn,R.inj⟩,K⟩
theorem HR.add{o:O}(R:HR w hb ρ H h)(k:∀b x,h.get? b=some x->h'.get? b=some x)(n1:h.get? p.1=none)(n2:h.get? p.2=none)(r:OR w (ρ++ [p]) h' p o):
 HR w hb (ρ++ [p]) (H++ [o]) h'/\Kp dX ρ (ρ++ [p]) h h':=
 have K:Kp dX ρ (ρ++ [p]) h h':=⟨λb x q=>⟨x,k b x q,id⟩,⟨[p],ag0,λq hq=>cr.mp hq▸⟨n1,n2⟩⟩,λb x q _ _=>k b x q⟩
 have ap:∀{q:Addr×Addr},q∈ρ->(q.1≠p.1/\q.1≠p.2/\q.2≠p.2)/\q.2≠p.1:=λ{q} hq=>(R.alive hq).1.elim λx a=>(R.alive hq).2.elim λy b=>
  ⟨⟨λz=>cQ n1<|z▸a,λz=>cQ n2<|z▸a,λz=>cQ n2<|z▸b⟩,λz=>cQ n1<|z▸b⟩
 ⟨⟨λb x q=>k b x<|R.base b x q,(aX ..).trans<|(agX (· + 1) R.len).trans (aX (as:=H) (bs:=[o])).symm,
  λj q x e1 e2=>uT R.len e1 e2 (λe1 e2=>(R.obj j q x e1 e2).pT.1.elim λ_ d=>(R.obj j q x e1 e2).pT.2.elim λ_ e=>(R.obj j q x e1 e2).kp K (hW h) ((k _ _ d).trans d.symm)<|(k _ _ e).trans e.symm) λ_ y z=>eq2 y z r,
  λj q x e1 e2 nf=>uT R.len e1 e2 (λe1 e2=>R.new j q x e1 e2 nf) λ_ y _=>y▸⟨R.fresh n1,R.fresh n2⟩,
  λi j q1 q2 e1 e2 ne=>kR e1 (λa=>kR e2 (λb=>R.inj i j q1 q2 a b ne) λ_ y=>y▸(ap<|cG a).1) λzi y=>kR e2 (λb=>have z:=ap<|cG b;y▸⟨cU z.1.1,cU z.2,cU z.1.2.2⟩) λzj _=>absurd (zi.trans zj.symm) ne⟩,K⟩
end
def Sb(p:Nat×Obj):Bool:=aR p.1 n4&& !p.2.isFreed
def Sd(P:aD):Bool:=(KX P).all Sb
theorem Se(P:aD):Sd P:=by kernel_rfl
variable{o:Obj}{l:Loc}{ρ ρ':aK}{env:Env}{b v:Option Value}{a:Option (Option V)}{m:Str->Option Value}{A:bj}{d:Nat}{H':Hp}{s s':ah}{C:Calls}{e':E}{e:aB}
def fU(h:Heap):Heap:=h.update PT λo=>{o with data:=.freed}
theorem Sf(h:Heap):(fU h).get? PT=none:=by
 cases e:(fU h).get? PT with
 |none=>rfl
 |some o=>have q:=Heap.get?_some_iff.mp e;have r:=(Heap.objs_update_self (h:=h) (a:=PT) (f:=λo=>{o with data:=.freed})).symm.trans q.1;exact (bF.mp r).elim λo2 r=>nb (xV (agX Obj.isFreed r.2:true=_) q.2).symm
theorem vx(h:Heap)(b:Addr):(fU h).get? b=if b=PT then none else h.get? b:=
 if q:b=PT then (q▸Sf h).trans (if_pos q).symm else (oH _ _ _ _ q).trans (if_neg q).symm
theorem Sg(e:(!o.isFreed)):iW o=some o:=by
 obtain ⟨a,b,d,s⟩:=o
 induction d with
 |freed=>exact nb e
 |_=>rfl
theorem GJ{a:Nat}(h:(!(a6 a 1602))):a≠PT:=λq=>nb<|(agX (λa=> !a6 a 1602) q).symm.trans h
theorem Si(Y:nG w h):Frag.In (KX w.params) (fU h):=λa o e=>
 have hm:=mem_lookup e;have m:=gG.mp hm;have ok:=bU.mp (Se w.params) _ hm
 ((vx h a).trans (if_neg<|GJ m.2)).trans
  (Y a o ((pj (au<|al ok)).trans<|(agX iW<|told w _ m.1).trans (Sg<|ar ok)))
structure Cx where
 w:bb
 hb:Heap
 mg:Str->Option Value
 mb:Str->Option Value
 loose:List Str
 k:Frag.In (KX w.params) hb
 t:tX qv loose mg mb hb
 bm:∃bm ob,mg "__builtins__"=some (.ref bm)/\bm≠jz/\hb.get? bm=some ob/\ob.cls= .type "module"/\ob.dict=some jz/\ob.data= .plain
noncomputable abbrev Cx.K(c:Cx):Frag:=KX c.w.params
def OV(ρ:aK)(h:Heap)(a:Option (Option V))(b:Option Value):Prop:=∀v,a=some (some v)->∃x,b=some x/\VR ρ h v x
def pU(k:NameKind)(k':Option NameKind):Prop:=match k with
 | .local=>k'=some .local
 | .cell=>k'=some .cell\/k'=some .free
 | .globalImplicit=>k'=some .globalImplicit
 |_=>True
def vy(k:Option NameKind)(k':Option NameKind):Prop:=∀q,k=some q->pU q k'
structure ER(σ:Sc)(l:Loc)(ρ:aK)(h:Heap)(env:Env):Prop where
 fn:env.scope.kind= .function
 gl:env.globals=dE
 bi:env.builtins=jz
 kind:∀x,vy (σ.kinds.lookup x) (env.kindOf x)
 mu:¬Mu ρ env.locals
 loc:∃m,h.Ns env.locals m/\∀x i,σ.kinds.lookup x=some .local->σ.slots.lookup x=some i->OV ρ h l[i]? (m x)
 iN:∀x i,σ.kinds.lookup x=some .cell->σ.slots.lookup x=some i->∃c vo,env.cells.lookup x=some c/\h.IsCell c vo/\¬Mu ρ c/\OV ρ h l[i]? vo
 hi:∀(j:Nat) (v:V),l[j]? = some (some v)->∃x,(x,j)∈σ.slots
 cd:σ.lam=true->env.code= .ref 1604/\env.qual=am "_law_strings.<locals>."
theorem OV.gr(k:Gr ρ ρ' h h')(r:OV ρ h a b):OV ρ' h' a b:=λv e=>(r v e).imp λ_ h=>⟨h.1,h.2.gr k⟩
theorem OV.kp(k:Kp X ρ ρ' h h')(nx:eX X h)(r:OV ρ h a b):OV ρ' h' a b:=r.gr<|k.gr nx
theorem Ns.kp(k:Kp X ρ ρ' h h'){a:Addr}(t:h.Ns a m)(n:¬Mu ρ a)(x:¬X a):h'.Ns a m/\¬Mu ρ' a:=
 t.elim λo t=>t.elim λes t=>t.elim λep t=>⟨⟨o,es,ep,k.keep a o t.1 n x,t.2⟩,k.mu t.1 n⟩
theorem IsCell.kp(k:Kp X ρ ρ' h h'){a:Addr}(t:h.IsCell a v)(n:¬Mu ρ a)(x:¬X a):h'.IsCell a v/\¬Mu ρ' a:=t.elim λo t=>⟨⟨o,k.keep a o t.1 n x,t.2⟩,k.mu t.1 n⟩
theorem ER.kp(e:ER σ l ρ h env)(k:Kp X ρ ρ' h h')(nx:eX X h)(x1:¬X env.locals)(x2:∀x c,env.cells.lookup x=some c->¬X c):ER σ l ρ' h' env:=
 e.loc.elim λm r=>⟨e.fn,e.gl,e.bi,e.kind,(Ns.kp k r.1 e.mu x1).2,⟨m,(Ns.kp k r.1 e.mu x1).1,λx i a b=>(r.2 x i a b).kp k nx⟩,
  λx i a b=>(e.iN x i a b).imp λc r=>r.imp λvo r=>⟨r.1,(IsCell.kp k r.2.1 r.2.2.1<|x2 x c r.1).1,(IsCell.kp k r.2.1 r.2.2.1<|x2 x c r.1).2,r.2.2.2.kp k nx⟩,e.hi,e.cd⟩
theorem ER.on(e:ER σ l ρ h env)(k:Kp dX ρ ρ' h h'):ER σ l ρ' h' env:=e.kp k (hW h) id λ_ _ _=>id
def Ro(d:Nat)(A:bj):Prop:=A.handled=none/\A.depth+d+10<=xW/\A.units+5*d+100<=cK
theorem Ro.u(ro:Ro d A)(n:Nat)(h:dD (n+1) 100):A.units+n<cK:=
 bC (qQ (au h) _) (ae (jA (fh _<|5*d) 100) ro.2.2)
def Rc(d:Nat)(A:bj):Prop:=A.handled=none/\A.depth+d+5<=xW/\A.units+5*d+50<=cK
theorem Ro.rc(r:Ro d A):Rc d A:=⟨r.1,ae (eB (au ag0) _) r.2.1,ae (eB (au ag0) _) r.2.2⟩
structure Af(c:Cx)(ρ:aK)(s:ah)(ρ':aK)(H':Hp)(s':ah):Prop where
 r:HR c.w c.hb ρ' H' s'.heap
 k:Kp dX ρ ρ' s.heap s'.heap
 g:s'.gens=s.gens
 o:s'.os=s.os
theorem Af.trans{c:Cx}{ρ'':aK}{s'':ah}{H'':Hp}(a:Af c ρ s ρ' H' s')(b:Af c ρ' s' ρ'' H'' s''):Af c ρ s ρ'' H'' s'':=
 ⟨b.r,a.k.trans b.k,b.g.trans a.g,b.o.trans a.o⟩
theorem Af.refl{c:Cx}(r:HR c.w c.hb ρ H s.heap):Af c ρ s ρ H s:=⟨r,.refl _ _ _,ag0,ag0⟩
theorem Af.tok{c:Cx}(a:Af c ρ s ρ' H' s')(t:Nat):Af c ρ s ρ' H' {s' with toks:=t}:=⟨a.r,a.k,a.g,a.o⟩
theorem Af.same{c:Cx}(r:HR c.w c.hb ρ H s.heap)(e:s'.heap=s.heap)(g:s'.gens=s.gens)(o:s'.os=s.os):Af c ρ s ρ H s':=
 ⟨e▸r,e▸ .refl _ _ _,g,o⟩
abbrev Md(c:Cx):mX:=jB pw c.w
section
variable(c:Cx)(d:Nat)(C:Calls)
def SE(σ:Sc)(e:aB)(e':E):Prop:=∀(A:bj) (env:Env) (l:Loc) (H:Hp) (ρ:aK) (s:ah) (Qa:bA) (Q:Value->ah->Prop) (E':Value->ah->Prop),
 Ro d A->ER σ l ρ s.heap env->HR c.w c.hb ρ H s.heap->aH G C e' l H Qa->
 (∀v x H' ρ' s',Qa v H'->Af c ρ s ρ' H' s'->VR ρ' s'.heap v x->Q x s')->ao (Md c) A (eval e env) Q E' s
def SB(σ:Sc)(e:aB)(e':E):Prop:=∀(A:bj) (env:Env) (l:Loc) (H:Hp) (ρ:aK) (s:ah) (Qa:bA) (Q:Bool->ah->Prop) (E':Value->ah->Prop),
 Ro d A->ER σ l ρ s.heap env->HR c.w c.hb ρ H s.heap->aH G C e' l H Qa->(∀v H',Qa v H'->∃b,v= .bool b)->
 (∀b H' ρ' s',Qa (.bool b) H'->Af c ρ s ρ' H' s'->Q b s')->ao (Md c) A (oJ e env<|eval e env) Q E' s
end
section
variable{c:Cx}
theorem a7(e:aB):SE c d C σ e .bad:=λ_ _ _ _ _ _ _ _ _ _ _ _ w=>w.elim
theorem GK(e:aB):SB c d C σ e .bad:=λ_ _ _ _ _ _ _ _ _ _ _ _ w=>w.elim
theorem GL(x:SE c d C σ e e')(he:∀env,oJ e env (eval e env)=(do let v<-eval e env;standAt e.pos;Dy [v] (truthy v))):SB c d C σ e e':=
 λA env l H ρ s Qa Q E' ro er hr w hv k=>wpAny_isTrue_value (x A env l H ρ s Qa _ E' ro er hr w λv x H' ρ' s' q a r=>(hv v H' q).elim λb e=>by subst e;subst r;exact i4<|k b H' ρ' s' q a)<|he env
theorem GM(k:oF)(u pos):SE c d C σ (.Constant k u pos) (Ga k):=by
 induction k with
 |none=>exact λA env l H ρ s Qa Q E' ro er hr w kk=>NA<|kk _ _ _ _ _ w (.refl hr) ag0
 |bool b=>exact λA env l H ρ s Qa Q E' ro er hr w kk=>NC<|kk _ _ _ _ _ w (.refl hr) ag0
 |int i=>exact λA env l H ρ s Qa Q E' ro er hr w kk=>xX<|kk _ _ _ _ _ w (.same hr ag0 rfl ag0) ⟨_,ag0⟩
 |str x=>exact d6 (P:=SE c d C σ _) (λn e A env l H ρ s Qa Q E' ro er hr w kk=>wpAny_Constant_str<|kk _ _ _ _ _ w (.same hr ag0 rfl ag0) ⟨_,_,rV e,ag0⟩)<|a7 _
 |_=>exact a7 _
end
variable{c:Cx}{o:Option (Option Value)}{k:NameKind}{x y:Str}{pos:Pos}{Q E':Value->ah->Prop}{a' b' t':E}{a b t:aB}
section
variable{v:V}
theorem Cx.top(c:Cx)(r:HR c.w c.hb ρ H h):tX qv c.loose c.mg c.mb h:=c.t.keeps r.base
theorem Cx.cY(c:Cx)(r:HR c.w c.hb ρ H h):Frag.In c.K h:=c.k.keeps r.base
theorem vz{a:Nat}(e:isRef o a):o=some (some<|.ref a):=agY e
theorem As(e:vt o):o=some none:=agY e
theorem GN(h:σ.kinds.lookup y=none)(e:σ.kinds.lookup x=some k):(x == y)=false:=by
 cases q:x == y with
 |false=>rfl
 |true=>exact nn (h.symm.trans<|beq_iff_eq.mp q▸e)
theorem vA(h:σ.kinds.lookup (am "__debug__")=none)(e:σ.kinds.lookup x=some k):(x == ("__debug__":Str))=false:=GN h e
def aP(σ:Sc):Prop:=σ.kinds.lookup (am "__debug__")=none/\σ.kinds.lookup (am "__classdict__")=none/\∀x y i,σ.slots.lookup x=some i->σ.slots.lookup y=some i->x=y
theorem Sj(ok:aP σ)(e:isVar σ x=some i):SE c d C σ (.Name x pos) (.loc i):=
 λA env l H ρ s Qa Q E' ro er hr w k=>oP.k w λo e1 w=>oP.k w λv e2 w=>GD e
  (λhk e=>wpAny_Name (er.loc.elim λm r=>(r.2 x i hk e v (e1.trans<|agX some e2)).elim λy r2=>wpAny_loadName_local er.fn (er.kind x _ hk) r.1 r2.1<|k v y H ρ s w (.refl hr) r2.2)<|vA ok.1 hk)
  λhk e=>wpAny_Name ((er.iN x i hk e).elim λa r=>r.elim λvo r=>(r.2.2.2 v (e1.trans<|agX some e2)).elim λy r2=>by have r1:=r.2.1;rw [r2.1] at r1;have kk:=k v y H ρ s w (.refl hr) r2.2;exact Or.elim (er.kind x _ hk) (λkd=>wpAny_loadName_cell er.fn kd r.1 r1 kk) λkd=>wpAny_loadName_free er.fn kd r.1 r1 kk<|GN ok.2.1 hk)<|vA ok.1 hk
section
variable{v:Value}
theorem nU(ok:aP σ)(g:bN σ x)(er:ER σ l ρ s.heap env)(hr:HR c.w c.hb ρ H s.heap)(e:nsIn c.K dE x=some (some v))(k:Q v s):ao (Md c) A (eval (.Name x pos) env) Q E' s:=
 ND er.fn (er.kind x _<|vq g) (Calls.loadGlobal_global (er.gl▸(c.top hr).g) (mg_of (c.cY hr) (c.top hr).g e) k) (vA ok.1<|vq g)
theorem k9(ok:aP σ)(g:bN σ x)(er:ER σ l ρ s.heap env)(hr:HR c.w c.hb ρ H s.heap)(e:nsIn c.K dE x=some none)(hv:Dz x=some v)(hn:x≠"__name__")(k:Q v s):ao (Md c) A (eval (.Name x pos) env) Q E' s:=
 ND er.fn (er.kind x _<|vq g) (Calls.loadGlobal_builtin (er.gl▸(c.top hr).g) (mg_none_of (c.cY hr) (c.top hr).g e) (er.bi▸(c.top hr).b) (((c.top hr).builtins x hn).trans hv) k) (vA ok.1<|vq g)
end
theorem nV{p q:Prop}(w:wb v p q):∃b,v= .bool b:=wb.k w (λe _=>⟨_,e⟩) λe _=>⟨_,e⟩
theorem GO{Q:bA}(w:wt v H Q){P:Prop}(g:∀b,v= .bool b->Q (.bool !b) H->P):P:=oP.k w λb e w=>g b (z8 e) w
theorem Sl(x:SE c d C σ e e'):SE c d C σ (.UnaryOp .Not e pos) (.not e'):=
 λA env l H ρ s Qa Q E' ro er hr w k=>DA (x A env l H ρ s _ _ E' ro er hr w λv y H' ρ' s' q a r=>GO q λb e q=>by subst e;subst r;exact not_value (i4<|k _ _ H' ρ' s' q a ag0))
theorem Sm(x:SB c d C σ e e'):SB c d C σ (.UnaryOp .Not e pos) (.not e'):=
 λA env l H ρ s Qa Q E' ro er hr w hv k=>wpAny_isTrue_Not<|x A env l H ρ s _ _ E' ro er hr w (λv H' q=>GO q λb e _=>⟨b,e⟩) λb H' ρ' s' q a=>k _ H' ρ' s' q a
theorem Sn(xt:SB c d C σ t t')(xa:SE c d C σ a a')(xb:SE c d C σ b b'):SE c d C σ (.IfExp t a b pos) (.ite t' a' b'):=
 λA env l H ρ s Qa Q E' ro er hr w k=>wpAny_IfExp (xt A env l H ρ s _ _ E' ro er hr w (λv H' q=>nV q) λb H' ρ' s' q a=>by
  rcases b
  ·exact xb A env l H' ρ' s' Qa Q E' ro (er.on a.k) a.r q λv x H'' ρ'' s'' q' a'=>k v x H'' ρ'' s'' q'<|a.trans a'
  ·exact xa A env l H' ρ' s' Qa Q E' ro (er.on a.k) a.r q λv x H'' ρ'' s'' q' a'=>k v x H'' ρ'' s'' q'<|a.trans a')
theorem So(xt:SB c d C σ t t')(xa:SB c d C σ a a')(xb:SB c d C σ b b'):SB c d C σ (.IfExp t a b pos) (.ite t' a' b'):=
 λA env l H ρ s Qa Q E' ro er hr w hv k=>show ao _ _ (do if<-oJ t env (eval t env) then oJ a env (eval a env) else oJ b env (eval b env)) _ _ _ from
  aj (xt A env l H ρ s _ _ E' ro er hr w (λv H' q=>nV q) λb H' ρ' s' q a=>by
   rcases b
   ·exact xb A env l H' ρ' s' Qa Q E' ro (er.on a.k) a.r q hv λb H'' ρ'' s'' q' a'=>k b H'' ρ'' s'' q'<|a.trans a'
   ·exact xa A env l H' ρ' s' Qa Q E' ro (er.on a.k) a.r q hv λb H'' ρ'' s'' q' a'=>k b H'' ρ'' s'' q'<|a.trans a')
end
variable{rec:CE}{op:BoolOp}{vs:List aB}{v:V}{xs:List Value}{x:Value}{p:P}{Qa:bA}{s0:ah}{m:List Value->Sem Value}
theorem Sp:∀{vs:List aB},(∀e∈vs,SE c d C σ e<|rec σ e)->∀(A:bj) (env:Env) (l:Loc) (H:Hp) (ρ:aK) (s:ah) (Qa:bA) (Q:Value->ah->Prop) (E':Value->ah->Prop),
 Ro d A->ER σ l ρ s.heap env->HR c.w c.hb ρ H s.heap->aH G C (cBool rec σ op vs) l H Qa->
 (∀v x H' ρ' s',Qa v H'->Af c ρ s ρ' H' s'->VR ρ' s'.heap v x->Q x s')->ao (Md c) A (boolOp pos op<|evalEach vs env) Q E' s:=by
 intro vs
 induction vs with
 |nil=>exact λ_ _ _ _ _ _ _ _ _ _ _ _ _ w=>w.elim
 |cons e r ih=>
  intro hx;cases r with
  |nil=>exact hx e<|.head _
  |cons e2 r=>
   intro A env l H ρ s Qa Q E' ro er hr w k
   show ao _ _ (do
    let v<-eval e env
    standAt pos
    let t<-Dy [v] (truthy v)
    match op,t with
    | .And,false| .Or,true=>pure v
    |_,_=>boolOp pos op<|evalEach (e2::r) env) _ _ _
   induction op with
   |And=>exact aj (hx e (.head _) A env l H ρ s _ _ E' ro er hr w λv x H' ρ' s' q a vr=>aj (jC (aj (dH (wb.k q (λe q=>by
    subst e;cases vr;exact i4 (ih (λx hm=>hx x (.tail _ hm)) A env l H' ρ' s' Qa Q E' ro (er.on a.k) a.r q λv x H'' ρ'' s'' q' a'=>k v x H'' ρ'' s'' q' (a.trans a'))) λe q=>by
    subst e;cases vr;exact i4 (aE (k _ _ _ _ _ q a rfl)))))))
   |Or=>exact aj (hx e (.head _) A env l H ρ s _ _ E' ro er hr w λv x H' ρ' s' q a vr=>aj (jC (aj (dH (wb.k q (λe q=>by
    subst e;cases vr;exact i4 (aE (k _ _ _ _ _ q a rfl))) λe q=>by
    subst e;cases vr;exact i4 (ih (λx hm=>hx x (.tail _ hm)) A env l H' ρ' s' Qa Q E' ro (er.on a.k) a.r q λv x H'' ρ'' s'' q' a'=>k v x H'' ρ'' s'' q' (a.trans a')))))))
theorem Sq(hx:∀e∈vs,SE c d C σ e<|rec σ e):SE c d C σ (.BoolOp op vs pos) (cBool rec σ op vs):=
 λA env l H ρ s Qa Q E' ro er hr w k=>(agX (λm=>ao (Md c) A m Q E' s)<|arm_eval_BoolOp ..).mpr<|Sp hx A env l H ρ s Qa Q E' ro er hr w k
theorem Sr(hx:∀e∈vs,SB c d C σ e<|rec σ e):SB c d C σ (.BoolOp op vs pos) (cBool rec σ op vs):=by
 induction vs with
 |nil=>exact GK _
 |cons e r ih=>
  intro A env l H ρ s Qa Q E' ro er hr w hv k;refine wpAny_isTrue_BoolOp ?_;have ih:=ih λx hm=>hx x (.tail _ hm);cases r with
  |nil=>
   induction op with
   |And=>exact NE (hx e (.head _) A env l H ρ s Qa _ E' ro er hr w hv λb H' ρ' s' q a=>by
    have:=k b H' ρ' s' q a;rcases b
    ·exact this
    ·exact wpAny_allTrue_And_nil this)
   |Or=>exact NF (hx e (.head _) A env l H ρ s Qa _ E' ro er hr w hv λb H' ρ' s' q a=>by
    have:=k b H' ρ' s' q a;rcases b
    ·exact wpAny_allTrue_Or_nil this
    ·exact this)
  |cons e2 r=>
   induction op with
   |And=>exact NE (hx e (.head _) A env l H ρ s _ _ E' ro er hr w (λv H' q=>nV q) λb H' ρ' s' q a=>by
    cases b
    ·exact k _ _ _ _ q a
    ·exact (agX (λm=>ao (Md c) A m Q E' s')<|NG ..).mp (ih A env l H' ρ' s' Qa Q E' ro (er.on a.k) a.r q hv λb H'' ρ'' s'' q' a'=>k b H'' ρ'' s'' q'<|a.trans a'))
   |Or=>exact NF (hx e (.head _) A env l H ρ s _ _ E' ro er hr w (λv H' q=>nV q) λb H' ρ' s' q a=>by
    cases b
    ·exact (agX (λm=>ao (Md c) A m Q E' s')<|NG ..).mp (ih A env l H' ρ' s' Qa Q E' ro (er.on a.k) a.r q hv λb H'' ρ'' s'' q' a'=>k b H'' ρ'' s'' q'<|a.trans a')
    ·exact k _ _ _ _ q a)
def rX(c:Cx)(d:Nat):Prop:=∀(A:bj) (op:oG) (a b:V) (x y:Value) (H:Hp) (ρ:aK) (s:ah) (r:Bool) (Q:Value->ah->Prop) (E':Value->ah->Prop),
 Ro d A->HR c.w c.hb ρ H s.heap->VR ρ s.heap a x->VR ρ s.heap b y->bR H (jY op) a b=some r->(∀s',Af c ρ s ρ H s'->Q (.bool r) s')->ao (Md c) A (DB op x y) Q E' s
section
variable{β:Type}{r:β}{vs:List V}
theorem eN{k:Int->Option β}(e:fI v k=some r)(rv:VR ρ h v x){P:Prop}(g:∀i t,v= .int i->x= .int i t->k i=some r->P):P:=
 ob e λi q e=>by have q:=nN q;subst q;exact rv.elim λt e2=>g i t ag0 e2 e
theorem At{vs:List V}(r:aA ρ h (v::vs) xs){P:Prop}(g:∀x ys,xs=x::ys->VR ρ h v x->aA ρ h vs ys->P):P:=cE.k r λx ys e r=>g x ys e r.1 r.2
theorem rY{k:V->Option β}(e:fQ vs k=some r)(rs:aA ρ h vs xs){P:Prop}(g:∀a x,vs= [a]->xs= [x]->VR ρ h a x->k a=some r->P):P:=by
 cases vs with
 |nil=>exact nn e
 |cons a vs=>cases vs with
  |nil=>exact At rs λx ys q r1 r2=>g a x ag0 (q.trans<|agX _ r2) r1 e
  |cons b vs=>exact nn e
theorem rZ{k:V->V->Option β}(e:ft vs k=some r)(rs:aA ρ h vs xs){P:Prop}(g:∀a b x y,vs= [a,b]->xs= [x,y]->VR ρ h a x->VR ρ h b y->k a b=some r->P):P:=by
 cases vs with
 |nil=>exact nn e
 |cons a vs=>cases vs with
  |nil=>exact nn e
  |cons b vs=>cases vs with
   |nil=>exact At rs λx ys q r1 r2=>At r2 λy zs q2 r3 r4=>g a b x y ag0 (q.trans<|agX _ (q2.trans<|agX _ r4)) r1 r3 e
   |cons d vs=>exact nn e
end
theorem nX{vs:List V}{h:Hp}{Q:bA}(w:aQ G p vs h Q){P:Prop}(g:∀v h',prim G p vs h=some (v,h')->Q v h'->P):P:=oP.k w λa e q=>g a.1 a.2 e q
def dB(c:Cx)(A:bj)(m:Sem Value)(ρ:aK)(s:ah)(v:V)(H':Hp):Prop:=∀(Q E':Value->ah->Prop),(∀z ρ' s',Af c ρ s ρ' H' s'->VR ρ' s'.heap v z->Q z s')->ao (Md c) A m Q E' s
def PO(c:Cx)(d:Nat)(p:P)(m:List Value->Sem Value):Prop:=∀(A:bj) (vs:List V) (xs:List Value) (H:Hp) (ρ:aK) (s:ah) (v:V) (H':Hp),
 Ro d A->HR c.w c.hb ρ H s.heap->aA ρ s.heap vs xs->prim G p vs H=some (v,H')->dB c A (m xs) ρ s v H'
theorem PO.use(po:PO c d p m){vs:List V}{fv:aK}(ro:Ro d A)(a:Af c fv s0 ρ H s)(r:aA ρ s.heap vs xs)(w:aQ G p vs H Qa)(k:∀v x H' ρ' s',Qa v H'->Af c fv s0 ρ' H' s'->VR ρ' s'.heap v x->Q x s'):ao (Md c) A (m xs) Q E' s:=
 nX w λ_ _ e q=>po A vs xs H ρ s _ _ ro a.r r e Q E' λ_ _ _ a2 r2=>k _ _ _ _ _ q (a.trans a2) r2
theorem dB.mD{m:Sem Value}(hr:HR c.w c.hb ρ H s.heap)(g:∀(Q E':Value->ah->Prop),(∀z s',s'.heap=s.heap->s'.gens=s.gens->s'.os=s.os->VR ρ s'.heap v z->Q z s')->ao (Md c) A m Q E' s):dB c A m ρ s v H:=
 λQ E' k=>g Q E' λz s' e1 e2 e3 r=>k z ρ s' (.same hr e1 e2 e3) r
theorem vB{op:Op}{a b:V}{h:Hp}{Q:bA}(w:aQ G (.cmp op) [a,b] h Q){P:Prop}(g:∀r,bR h op a b=some r->Q (.bool r) h->P):P:=
 oP.k w λp e q=>(bF.mp<|show (bR h op a b).map (λr=>(V.bool r,h))=some p from e).elim λr e=>g r e.1 (by have e2:=e.2;subst e2;exact q)
theorem VR.on(r:VR ρ h v x)(k:Kp dX ρ ρ' h h'):VR ρ' h' v x:=VR.kp k (hW h) r
section
variable{op o1 o2:oG}
theorem Su(cm:rX c d)(xa:SE c d C σ a a')(xb:SE c d C σ b b')(hm:tY op b=false):SE c d C σ (.Compare a [op] [b] pos) (.prim (.cmp<|jY op)<|gK a' b'):=
 λA env l H ρ s Qa Q E' ro er hr w k=>wpAny_Compare1 (xa A env l H ρ s _ _ E' ro er hr w λv x H1 ρ1 s1 q1 a1 r1=>
  xb A env l H1 ρ1 s1 _ _ E' ro (er.on a1.k) a1.r q1 λu y H2 ρ2 s2 q2 a2 r2=>vB q2 λr e q=>
   cm A op v u x y H2 ρ2 s2 r Q E' ro a2.r (r1.on a2.k) r2 e λs' a3=>k _ _ _ _ _ q ((a1.trans a2).trans a3) ag0) hm
theorem Sv(cm:rX c d)(xa:SE c d C σ a a')(xb:SE c d C σ b b')(hm:tY op b=false):SB c d C σ (.Compare a [op] [b] pos) (.prim (.cmp<|jY op)<|gK a' b'):=
 λA env l H ρ s Qa Q E' ro er hr w hv k=>wpAny_isTrue_Compare1 (xa A env l H ρ s _ _ E' ro er hr w λv x H1 ρ1 s1 q1 a1 r1=>
  xb A env l H1 ρ1 s1 _ _ E' ro (er.on a1.k) a1.r q1 λu y H2 ρ2 s2 q2 a2 r2=>vB q2 λr e q=>
   cm A op v u x y H2 ρ2 s2 r _ E' ro a2.r (r1.on a2.k) r2 e λs' a3=>i4 (k _ _ _ _ q<|(a1.trans a2).trans a3)) hm
theorem Sw(cm:rX c d)(xa:SE c d C σ a a')(xb:SE c d C σ b b')(xe:SE c d C σ e e')(hm:tY o2 e=false):SE c d C σ (.Compare a [o1,o2] [b,e] pos) (.chain a' (jY o1) b' (jY o2) e'):=
 λA env l H ρ s Qa Q E' ro er hr w k=>Compare_chain (xa A env l H ρ s _ _ E' ro er hr w λv x H1 ρ1 s1 q1 a1 r1=>
  chain_link (xb A env l H1 ρ1 s1 _ _ E' ro (er.on a1.k) a1.r q1 λu y H2 ρ2 s2 q2 a2 r2=>oP.k q2 λr q q2=>
   cm A o1 v u x y H2 ρ2 s2 r _ E' ro a2.r (r1.on a2.k) r2 q λs3 a3=>i4 (by
    have a:=(a1.trans a2).trans a3;rcases r
    ·exact k _ _ _ _ _ q2 a ag0
    ·exact chain_last (xe A env l H2 ρ2 s3 _ _ E' ro (er.on a.k) a3.r q2 λt z H4 ρ4 s4 q4 a4 r4=>vB q4 λr e q=>
      cm A o2 u t y z H4 ρ4 s4 r Q E' ro a4.r ((r2.on a3.k).on a4.k) r4 e λs' a5=>k _ _ _ _ _ q ((a.trans a4).trans a5) ag0)))) hm
theorem Sx(cm:rX c d)(xa:SE c d C σ a a')(xb:SE c d C σ b b')(xe:SE c d C σ e e')(hm:tY o2 e=false):SB c d C σ (.Compare a [o1,o2] [b,e] pos) (.chain a' (jY o1) b' (jY o2) e'):=
 λA env l H ρ s Qa Q E' ro er hr w hv k=>isTrue_chain (xa A env l H ρ s _ _ E' ro er hr w λv x H1 ρ1 s1 q1 a1 r1=>
  test_link (xb A env l H1 ρ1 s1 _ _ E' ro (er.on a1.k) a1.r q1 λu y H2 ρ2 s2 q2 a2 r2=>oP.k q2 λr q q2=>
   cm A o1 v u x y H2 ρ2 s2 r _ E' ro a2.r (r1.on a2.k) r2 q λs3 a3=>i4 (by
    have a:=(a1.trans a2).trans a3;rcases r
    ·exact k _ _ _ _ q2 a
    ·exact test_last (xe A env l H2 ρ2 s3 _ _ E' ro (er.on a.k) a3.r q2 λt z H4 ρ4 s4 q4 a4 r4=>vB q4 λr e q=>
      cm A o2 u t y z H4 ρ4 s4 r _ E' ro a4.r ((r2.on a3.k).on a4.k) r4 e λs' a5=>i4 (k _ _ _ _ q<|(a.trans a4).trans a5))))) hm
end
variable{cd:CD}{k n m:Nat}{x z:Str}{l:List Nat}{es:List DictEntry}{e:DictEntry}{t:Tok}{vs:List V}{y:Value}{dx:Addr}{ex:Bool}{o:aB}
theorem Sy:atT.Nodup:=by decide +kernel
theorem Au:(gu.all λp=>aR p.1 20):=by decide +kernel
structure Av(K:Frag)(C:Addr)(cd:CD):Prop where
 make:makesIn K C=true
 Aw:∃x,clsIn K C=some x/\x.hasDict=true/\onlyObject x.mro=true
 ga:gb K (.ref C) "__getattribute__"=some (some (.builtin "object.__getattribute__"))
 gt:gb K (.ref C) "__getattr__"=some none
 sa:gb K (.ref C) "__setattr__"=some (some (.builtin "object.__setattr__"))
 Sz:gb K (.ref C) "__init__"=some (some (.ref (bV.getD cd.init 0)))
 fld:∀f∈cd.fields,gb K (.ref C) (atT.getD f gW)=some none/\∀m∈cd.meths,m.1≠f
 GP:∀m∈cd.meths,gb K (.ref C) (atT.getD m.1 gW)=some (some (.ref (bV.getD m.2 0)))/\Ar K (bV.getD m.2 0)=true
theorem pV{o:Option (Option Value)}{x:String}(e:nR o x):o=some (some<|.builtin x):=agY e
theorem getD_at{α:Type}{l:List α}{x d:α}(e:l[i]? = some x):l.getD i d=x:=(xY ..).trans<|agX (·.getD d) e
theorem SA{K:Frag}{C:Nat}(h:GE K C cd):Av K C cd:=
 have h3:=ar<|ar h;have h5:=ar<|ar h3;have h7:=ar (ar h5)
 ⟨al h,((eC ..).mp (al<|ar h)).imp λ_ h=>⟨h.1,al h.2,ar h.2⟩,pV<|al h3,As (al<|ar h3),pV<|al h5,vz (al<|ar h5),
  λf hf=>have q:=bU.mp (al h7) f hf;⟨As<|al q,λm hm e=>nb ((nt<|ar q).symm.trans<|tZ.mpr ⟨m,hm,e▸qR _⟩)⟩,
  λm hm=>have q:=bU.mp (ar h7) m hm;⟨vz<|al q,ar q⟩⟩
theorem GQ(P:aD)(e:G.cl k=some cd):∃C,cA[k]? = some C/\gu.lookup k=some cd/\Av (KX P) C cd:=
 ba (P:=λo=>o=some cd->_) (λ_ e=>nn e) (λhk e=>
  have lt:k<20:=au (bU.mp Au _<|mem_lookup e);have hl:=de (bC lt (by decide):k<cA.length)
  ⟨cA[k],hl,e,SA<|(getD_at hl :)▸((eC ..).mp<|(oK.mp (bU.mp (R4 P) k<|iB.mpr lt)).elim (λq=>nb<|hk.symm.trans q) id).elim λ_ h=>av (h.1.symm.trans e)▸h.2⟩) e
theorem vC(e:atT[n]? = some x):atT.getD n gW=x:=getD_at e
theorem Ay(e:atT[n]? = some x)(f:atT[m]? = some x):n=m:=
 (DD Sy).mp (av<|(de<|fM e).symm.trans (e.trans<|f.symm.trans (de<|fM f)))
theorem GR:∀{i:Nat},idx n l=some i->n∈l:=by
 induction l with
 |nil=>exact λe=>nn e
 |cons m r ih=>exact λ{i} e=>aW (P:=λo=>o=some i->n∈m::r) (λ(q:n=m) _=>q▸ .head _) (λ_ e=>(bF.mp e).elim λj h=>.tail _<|ih h.1) e
theorem SC(h:e.key.isStr x):getL x (e::es)=some (some e.val):=by unfold getL;rw [List.find?_cons_of_pos (p:=λe:DictEntry=>e.key.isStr x) h]
theorem GS(h:e.key.isStr x=false)(n:e.refKey=false):getL x (e::es)=getL x es:=by unfold getL;rw [List.find?_cons_of_neg (p:=λe:DictEntry=>e.key.isStr x) (h▸qS),NH,n,NI]
theorem Az(h:e.key= .str z t)(n:z≠x):e.key.isStr x=false/\e.refKey=false:=by obtain ⟨k,v⟩:=e;subst h;exact ⟨beq_false_of_ne n,rfl⟩
theorem SD(hx:atT[n]? = some x):∀{F:List Nat} {es:List DictEntry} {i:Nat} {v:V},FR ρ h F vs es->idx n F=some i->vs[i]? = some v->
 ∃y,getL x es=some (some y)/\VR ρ h v y:=by
 induction vs with
 |nil=>exact λ_ _ hv=>nn hv
 |cons v0 vs' ih=>
  exact λ{F0 es i v} r hi hv=>cE.k r λf F e1 r=>cE.k r λe es' e2 r=>r.1.elim λz r1=>r1.elim λt r1=>by
   subst e1 e2;refine aW (P:=λo=>o=some i->∃y,getL x (e::es')=some (some y)/\VR ρ h v y) (λ(q:n=f) hi=> ?_) (λq hi=> ?_) hi
   ·have hi:=av hi;subst hi q;have hz:=av<|r1.1.symm.trans hx;subst hz;exact ⟨e.val,SC<|r1.2▸beq_self_eq_true z,av hv▸r.2.1⟩
   ·exact (bF.mp hi).elim λj hj=>(ih r.2.2 hj.1 ((tS).symm.trans<|hj.2▸hv)).imp λy hy=>
     have ns:=Az r1.2 λ(e:z=x)=>q (Ay hx<|e▸r1.1)
     ⟨(GS ns.1 ns.2).trans hy.1,hy.2⟩
section
variable{o:V}
theorem pW{x C:Addr}(h1:h.get? x=some (jx C dx))(h2:h.get? dx=some (jy es n)):InstAt h x (jx C dx) C (some<|jy es n):=⟨h1,ag0,ag0,h2⟩
theorem VR.handed{x:Value}(r:VR ρ h v x):oL x:=by
 cases v with
 |none=>exact agX oL r
 |bool=>exact agX oL r
 |int=>exact r.elim λ_ r=>agX oL r
 |str=>exact r.elim λ_ r=>r.elim λ_ r=>agX oL r.2
 |ref=>exact r.elim λ_ r=>agX oL r.2
 |tup=>exact r.elim λ_ r=>r.elim λ_ r=>agX oL r.1
theorem vD{β:Type}{b:β}{F:Nat->Nat×List V->CD->Option β}(hr:HR c.w c.hb ρ H s.heap)(r:VR ρ s.heap o y)(e:uX G H o F=some b){P:Prop}(k:∀a p cl fs cd C es m,ρ[a]? = some p->o= .ref a->y= .ref p.1->H[a]? = some (.inst cl fs)->gu.lookup cl=some cd->Av (KX c.w.params) C cd->s.heap.get? p.1=some (jx C p.2)->s.heap.get? p.2=some (jy es m)->FR ρ s.heap cd.fields fs es->cA[cl]? = some C->F a (cl,fs) cd=some b->P):P:=
 ob e λa ea e=>ob e λo' eo e=>ob e λp ep e=>ob e λcd ec ee=>by have ea:=kX ea;subst ea;have eo:=eo.trans (agX some<|RH ep);exact r.elim λq rq=>(hr.obj _ _ _ rq.1 eo).inst ag0 λC cd' es m e1 e2 e3 e4 e5=>(GQ c.w.params ec).elim λC1 f=>by have z1:=av<|f.1.symm.trans e1;have z2:=av<|f.2.1.symm.trans e2;subst z1 z2;exact k a q p.1 p.2 cd C1 es m rq.1 ag0 rq.2 eo e2 f.2.2 e3 e4 e5 e1 ee
theorem SF(hx:atT[n]? = some x)(hr:HR c.w c.hb ρ H s.heap)(r:VR ρ s.heap o y)(e:uY G H o n=some v)(k:∀z s',Af c ρ s ρ H s'->VR ρ s'.heap v z->Q z s'):ao (Md c) A (getAttr y x ex) Q E' s:=
 vD hr r e λa p cl fs cd C es m hp ea ey ha ht F e3 e4 e5 _ e=>ob e λi hi hv=>(SD hx e5 hi hv).elim λz hz=>by subst ey;have fi:=(F.fld n<|GR hi).1;rw [vC hx] at fi;exact get_value (c.cY hr) (pW e3 e4) F.ga (findObj_own (K:=c.K) (name:=x) (od:=jy es m) (attr:=none) (F.Aw.elim λxc hc=>(agX (λo=>o.any (·.hasDict)) hc.1).trans hc.2.1) fi rfl<|(DE x es m).trans hz.1) hz.2.handed<|k z _ (.same hr ag0 rfl ag0) hz.2
theorem SH{o:V}{h:Hp}{Q:bA}(w:aQ G (.attr n) [o] h Q){P:Prop}(g:∀v,uY G h o n=some v->Q v h->P):P:=
 oP.k w λp e q=>(bF.mp<|show (uY G h o n).map (·,h)=some p from e).elim λr e=>g r e.1 (by have e2:=e.2;subst e2;exact q)
def la(o:aB):Prop:=∀(a:Str) (env:Env) (whole:Sem Value),attributeBase o a env whole=whole
theorem GT:∀(a:Str) (env:Env) (whole:Sem Value),whole=whole:=λ_ _ _=>ag0
theorem SJ(o:aB):cond (Ae o) (la o) True:=by
 rcases o with ⟨⟩|⟨⟩|⟨⟩|⟨⟩|⟨⟩|⟨⟩|⟨⟩|⟨⟩|⟨⟩|⟨⟩|⟨⟩|⟨⟩|⟨⟩|⟨⟩|⟨⟩|⟨⟩|⟨f,as,ks,p⟩
 all_goals first
  |exact GT
  |skip
 rcases as with _|⟨a,as⟩
 ·exact trivial
 ·rcases f<;>exact GT
theorem AA{o:aB}(h:Ae o):la o:=bI (SJ o) h
theorem r6{o:aB}{P:E->Prop}(h:la o->P (rec σ o))(h0:P .bad):P (cB rec σ o):=ba (λq=>h<|AA q) λ_=>h0
end
variable{e:aB}{es:List aB}{m:Sem Value}{u:Nat}{a:Str}{o':E}
section
variable{v:V}
theorem aA.on(r:aA ρ h vs xs)(k:Kp dX ρ ρ' h h'):aA ρ' h' vs xs:=aA.kp k (hW h) r
theorem aA.len{v:List V}:∀{x:List Value},aA ρ h v x->v.length=x.length:=by
 induction v with
 |nil=>exact λr=>agX cu<|DF r
 |cons v vs ih=>exact λr=>cE.k r λx xs e r=>(agX (· + 1)<|ih r.2).trans (agX cu e).symm
theorem dj(h:notStar e)(rest:List aB)(env:Env):iC (e::rest) env=(false,eval e env)::iC rest env:=by rcases e<;>first|rfl|exact nb h
theorem GU(h:notStar e)(rest:List aB):aU rec σ (e::rest)= .cons (rec σ e) (aU rec σ rest):=(agX (λb=>bif b then Es.cons (rec σ e) (aU rec σ rest) else .cons .bad .nil) h :)
theorem r7:(∀e∈es,SE c d C σ e<|rec σ e)->∀(A:bj) (env:Env) (l:Loc) (H:Hp) (ρ:aK) (s:ah) (Qa:List V->Hp->Prop) (Q:List Value->ah->Prop) (E':Value->ah->Prop),
 Ro d A->ER σ l ρ s.heap env->HR c.w c.hb ρ H s.heap->cM G C (aU rec σ es) l H Qa->
 (∀vs xs H' ρ' s',Qa vs H'->Af c ρ s ρ' H' s'->aA ρ' s'.heap vs xs->Q xs s')->ao (Md c) A (DG (i5 pos<|iC es env)) Q E' s:=by
 induction es with
 |nil=>exact λhx A env l H ρ s Qa Q E' ro er hr w k=>oM<|k _ _ _ _ _ w (.refl hr) ag0
 |cons e r ih=>
  exact λhx A env l H ρ s Qa Q E' ro er hr w k=>ba (P:=λes'=>cM G C es' l H Qa->ao (Md c) A (DG (i5 pos<|iC (e::r) env)) Q E' s) (λhs (w:cM G C (.cons (rec σ e)<|aU rec σ r) l H Qa)=>kr (hx e (.head _) A env l H ρ s _ _ E' ro er hr w λv x H1 ρ1 s1 q1 a1 r1=>
   ih (λy hm=>hx y<|.tail _ hm) A env l H1 ρ1 s1 _ _ E' ro (er.on a1.k) a1.r q1 λvs xs H2 ρ2 s2 q2 a2 r2=>k _ _ _ _ _ q2 (a1.trans a2) ⟨r1.on a2.k,r2⟩) (dj hs r env)) (λ_ (w:cM G C (.cons .bad .nil) l H Qa)=>False.elim w) w
theorem eO(h:Heap):h.get? h.objs.size=none:=ku<|cf _
theorem SL(hr:HR c.w c.hb ρ H h):¬Mu ρ h.objs.size:=λq=>q.elim λp hp=>(hr.alive hp.1).2.elim λ_ e=>cQ (eO h)<|hp.2▸e
theorem AB(hr:HR c.w c.hb ρ H s.heap)(r:aA ρ s.heap vs xs)(hl:vs.length<=lim):
 Af c ρ s ρ H {s with heap:=s.heap.push {cls:=.type "tuple",data:=.seq xs.toArray}}/\VR ρ (s.heap.push {cls:=.type "tuple",data:=.seq xs.toArray}) (.tup vs) (.ref s.heap.objs.size):=
 have h:=hr.push {cls:=.type "tuple",data:=.seq xs.toArray}
 ⟨⟨h.1,h.2,ag0,ag0⟩,_,xs,ag0,IsTup.new _ _,SL hr,r.on h.2,hl⟩
theorem r8(hr:HR c.w c.hb ρ H h)(p:Addr×Addr):(ρ++ [p])[H.length]? = some p:=hr.len▸FJ
theorem vE(hr:HR c.w c.hb ρ H s.heap)(r:aA ρ s.heap vs xs)(hl:vs.length<=lim):
 Af c ρ s (ρ++ [(s.heap.objs.size,s.heap.objs.size)]) (H++ [.list vs]) {s with heap:=s.heap.push {cls:=.type "list",data:=.seq xs.toArray n}}/\
  VR (ρ++ [(s.heap.objs.size,s.heap.objs.size)]) (s.heap.push {cls:=.type "list",data:=.seq xs.toArray n}) (.ref H.length) (.ref s.heap.objs.size):=
 have no:=eO s.heap
 have K:Kp dX ρ (ρ++ [(s.heap.objs.size,s.heap.objs.size)]) s.heap (s.heap.push {cls:=.type "list",data:=.seq xs.toArray n}):=
  ⟨(hr.push _).2.live,⟨[_],ag0,λp hp=>cr.mp hp▸⟨no,no⟩⟩,(hr.push _).2.keep⟩
 have h:=hr.add (p:=(s.heap.objs.size,s.heap.objs.size)) (o:=.list vs) (λb x e=>dG _ e) no no ⟨ag0,xs,n,jD _ ag0,r.on K,hl⟩
 ⟨⟨h.1,h.2,ag0,ag0⟩,_,r8 hr _,ag0⟩
theorem mE(h:n<=lim):n<=iD:=ae h (by rw [xZ];decide)
theorem pX(e:bY H vs=some (v,H')){P:Prop}(k:vs.length<=lim->v= .ref H.length->H'=H++ [.list vs]->P):P:=
 have e:=dA.mp e;have e2:=t6<|av e.2
 k e.1 e2.1.symm e2.2.symm
theorem dB.list(e:bY H vs=some (v,H'))(hr:HR c.w c.hb ρ H s.heap)(g:vs.length<=lim->∀(Q E':Value->ah->Prop),(∀z ρ' s',Af c ρ s ρ' (H++ [.list vs]) s'->VR ρ' s'.heap (.ref H.length) z->Q z s')->ao (Md c) A m Q E' s):dB c A m ρ s v H':=
 pX e λhl e1 e2=>by subst e1 e2;exact g hl
theorem SM(hx:∀e∈es,SE c d C σ e<|rec σ e):SE c d C σ (.Tuple es u pos) (.prim .tup<|aU rec σ es):=λA env l H ρ s Qa Q E' ro er hr w k=>
 wpAny_Tuple (r7 hx A env l H ρ s (λvs h1=>aQ G .tup vs h1 Qa) _ E' ro er hr w λvs xs H1 ρ1 s1 q1 a1 r1=>oP.k q1 λp e q=>
  have e:=dA.mp<|show (if vs.length<=lim then some (V.tup vs,H1) else none)=some p from e;have n:=AB a1.r r1 e.1
  ⟨r1.len▸mE e.1,k _ _ _ _ _ ((av e.2).symm▸q:Qa (V.tup vs,H1).1 (V.tup vs,H1).2) (a1.trans n.1) n.2⟩)
theorem SN(hx:∀e∈es,SE c d C σ e<|rec σ e):SE c d C σ (.List es pos) (.prim .list<|aU rec σ es):=λA env l H ρ s Qa Q E' ro er hr w k=>
 wpAny_List (r7 hx A env l H ρ s (λvs h1=>aQ G .list vs h1 Qa) _ E' ro er hr w λvs xs H1 ρ1 s1 q1 a1 r1=>nX q1 λv H' e q=>pX e λhl e1 e2=>by subst e1 e2;have n:=vE (n:=0) a1.r r1 hl;exact ⟨r1.len▸mE hl,k _ _ _ _ _ q (a1.trans n.1) n.2⟩)
theorem SO(hn:atT[n]? = some a)(xo:SE c d C σ o o')(hs:la o):SE c d C σ (.Attribute o a pos) (.prim (.attr n)<|kZ o'):=λA env l H ρ s Qa Q E' ro er hr w k=>
 NJ (xo A env l H ρ s _ _ E' ro er hr (w:aH G C o' l H λv h1=>aQ G (.attr n) [v] h1 Qa) λv x H1 ρ1 s1 q1 a1 r1=>SH q1 λu e q=>
  SF hn a1.r r1 e λz s' a2 r2=>k _ _ _ _ _ q (a1.trans a2) r2) (by rw [NK,hs])
end
variable{x o:Value}{a:V}{op:xS}{f:Int->Int->Hp->Option (V×Hp)}{m:List Value->Sem Value}{v:List (Int×V)}{k:Int}{id:String}
noncomputable def v0:List Value->Value
 |x::_=>x
 |_=>.none
def v1:List Value->Value
 |_::r=>v0 r
 |_=>.none
def r9(c:Cx)(d:Nat)(op:xS)(p:P):Prop:=PO c d p λxs=>binaryOp op (v0 xs)<|v1 xs
theorem AC(r:VR ρ h a x):aA ρ h [a] [x]:=⟨r,ag0⟩
theorem AD(r:VR ρ h a x)(rs:aA ρ h vs xs):aA ρ h (a::vs) (x::xs):=⟨r,rs⟩
theorem vF(h:r9 c d op p){a:aB}(xa:SE c d C σ a a')(xb:SE c d C σ b b'):SE c d C σ (.BinOp a op b pos) (.prim p<|gK a' b'):=λA env l H ρ s Qa Q E' ro er hr w k=>
 wpAny_BinOp (xa A env l H ρ s (λv h1=>aH G C b' l h1 λu h2=>aQ G p [v,u] h2 Qa) _ E' ro er hr w λv x H1 ρ1 s1 q1 a1 r1=>
  xb A env l H1 ρ1 s1 _ _ E' ro (er.on a1.k) a1.r q1 λu y H2 ρ2 s2 q2 a2 r2=>h.use (xs:=[x,y]) ro (a1.trans a2) (AD (r1.on a2.k)<|AC r2) q2 k)
theorem fz(i:Int)(t:Tok):VR ρ h (.int i) (.int i t):=⟨t,ag0⟩
theorem vG(hp:∀vs h,prim G p vs h=ft vs λa b=>fI a λa=>fI b λb=>f a b h)(g:∀(A:bj) (i j:Int) (t u:Tok) (H:Hp) (ρ:aK) (s:ah) (v:V) (H':Hp),Ro d A->HR c.w c.hb ρ H s.heap->f i j H=some (v,H')->dB c A (m [.int i t,.int j u]) ρ s v H'):PO c d p m:=
 λA vs xs H ρ s v H' ro hr r e=>rZ ((hp vs H).symm.trans e) r λa b x y _ q ra rb e=>eN e ra λi t _ q1 e=>eN e rb λj u _ q2 e=>by subst q q1 q2;exact g A i j t u H ρ s v H' ro hr e
theorem fA{α β:Type}{a x:α}{b y:β}(e:some (a,b)=some (x,y)){P:α->β->Prop}(h:P a b):P x y:=
 have e:=t6<|av e
 eq2 e.1.symm e.2.symm h
theorem SP:r9 c d .Sub .sub:=vG (f:=λa b h=>some (.int<|a-b,h)) (λ_ _=>ag0) λA i j t u H ρ s v H' ro hr e=>
 fA e (P:=λv H'=>dB c A _ ρ s v H') (.mD hr λQ E' k=>sub_int (k _ _ ag0 rfl rfl<|fz _ _))
theorem SR:r9 c d .Mod .mod:=vG (f:=λa b h=>if 0<b then some (.int<|a % b,h) else none) (λ_ _=>ag0) λA i j t u H ρ s v H' ro hr e=>
 have e:=dA.mp e
 fA e.2 (P:=λv H'=>dB c A _ ρ s v H') (.mD hr λQ E' k=>mod_int (DI e.1) (k _ _ ag0 rfl rfl<|Int.fmod_eq_emod_of_nonneg i (bZ e.1)▸fz _ _))
theorem SU(x:SE c d C σ e e'):SE c d C σ (.UnaryOp .USub e pos) (.prim .neg<|kZ e'):=λA env l H ρ s Qa Q E' ro er hr w k=>
 DA (x A env l H ρ s (λv h1=>aQ G .neg [v] h1 Qa) _ E' ro er hr w λv y H1 ρ1 s1 q a r=>nX q λv H' e q=>eN (show fI _ (λa=>some (V.int<|-a,H1))=_ from e) r λi t _ q1 e=>by subst q1;exact neg_int (k _ _ _ _ _ (fA e.symm (P:=Qa) q) (a.tok _)<|fz _ _))
theorem aA.at{v:List V}:∀{x:List Value} {i:Nat} {a:V},aA ρ h v x->v[i]? = some a->∃y,x[i]? = some y/\VR ρ h a y:=by
 induction v with
 |nil=>exact λ_ e=>nn e
 |cons v vs ih=>
  intro x i a r e
  exact cE.k r λy ys ey r=>by
   subst ey;rcases i with _|i
   ·exact ⟨y,ag0,av e▸r.1⟩
   ·exact ih (x:=ys) (i:=i) r.2 e
theorem vH(p:Int×Value)(r:List (Int×Value))(k:Int):i6 (p::r) k=if k=p.1 then some p.2 else i6 r k:=by
 by_cases q:k=p.1
 ·rw [if_pos q];simp [i6,q]
 ·rw [if_neg q];simp [i6,List.find?_cons,cU q]
theorem PR.at:∀{x:List (Int×Value)},PR ρ h v x->dJ k v=some a->∃y,i6 x k=some y/\VR ρ h a y:=by
 induction v with
 |nil=>exact λ_ e=>nn e
 |cons p vs ih=>
  exact λ{x} r e=>cE.k r λy ys ey r=>by
   subst ey;refine aW (P:=λo=>o=some a->_) (λ(q:k=p.1) e=> ?_) (λq e=> ?_) e
   ·exact ⟨y.2,(vH ..).trans (if_pos<|q.trans r.1),av e▸r.2.1⟩
   ·exact (ih r.2.2 e).imp λz hz=>⟨(vH ..).trans<|(if_neg λw=>q<|w.trans r.1.symm).trans hz.1,hz.2⟩
def pY(s:ah)(o:Value):Prop:=∀(M:mX) (A:bj) (Q:Bool->ah->Prop) (E':Value->ah->Prop),Q false s->ao M A (getitemInPython o) Q E' s
theorem sd{T:String}(hT:s.TypeIs o T)(sl:Slot T "__getitem__" id):pY s o:=λM A Q E' q=>aj (NL hT sl.lookup<|aE q)
variable{v:V}{a:Nat}{u:Tok}{o:aB}
section
variable{i:Int}{o:V}
noncomputable def AE(e:aB):Bool:= !(a6 e.ctorIdx 26)
def GV(e:aB):Prop:=∀o i:Value,subscripted e false o i=DJ [o,i] (jE o i)
theorem SV:∀o i:Value,DJ [o,i] (jE o i)=DJ [o,i] (jE o i):=λ_ _=>ag0
theorem SW(e:aB):cond (AE e) (GV e) True:=by rcases e<;>first|exact trivial|exact SV
theorem sub_eq(h:AE e):GV e:=bI (SW e) h
theorem GW(h:small i): -(2 ^ 63)<=i:=aL (by decide) h.1
theorem GX(h:small i):i<2 ^ 63:=gH h.2<|by decide
theorem SX(h0:0<=i)(h:i.toNat<n):x9 i n=some i.toNat:=by unfold x9;rw [if_neg (cH.mpr h0)];exact if_pos<|gC.mpr ⟨agZ h0,agZ<|(NM h0).mp h⟩
def GY(i:Int)(n j:Nat):Prop:=(0<=i/\j=i.toNat)\/(i<0/\ -(n:Int)<=i/\j=(i+n).toNat)
theorem SY(e:fP vs i=some v){P:Prop}(k:∀j,x9 i vs.length=some j->vs[j]? = some v->GY i vs.length j->P):P:=
 aW (P:=λo=>o=some v->P) (λ(h0:0<=i) (e:vs[i.toNat]? = some v)=>k i.toNat (SX h0<|fM e) e<|.inl ⟨h0,ag0⟩)
  (λh0=>aW (P:=λo=>o=some v->P) (λ(h1:0<=i+vs.length) (e:vs[(i+vs.length).toNat]? = some v)=>
   have z: -(vs.length:Int)<=i:=Int.sub_nonneg.mp<|(Int.sub_neg i vs.length).symm▸h1
   k _ (seqIndex_neg (i8.mp h0) z) e (.inr ⟨i8.mp h0,z,ag0⟩)) λ_ e=>nn e) e
theorem hY(hr:HR c.w c.hb ρ H h)(r:VR ρ h (.ref a) x)(e:H[a]? = some (.list vs)){P:Prop}(k:∀p xs n,x= .ref p->ρ[a]? = some (p,p)->IsL h p xs.toArray n->aA ρ h vs xs->vs.length<=lim->P):P:=
 r.elim λp r=>have q:=hr.obj _ _ _ r.1 e;q.2.elim λxs l=>l.elim λn l=>k p.1 xs n r.2 (r.1.trans (agX some<|tK ag0 q.1.symm)) l.1 l.2.1 l.2.2
theorem jl{β:Type}{r:β}{k:Nat->List V->Option β}(e:fL H o k=some r)(hr:HR c.w c.hb ρ H h)(rx:VR ρ h o x){P:Prop}(g:∀a p xs vs n,o= .ref a->x= .ref p->ρ[a]? = some (p,p)->H[a]? = some (.list vs)->IsL h p xs.toArray n->aA ρ h vs xs->vs.length<=lim->k a vs=some r->P):P:=
 ob e λa q e=>ob e λy hv e=>ob e λvs q2 e3=>by have q:=kX q;subst q;have hv:=hv.trans (agX some<|fS q2);exact hY hr rx hv λp xs n q3 hp hl rs g'=>g a p xs vs n ag0 q3 hp hv hl rs g' e3
theorem nY(rx:VR ρ h (.tup vs) x){P:Prop}(g:∀a xs,x= .ref a->cq h a xs.toArray->aA ρ h vs xs->vs.length<=lim->P):P:=rx.elim λa r=>r.elim λxs r=>g a xs r.1 r.2.1 r.2.2.2.1 r.2.2.2.2
def SZ(c:Cx)(A:bj)(ρ:aK)(H:Hp)(s:ah)(x y:Value)(v:V):Prop:=pY s x/\∀(Q E':Value->ah->Prop),(∀z s',Af c ρ s ρ H s'->VR ρ s'.heap v z->Q z s')->ao (Md c) A (jE x y) Q E' s
theorem GZ(hv:fP vs i=some v)(rs:aA ρ h vs xs){P:Prop}(g:∀j z,x9 i xs.length=some j->xs[j]? = some z->VR ρ h v z->GY i xs.length j->P):P:=
 SY hv λj hj hvj hc=>(rs.at hvj).elim λz r=>g j z (rs.len▸hj) r.1 r.2<|rs.len▸hc
theorem S0(hr:HR c.w c.hb ρ H s.heap)(rx:VR ρ s.heap o x)(e:itemOf H o i=some v):SZ c A ρ H s x (.int i u) v:=by
 rcases o with _|_|_|_|a|vs
 iterate 4 exact nn e
 ·exact ob e λo hH e=>by
   rcases o with ⟨⟩|vs|kvs
   ·exact nn e
   ·have e:=dA.mp e
    exact hY hr rx hH λpa xs n hx _ hL rs g=>by
     subst hx;have hl:=hL.isList
     exact ⟨sd hl.typeIs NN,λQ E' k=>GZ e.2 rs λj z _ hz rz hc=>have kk:=k z s (.refl hr) rz
      hc.elim (λhc=>wpAny_getItem_list hl hc.1 (GX e.1) (hc.2▸(lK ..).trans hz) kk) λhc=>wpAny_getItem_list_neg hl hc.1 hc.2.1 (GW e.1) (by rw [lK,fg, <- hc.2.2];exact hz) kk⟩
   ·exact rx.elim λp rx=>by have hx:=rx.2;subst hx;exact (hr.obj _ _ _ rx.1 hH).2.elim λxs r=>(r.2.at e).elim λz hz=>⟨sd r.1.typeIs slot_dict_getitem,λQ E' k=>wpAny_getItem_intMap r.1.mapOf.intMap hz.1<|k z _ (.same hr ag0 rfl ag0) hz.2⟩
   all_goals exact nn e
 ·have e:=dA.mp e;exact nY rx λa xs hx ht rs _=>by subst hx;exact ⟨sd ht.typeIs ya,λQ E' k=>GZ e.2 rs λj z hj hz rz _=>getItem_tuple ht (GW e.1) (GX e.1) hj ((lK ..).trans hz)<|k z s (.refl hr) rz⟩
theorem S6{o i:aB}{i':E}(ns:AE i)(xo:SE c d C σ o o')(xi:SE c d C σ i i'):SE c d C σ (.Subscript o i pos) (.prim .item<|gK o' i'):=λA env l H ρ s Qa Q E' ro er hr w k=>
 (agX (λm=>ao (Md c) A m Q E' s)<|NO ..).mpr (aj (xo A env l H ρ s (λv h1=>aH G C i' l h1 λu h2=>aQ G .item [v,u] h2 Qa) _ E' ro er hr w λv x H1 ρ1 s1 q1 a1 r1=>aj (dH (
  xi A env l H1 ρ1 s1 _ _ E' ro (er.on a1.k) a1.r q1 λu y H2 ρ2 s2 q2 a2 r2=>aj (jC (
   oP.k q2 λp e q=>eN (show fI u (λi=>(itemOf H2 v i).map (·,H2))=some p from e) r2 λj t _ q1 e=>(bF.mp e).elim λz e=>by have e2:=e.2;subst e2 q1;have g:=S0 (A:=A) (u:=t) a2.r (r1.on a2.k) e.1;refine aj<|g.1 _ _ _ _ ?_;rw [sub_eq ns];exact aj<|NP (g.2 (λz s'=>ao (Md c) A (letTemporaryGo o x z >>= λ_=>pure z) Q E' s') E' λz s' a3 r=>aj<|NQ (aE<|k _ _ _ _ _ q ((a1.trans a2).trans a3) r))))))))
end
variable{k:Nat}{x:Str}{Qa:List V->Hp->Prop}{l:Loc}{first:List Value}{f:Value}{p:Pos}
def CO(c:Cx)(d:Nat)(C:Calls):Prop:=∀(A:bj) (f:Nat) (vs:List V) (xs:List Value) (H:Hp) (ρ:aK) (s:ah) (Qa:bA) (R:oN->ah->Prop),
 Rc d A->HR c.w c.hb ρ H s.heap->aA ρ s.heap vs xs->C f vs H Qa->(∀v x H' ρ' s',Qa v H'->Af c ρ s ρ' H' s'->VR ρ' s'.heap v x->R (.ok<|.ret x) s')->oO (Md c) A (.call (.ref<|bV.getD f 0) ⟨xs,[]⟩) R s
theorem CO.wp(co:CO c d C)(A:bj)(f:Nat)(vs:List V)(xs:List Value)(H:Hp)(ρ:aK)(s:ah)(Qa:bA)(Q:Value->ah->Prop)(E':Value->ah->Prop)(ro:Rc d A)(hr:HR c.w c.hb ρ H s.heap)(r:aA ρ s.heap vs xs)(w:C f vs H Qa)(k:∀v x H' ρ' s',Qa v H'->Af c ρ s ρ' H' s'->VR ρ' s'.heap v x->Q x s'):ao (Md c) A (call (.ref<|bV.getD f 0) xs) Q E' s:=
 qT (co A f vs xs H ρ s Qa _ ro hr r w k)
theorem vI(P:aD)(h:a∈bV):tT (KX P) (.ref a)/\fnIn (KX P) a/\isFn (KX P) (.ref a):=
 have e:=bU.mp (R3 P) a h
 ⟨al e,al<|ar e,ar<|ar e⟩
theorem AF(P:aD)(e:kY.lookup x=some k):nsIn (KX P) dE x=some (some (.ref<|bV.getD k 0)):=vz (bU.mp (RW P) _<|mem_lookup e)
theorem plain_any:es.all notStar->(i5 pos<|iC es env).any (·.1)=false:=by
 induction es with
 |nil=>exact λ_=>ag0
 |cons e r ih=>exact λh=>dj (al h) r env▸ih (ar h)
theorem vJ(hs:es.all notStar)(hx:∀e∈es,SE c d C σ e<|rec σ e)(hk:tT c.K f)(ro:Ro d A)(er:ER σ l ρ s.heap env)(hr:HR c.w c.hb ρ H s.heap)(w:cM G C (aU rec σ es) l H Qa)(k:∀vs xs H' ρ' s',Qa vs H'->Af c ρ s ρ' H' s'->aA ρ' s'.heap vs xs->ao (Md c) A (call f<|first++xs) Q E' s'):ao (Md c) A (yb pos f first (i5 pos<|iC es env) []) Q E' s:=by
 rcases es with _|⟨e,r⟩
 ·exact callWith_K0 (K:=c.K) (c.cY hr) hk<|k _ _ _ _ _ w (.refl hr) ag0
 ·exact callWith_K (K:=c.K) (h₀:=s.heap) (c.cY hr) hk (r7 hx A env l H ρ s _ _ E' ro er hr w λvs xs H' ρ' s' q a r=>⟨c.cY a.r,k vs xs H' ρ' s' q a r⟩) (dj (al hs) r env) (plain_any<|ar hs)
theorem S7(co:CO c d C)(ok:aP σ)(g:bN σ x)(e:kY.lookup x=some k)(hm:bV.getD k 0∈bV)(hs:es.all notStar)(hx:∀e∈es,SE c d C σ e<|rec σ e):
 SE c d C σ (.Call (.Name x p) es [] pos) (.call k<|aU rec σ es):=λA env l H ρ s Qa Q E' ro er hr w kk=>
 kx (nU ok g er hr (AF c.w.params e) (vJ (first:=[]) hs hx (vI c.w.params hm).1 ro er hr w λvs xs H' ρ' s' q a r=>
  co.wp A k vs xs H' ρ' s' Qa Q E' ro.rc a.r r q λv x H'' ρ'' s'' q' a' r'=>kk _ _ _ _ _ q' (a.trans a') r'))
variable{i:Int}{v:List V}{x x0:Value}
theorem G0{x:Str}(hx:atT[n]? = some x):∀{F:List Nat} {es:List DictEntry},FR ρ h F vs es->(∀f∈F,n≠f)->getL x es=some none:=by
 induction vs with
 |nil=>exact λr _=>agX (getL x) r
 |cons v vs ih=>exact λ{F0 es0} r hn=>cE.k r λf F eF r=>cE.k r λe es ee r=>r.1.elim λz r1=>r1.elim λt r1=>
  have ns:=Az r1.2 λ(e:z=x)=>hn f (eF▸ .head _) (Ay hx<|e▸r1.1)
  (agX (getL x) ee).trans ((GS ns.1 ns.2).trans (ih r.2.2 λg hg=>hn g<|eF▸ .tail _ hg))
theorem S8(h:small i):Builtin.Int.intBits i<=64:=intBits_le_64 (gg (by decide) h.1) (gH h.2<|by decide)
theorem aA.append{v':List V}:∀{x x':List Value},aA ρ h v x->aA ρ h v' x'->aA ρ h (v++v') (x++x'):=by
 induction v with
 |nil=>exact λ{x x'} r r'=>(agX (λx=>aA ρ h v'<|x++x') (r:x= [])).mpr r'
 |cons v vs ih=>exact λ{x x'} r r'=>cE.k r λy ys e r=>cE.of (agX (· ++ x') e) ⟨r.1,ih r.2 r'⟩
theorem aA.rep{v:V}(r:VR ρ h v x)(n:Nat):aA ρ h (cg n v) (cg n x):=by
 induction n with
 |zero=>exact ag0
 |succ n ih=>exact ⟨r,ih⟩
theorem S9:List.foldl (λx1 x2=>x1++x2) #[] (cg (if [x0].toArray.isEmpty=true then 0 else i.toNat) [x0].toArray)=(cg i.toNat x0).toArray:=by
 rw [listMul_foldl_if]
 have (m:Nat):(cg m [x0]).flatten=cg m x0:=by
  induction m with
  |zero=>rfl
  |succ m ih=>exact agX (x0:: ·) ih
 exact agX oQ<|this i.toNat
theorem Ta:r9 c d .Add .add:=λA ws xs H ρ s v H' ro hr rs e=>rZ (show ft ws (FW H)=_ from e) rs λa b x y _ qx ra rb e=>by
 subst qx;clear rs;rcases a with _|_|i|_|a|_
 ·exact nn e
 ·exact nn e
 ·exact eN e rb λj u _ q2 e=>ra.elim λt q1=>by subst q1 q2;exact fA e (P:=λv H'=>dB c A _ ρ s v H')<|.mD hr λQ E' k=>add_int (k _ _ ag0 rfl rfl<|fz _ _)
 ·exact nn e
 ·exact ob e λo hx e=>ob e λvs ho e=>hY hr ra (hx.trans (agX some<|fS ho)) λp us _ q1 _ hL rp _=>jl e hr rb λb q ws ys n2 _ q2 _ _ hM rq _ e=>by
   subst q1 q2;refine .list e hr λhl Q E' k=> ?_
   refine concat_meets ⟨_,hL,ag0⟩ ⟨_,hM,ag0⟩ noFill_list_add seq_list_add PySem.F.slot_list_add PySem.F.entry_list_add (PySem.F.args_list_add_2 _ _)
    (list_addW p q us.toArray ws.toArray _ n2 _ _ _ _ (ae (aF<|(aX (as:=us)).symm.trans (rp.append rq).len.symm)<|mE hl)) ⟨hL,hM, ?_⟩
   rw [NR];have n:=vE (n:=0) hr (rp.append rq) hl;exact k _ _ _ n.1 n.2
 ·exact nn e
theorem Tb:r9 c d .Mult .mul:=λA ws xs H ρ s v H' ro hr rs e=>rZ (show ft ws (FX H)=_ from e) rs λa b x y _ qx ra rb e=>by
 subst qx;clear rs;rcases a with _|_|i|_|a|_
 ·exact nn e
 ·exact nn e
 ·exact eN e rb λj u _ q2 e=>ra.elim λt q1=>by subst q1 q2;have e:=dA.mp e;exact fA e.2 (P:=λv H'=>dB c A _ ρ s v H')<|.mD hr λQ E' k=>mul_int (k _ _ ag0 rfl rfl<|fz _ _) (IntMulOk.of_left<|S8 e.1.1)
 ·exact nn e
 ·exact ob e λo hx e=>ob e λvs ho e=>hY hr ra (hx.trans (agX some<|fS ho)) λp us _ q1 _ hL rp _=>eN e rb λi u _ q2 e=>rY e rp λv0 x0 _ q3 r1 e=>by
   subst q1 q2 q3;have e:=dA.mp e;have hi:=e.1;refine .list e.2 hr λhl Q E' k=> ?_
   refine wpAny_binaryOp_repeat_ref (T:="list") (U:="int") (by decide) ⟨_,hL,ag0⟩ (λs'=>typeIs_int s' i u) noFill_list_mul F.fills_int_mul NS repeat_list F.slot_int_index.lookup
    (qU NS (typeIs_int s i u) F.entry_int_rmul (F.args_int_rmul_2 _ _) (lm_int_rmul_list_any i u p [x0].toArray _ _ _)
     ⟨hL,ag0,⟨_,hL,ag0⟩,qU F.slot_list_mul ⟨_,hL,ag0⟩ F.entry_list_mul (F.args_list_mul_2 _ _)
      (lm_list_mul_any p [x0].toArray _ _ _ i u (by simp [agz];omega) (by simp;omega) (by simp [NT,iD];omega))
      ⟨hL, ?_⟩⟩)
   rw [S9];have n:=vE (n:=0) hr (aA.rep r1 i.toNat) hl;exact k _ _ _ n.1 n.2
 ·exact nn e
variable{j:Int}{ns:List Int}{p:Addr}{ys:List Value}{us:List V}{vl vu ve:Value}{b:Nat}
theorem vK{lo hi st:Option aB}{p:Pos}(h:ao (Md c) A (eval o env) (λx s1=>ao (Md c) A (DK lo env) (λa s2=>ao (Md c) A (DK hi env) (λb s3=>ao (Md c) A (DK st env) (λe s4=>pY {s4 with heap:=s4.heap.push {cls:=.type "slice",data:=.fields #[a,b,e]}} x/\ao (Md c) A (jE x<|.ref s4.heap.objs.size) Q E' {s4 with heap:=s4.heap.push {cls:=.type "slice",data:=.fields #[a,b,e]}}) E' s3) E' s2) E' s1) E' s):
 ao (Md c) A (eval (.Subscript o (.Slice lo hi st p) pos) env) Q E' s:=by
 rw [NO];refine aj (gh h (λx s1 h1=>aj (dH (wpAny_Slice (gh h1 (λa s2 h2=>gh h2 (λb s3 h3=>gh h3 (λe s4 h4=>aj (jC (aj (h4.1 _ _ _ _ ?_)))) λ_ _ x=>x) λ_ _ x=>x) λ_ _ x=>x)))) λ_ _ x=>x);rcases st<;>exact aj (NP (gh h4.2 (λr s5 h5=>aj (NQ (aE h5))) λ_ _ x=>x))
theorem G2(xs:List Value)(h:0<=j):t7 xs.toArray none (some j) none=(xs.take j.toNat).toArray:=
 (kz h).elim λn e=>e▸slicePick_upto' xs.toArray n
theorem Td(xs:List Value)(h:0<=j):t7 xs.toArray (some j) none none=(xs.drop j.toNat).toArray:=by obtain ⟨n,rfl⟩:=kz h;rw [slicePick_from'];simp
theorem Te{α:Type}(xs:List α)(n m:Nat):(xs.drop<|min n xs.length).take (min m xs.length-min n xs.length)=(xs.drop n).take (m-n):=
 (NU n xs.length).elim (λq=>(DM q).symm▸(NU m xs.length).elim (λr=>(DM r).symm▸rfl) λr=>
  (Nat.min_eq_right r).symm▸(yc<|aF iA).trans (yc (ae (aF iA)<|Nat.sub_le_sub_right r n)).symm) λq=>by
  rw [NW (Nat.le_min.mpr ⟨q,cf _⟩),NW q,ye,ye]
theorem Tf(xs:List Value)(h:0<=i)(h':0<=j):t7 xs.toArray (some i) (some j) none=((xs.drop i.toNat).take (j.toNat-i.toNat)).toArray:=by obtain ⟨n,rfl⟩:=kz h;obtain ⟨m,rfl⟩:=kz h';rw [slicePick_plain];simp only [Option.elim,clipAt_nat,fg,oR];exact agX oQ (Te xs n m)
theorem aA.take:∀{x:List Value} (n:Nat),aA ρ h v x->aA ρ h (v.take n) (x.take n):=by
 induction v with
 |nil=>intro x n r;have r:x= []:=r;subst r;rw [ye,ye];exact ag0
 |cons v vs ih=>
  intro x n r;rcases n with _|n
  ·exact ag0
  ·exact cE.k r λy ys e r=>cE.of (agX (DN<|n+1) e) ⟨r.1,ih n r.2⟩
theorem aA.drop:∀{x:List Value} (n:Nat),aA ρ h v x->aA ρ h (v.drop n) (x.drop n):=by
 induction v with
 |nil=>intro x n r;have r:x= []:=r;subst r;rw [NX,NX];exact ag0
 |cons v vs ih=>
  intro x n r;rcases n with _|n
  ·exact r
  ·exact cE.k r λy ys e r=>by subst e;exact ih n r.2
theorem aA.rev:∀{x:List Value},aA ρ h v x->aA ρ h v.reverse x.reverse:=by
 induction v with
 |nil=>exact λ{x} r=>agX DO (r:x= [])
 |cons v vs ih=>intro x r;exact cE.k r λy ys e r=>by subst e;rw [oS,oS];exact (ih r.2).append ⟨r.1,ag0⟩
theorem Tg:∀{xs:List Value},c8 ns xs->aA ρ h (ns.map V.int) xs:=by
 induction ns with
 |nil=>exact λr=>r
 |cons n ns ih=>exact λr=>cE.k r λy ys e r=>cE.of e ⟨r.1,ih r.2⟩
section
variable{lo hi st:Option Int}
theorem G3(hr:HR c.w c.hb ρ H s.heap)(hl1:s.heap.IsList p xs.toArray)(pl:qV vl lo)(pu:qV vu hi)(ps:qV ve st)(h0:st≠some 0)(e1:t7 xs.toArray lo hi st=ys.toArray)(r1:aA ρ s.heap us ys)(hl:xs.length<=iD)(hu:us.length<=lim)(k:∀z ρ' s',Af c ρ s ρ' (H++ [.list us]) s'->VR ρ' s'.heap (.ref H.length) z->Q z s'):
 pY {s with heap:=s.heap.push {cls:=.type "slice",data:=.fields #[vl,vu,ve]}} (.ref p)/\
  ao (Md c) A (jE (.ref p)<|.ref s.heap.objs.size) Q E' {s with heap:=s.heap.push {cls:=.type "slice",data:=.fields #[vl,vu,ve]}}:=
 have h:=hr.push {cls:=.type "slice",data:=.fields #[vl,vu,ve]};have hl2:(s.heap.push {cls:=.type "slice",data:=.fields #[vl,vu,ve]}).IsList p xs.toArray:=hl1.push _;have n:=vE (s:={s with heap:=s.heap.push {cls:=.type "slice",data:=.fields #[vl,vu,ve]}}) (n:=0) h.1 (r1.on h.2) hu
 ⟨sd (s:={s with heap:=_}) hl2.typeIs NN,wpAny_getItem_list_slice hl2 (DP ..) pl pu ps h0 (e1▸k _ _ _ ((⟨h.1,h.2,ag0,ag0⟩:Af c ρ s ρ H {s with heap:=_}).trans n.1) n.2) hl⟩
theorem G4(hr:HR c.w c.hb ρ H s.heap)(ht:cq s.heap p xs.toArray)(r1:aA ρ s.heap us ys)(hu:us.length<=lim)(hg:∀{s':ah} {Q':Value->ah->Prop},cq s'.heap p xs.toArray->s'.heap.IsSliceOf s.heap.objs.size vl vu .none->Q' (.ref s'.heap.objs.size) {s' with heap:=s'.heap.push {cls:=.type "tuple",data:=.seq ys.toArray}}->ao (Md c) A (jE (.ref p)<|.ref s.heap.objs.size) Q' E' s')(k:∀z ρ' s',Af c ρ s ρ' H s'->VR ρ' s'.heap (.tup us) z->Q z s'):
 pY {s with heap:=s.heap.push {cls:=.type "slice",data:=.fields #[vl,vu,.none]}} (.ref p)/\
  ao (Md c) A (jE (.ref p)<|.ref s.heap.objs.size) Q E' {s with heap:=s.heap.push {cls:=.type "slice",data:=.fields #[vl,vu,.none]}}:=
 have h:=hr.push {cls:=.type "slice",data:=.fields #[vl,vu,.none]};have ht2:cq (s.heap.push {cls:=.type "slice",data:=.fields #[vl,vu,.none]}) p xs.toArray:=ht.keeps λ_ _ e=>dG _ e;have n:=AB (s:={s with heap:=s.heap.push {cls:=.type "slice",data:=.fields #[vl,vu,.none]}}) h.1 (r1.on h.2) hu
 ⟨sd (s:={s with heap:=_}) ht2.typeIs ya,hg ht2 (DP ..)<|k _ _ _ ((⟨h.1,h.2,ag0,ag0⟩:Af c ρ s ρ H {s with heap:=_}).trans n.1) n.2⟩
end
theorem Th(b n:Nat)(hb:b<=n):DQ none (some (b:Int)) 1 (n:Int)=((0:Int),(b:Int)):=by unfold DQ;simp only [show ¬((1:Int)<0) by decide,cH.mpr (c6 b),if_false];exact agX (Prod.mk 0) (t8 (cz.mpr hb))
theorem Ti{sl:Addr}{Q:Int×Int×Nat->ah->Prop}(hs:s.heap.IsSliceOf sl .none (.int b u) .none)(hb:b<=n)(h:Q ((0:Int),1,b) s):
 ao (Md c) A (NY (.ref sl)<|pure (n:Int)) Q E' s:=by
 obtain ⟨os,hos,hcs,hds⟩:=id hs;unfold NY agA;refine aj (aj (iE hos hds (x:=.none) rfl (aj (iE hos hds (x:=.int b u) rfl (aj (iE hos hds (x:=.none) rfl (aE (aj (NZ ?_)))))))));show ao _ _ (if ((1:Int) == 0)=true then _ else _) _ _ s;rw [if_neg (by decide)];refine aj (NZ (aj (slicePart_int (aj (aE ?_)))));show ao _ _ (match DQ none (some (b:Int)) 1 (n:Int) with|(lo,hi)=>pure (lo,(1:Int),agB lo hi 1)) _ _ s;rw [Th b n hb];exact (agX (λm=>ao (Md c) A (pure ((0:Int),(1:Int),m)) Q E' s) (places_from 0 b (bq _))).mpr (aE h)
theorem Tj(xs:List Value)(b:Nat):((aT b).filterMap λ(k:Nat)=>xs.toArray[((0:Int)+(k:Int)*1).toNat]?).toArray=(xs.take b).toArray:=by
 have:=pick_run xs.toArray 0 b;rw [List.filterMap_map] at this
 have e:(λ(k:Nat)=>xs.toArray[((0:Int)+(k:Int)*1).toNat]?)=(λx=>xs.toArray[x]?)∘λx=>0+x:=
  funext λk=>agX (xs.toArray[·]?)<|((agX Int.toNat ((dR _).trans<|Int.mul_one _)).trans<|oR k).trans (jF k).symm
 rw [e,this];simp
theorem Tk{t sl:Addr}(ht:cq s.heap t xs.toArray)(hs:s.heap.IsSliceOf sl .none (.int b u) .none)(hb:b<xs.length)(h:Q (.ref s.heap.objs.size) {s with heap:=s.heap.push {cls:=.type "tuple",data:=.seq (xs.take b).toArray}})(hsz:xs.length<=iD):ao (Md c) A (jE (.ref t)<|.ref sl) Q E' s:=by
 have htake:sizeOk (.seq (xs.take b).toArray):=ae (t9 b xs) hsz;obtain ⟨os,hos,hcs,hds⟩:=id hs;unfold jE
 try with_reducible refine dH ?_
 first|refine aj (aE ?_)|skip
 refine aj (DR ht.typeIs (by decide) (aj (qW (name:=am "__getitem__") ht.typeIs ya
  (m7 ya ht.typeIs entry_tuple_getitem ?_<|args_tuple_getitem _ _))))
 show ao _ _ (agC (.ref t) >>= _) _ _ s;refine aj<|N0 ht (aj<|DS (⟨os,hos,hcs⟩:s.TypeIs (.ref sl) "slice") ?_);rw [if_pos (by decide)];refine aj<|Ti hs (cV hb) ?_;show ao _ _ (if ((0:Int) == 0&&(1:Int) == 1&&b == xs.length)=true then _ else _) _ _ s;rw [if_neg (show ¬(((0:Int) == 0&&(1:Int) == 1&&b == xs.length)=true) from λq=>lP hb (beq_iff_eq.mp<|ar q)),Tj]
 first
  |exact aj (m:=yh _) (oT (aE ⟨_,rfl,aE h⟩) htake)
  |exact aj (m:=yh _) (oT (aj (aE (aE ⟨_,rfl,aE h⟩))) htake)
  |exact aj (aj (m:=yh _) (oT (aE (aE ⟨_,rfl,aE h⟩)) htake))
  |exact aj (aj (m:=yh _) (oT (aE ⟨_,rfl,aE h⟩) htake))
variable{v z:V}{p p2:Pos}{u:Nat}
theorem lb(r:aA ρ h vs xs)(g:vs.length<=lim):xs.length<=iD:=r.len▸mE g
def mF(c:Cx)(A:bj)(ρ:aK)(s:ah)(x vl vu ve:Value)(v:V)(H':Hp):Prop:=∀(Q E':Value->ah->Prop),(∀z ρ' s',Af c ρ s ρ' H' s'->VR ρ' s'.heap v z->Q z s')->
 pY {s with heap:=s.heap.push {cls:=.type "slice",data:=.fields #[vl,vu,ve]}} x/\ao (Md c) A (jE x<|.ref s.heap.objs.size) Q E' {s with heap:=s.heap.push {cls:=.type "slice",data:=.fields #[vl,vu,ve]}}
theorem mF.list{lo hi st:Option Int}(hr:HR c.w c.hb ρ H s.heap)(r:VR ρ s.heap (.ref a) x)(hv:H[a]? = some (.list vs))(e:bY H us=some (z,H'))(pl:qV vl lo)(pu:qV vu hi)(ps:qV ve st)(h0:st≠some 0)(g:∀xs,aA ρ s.heap vs xs->∃ys,t7 xs.toArray lo hi st=ys.toArray/\aA ρ s.heap us ys):mF c A ρ s x vl vu ve z H':=
 pX e λhl h1 h2=>hY hr r hv λpa xs n hx _ l1 rs gl=>(g xs rs).elim λys g=>by subst h1 h2 hx;exact λQ E'=>G3 hr l1.isList pl pu ps h0 g.1 g.2 (lb rs gl) hl
theorem Tl(hr:HR c.w c.hb ρ H s.heap)(r:VR ρ s.heap v x)(e:zX H v j=some (z,H')):mF c A ρ s x .none (.int j t) .none z H':=by
 rcases v with _|_|_|_|a|vs
 iterate 4 exact nn e
 ·exact ob e λo hv e=>by
   rcases o with ⟨⟩|vs|⟨⟩|ns
   ·exact nn e
   ·have e:=dA.mp e;exact .list hr r hv e.2 .none (.int j t) .none nofun λxs rs=>⟨_,G2 xs e.1.1,rs.take _⟩
   ·exact nn e
   ·have e:=dA.mp e;exact pX e.2 λhl h1 h2=>r.elim λpa r=>(hr.obj _ _ _ r.1 hv).2.elim λxs l=>l.elim λn l=>by have hx:=r.2;subst h1 h2 hx;have rs':aA ρ s.heap (ns.map V.int) xs:=Tg l.2.1;exact λQ E'=>G3 hr l.1.isList .none (.int j t) .none nofun (G2 xs e.1.1) (us:=(ns.take j.toNat).map V.int) (N1▸rs'.take _) (lb rs'<|aG (as:=ns) V.int▸l.2.2) hl
   all_goals exact nn e
 ·have e:=dA.mp e;exact fA e.2 (P:=λz H'=>mF c A ρ s x .none (.int j t) .none z H') (nY r λpa xs hx ht rs g'=>(kz e.1.1).elim λn hn=>by subst hx hn;have hn:n<vs.length:=dh.mp e.1.2.1;exact λQ E'=>G4 (us:=vs.take n) hr ht (rs.take n) (ae (t9 n vs) e.1.2.2) λht' hs' q'=>Tk ht' hs' (rs.len▸hn) q'<|lb rs g')
theorem Tm(hr:HR c.w c.hb ρ H s.heap)(r:VR ρ s.heap v x)(e:zY H v j=some (z,H')):mF c A ρ s x (.int j t) .none .none z H':=by
 rcases v with _|_|_|_|a|vs
 iterate 4 exact nn e
 ·exact ob e λo hv e=>ob e λvs ho e=>
   have e:=dA.mp e
   .list hr r (hv.trans (agX some<|fS ho)) e.2 (.int j t) .none .none nofun λxs rs=>⟨_,Td xs e.1.1,rs.drop _⟩
 ·have e:=dA.mp e
  exact fA e.2 (P:=λz H'=>mF c A ρ s x (.int j t) .none .none z H') (nY r λpa xs hx ht rs g'=>(kz<|aL (by decide) e.1.1).elim λn hn=>by
   subst hx hn
   exact λQ E'=>G4 (us:=vs.drop n) hr ht (rs.drop n) (ae (aF iA)<|ae (lQ _ _) e.1.2.2) λht' hs' q'=>
    getItem_tuple_from ht' hs' (cz.mp e.1.1) ((rs.len▸cz.mp e.1.2.1:n<=xs.length)) (by simpa using q') (lb rs g'))
section
variable{a b:aB}
theorem AG(xo:SE c d C σ o o')(xb:SE c d C σ b b'):SE c d C σ (.Subscript o (.Slice none (some b) none p) pos) (.prim .sliceTo<|gK o' b'):=λA env l H ρ s Qa Q E' ro er hr w k=>
 vK (xo A env l H ρ s (λv h1=>aH G C b' l h1 λu h2=>aQ G .sliceTo [v,u] h2 Qa) _ E' ro er hr w λv x H1 ρ1 s1 q1 a1 r1=>aE (xb A env l H1 ρ1 s1 _ _ E' ro (er.on a1.k) a1.r q1 λu y H2 ρ2 s2 q2 a2 r2=>aE (
  nX q2 λz H' e q=>eN (show fI u (zX H2 v)=_ from e) r2 λj t _ qy e=>by subst qy;exact Tl a2.r (r1.on a2.k) e _ _ λz ρ' s' a3=>k _ _ _ _ _ q<|(a1.trans a2).trans a3)))
theorem To(xo:SE c d C σ o o')(xb:SE c d C σ b b'):SE c d C σ (.Subscript o (.Slice (some b) none none p) pos) (.prim .sliceFrom<|gK o' b'):=λA env l H ρ s Qa Q E' ro er hr w k=>
 vK (xo A env l H ρ s (λv h1=>aH G C b' l h1 λu h2=>aQ G .sliceFrom [v,u] h2 Qa) _ E' ro er hr w λv x H1 ρ1 s1 q1 a1 r1=>xb A env l H1 ρ1 s1 _ _ E' ro (er.on a1.k) a1.r q1 λu y H2 ρ2 s2 q2 a2 r2=>aE (aE (
  nX q2 λz H' e q=>eN (show fI u (zY H2 v)=_ from e) r2 λj t _ qy e=>by subst qy;exact Tm a2.r (r1.on a2.k) e _ _ λz ρ' s' a3=>k _ _ _ _ _ q<|(a1.trans a2).trans a3)))
theorem Tp(xo:SE c d C σ o o')(xa:SE c d C σ a a')(xb:SE c d C σ b b'):SE c d C σ (.Subscript o (.Slice (some a) (some b) none p) pos) (.prim .slice<|Gb o' a' b'):=λA env l H ρ s Qa Q E' ro er hr w k=>
 vK (xo A env l H ρ s (λv h1=>aH G C a' l h1 λu h2=>aH G C b' l h2 λu3 h3=>aQ G .slice [v,u,u3] h3 Qa) _ E' ro er hr w λv x H1 ρ1 s1 q1 a1 r1=>xa A env l H1 ρ1 s1 _ _ E' ro (er.on a1.k) a1.r q1 λu y H2 ρ2 s2 q2 a2 r2=>
  xb A env l H2 ρ2 s2 _ _ E' ro (er.on (a1.trans a2).k) a2.r q2 λu3 y3 H3 ρ3 s3 q3 a3 r3=>aE (
   nX q3 λz H' e q=>ob (show fL H3 v (λ_ xs=>fI u λi=>fI u3 λj=>(cut xs i j).bind<|bY H3)=_ from e) λpa ep e=>ob e λo' hv e=>ob e λvs hl e=>eN e (r2.on a3.k) λi t _ qy e=>eN e r3 λj t3 _ qz e=>ob e λus hc e=>by have hc:=dA.mp hc;have q4:=av hc.2;subst qy qz q4;exact mF.list a3.r (kX ep▸(r1.on a2.k).on a3.k) (hv.trans (agX some<|fS hl)) e (.int i t) (.int j t3) .none nofun (λxs rs=>⟨_,Tf xs hc.1.1 hc.1.2.1,(rs.drop _).take _⟩) _ _ λz ρ' s' a4 r4=>k _ _ _ _ _ q (((a1.trans a2).trans a3).trans a4) r4))
theorem Tq{p1:Pos}(xo:SE c d C σ o o'):SE c d C σ (.Subscript o (.Slice none none (some<|.UnaryOp .USub (.Constant (.int 1) u p1) p2) p) pos) (.prim .rev<|kZ o'):=λA env l H ρ s Qa Q E' ro er hr w k=>
 vK (xo A env l H ρ s (λv h1=>aQ G .rev [v] h1 Qa) _ E' ro er hr w λv x H1 ρ1 s1 q1 a1 r1=>aE (aE ((agX (λm=>ao (Md c) A m _ E' s1)<|DT ..).mpr (DA (xX (neg_int (
  nX q1 λz H' e q=>ob (show fL H1 v (λ_ xs=>bY H1 xs.reverse)=_ from e) λpa ep e=>ob e λo' hv e=>ob e λvs hl e=>
   have a2:=a1.tok<|s1.toks+1+1
   mF.list (s:={s1 with toks:=_}) a2.r (kX ep▸r1) (hv.trans (agX some<|fS hl)) e .none .none (.int (-1) _) (by decide) (λxs rs=>⟨_,krv_pick xs.toArray,rs.rev⟩) _ _ λz ρ' s' a4 r4=>k _ _ _ _ _ q (a2.trans a4) r4)))))))
end
variable{tk i:Nat}{D:Addr}{kvs v:List (Int×V)}{p:Addr×Addr}{k:Hp->V->Option (V×Hp)}{l:List Int}{a b:Int}
theorem se(hr:HR c.w c.hb ρ H s.heap)(hk:∀b x,s.heap.get? b=some x->h'.get? b=some x)(hD:s.heap.get? D=none)(hg:h'.get? D=some {cls:=.type "list",data:=.seq xs.toArray n})(r:aA ρ s.heap vs xs)(hl:vs.length<=lim):
 Af c ρ s (ρ++ [(D,D)]) (H++ [.list vs]) {s with heap:=h',toks:=tk}/\VR (ρ++ [(D,D)]) h' (.ref H.length) (.ref D):=
 have K:Kp dX ρ (ρ++ [(D,D)]) s.heap h':=⟨λb x e=>⟨x,hk b x e,id⟩,⟨[_],ag0,λp hp=>cr.mp hp▸⟨hD,hD⟩⟩,λb x e _ _=>hk b x e⟩;have h:=hr.add (p:=(D,D)) (o:=.list vs) hk hD hD ⟨ag0,xs,n,hg,r.on K,hl⟩
 ⟨⟨h.1,h.2,ag0,ag0⟩,_,r8 hr _,ag0⟩
theorem jm(hr:HR c.w c.hb ρ H s.heap)(hk:∀b x,s.heap.get? b=some x->h'.get? b=some x):Af c ρ s ρ H {s with heap:=h',toks:=tk}:=⟨(hr.ext hk).1,(hr.ext hk).2,ag0,ag0⟩
theorem Tt(P:aD):((KX P).lookup 1).isSome:=by kernel_rfl
theorem Cx.one(c:Cx):∃o,c.hb.get? 1=some o:=(oU.mp<|Tt c.w.params).imp λo e=>c.k 1 o e
theorem HR.vL(hr:HR c.w c.hb ρ H h)(e1:ρ[i]? = some p)(e2:H[i]? = some (.dict kvs)):(p.1 == sysModules)=false:=
 beq_false_of_ne λe=>c.one.elim λo ho=>cQ (hr.new i p _ e1 e2 nofun).1<|((e:p.1=1)▸ho:c.hb.get? p.1=some o)
theorem PR.len:∀{x:List (Int×Value)},PR ρ h v x->v.length=x.length:=by
 induction v with
 |nil=>exact λr=>(agX cu r).symm
 |cons v vs ih=>exact λr=>cE.k r λx xs e r=>(agX (· + 1)<|ih r.2.2).trans (agX cu e).symm
def iO(c:Cx)(d:Nat)(f:Value)(p:P):Prop:=PO c d p λxs=>call f xs
theorem pZ{p:P}(hp:∀vs h,prim G p vs h=fQ vs (k h))(g:∀(A:bj) (v:V) (x:Value) (H:Hp) (ρ:aK) (s:ah) (z:V) (H':Hp),Ro d A->HR c.w c.hb ρ H s.heap->VR ρ s.heap v x->k H v=some (z,H')->dB c A (call f [x]) ρ s z H'):iO c d f p:=
 λA vs xs H ρ s z H' ro hr r e=>rY ((hp vs H).symm.trans e) r λv x _ q rx e=>by subst q;exact g A v x H ρ s z H' ro hr rx e
theorem G5(e:us.length=ys.length)(g:us.length<=lim):((ys.toArray.size:Nat):Int)<2 ^ 63:=gH (cz.mpr (e▸g:ys.length<=lim))<|by decide
theorem Tu{v:V}(hr:HR c.w c.hb ρ H h)(rx:VR ρ h v x)(e:FT H v=some us){P:Prop}(kt:∀a ys,v= .tup us->x= .ref a->cq h a ys.toArray->aA ρ h us ys->us.length<=lim->P)(kl:∀a p ys n,v= .ref a->x= .ref p->ρ[a]? = some (p,p)->H[a]? = some (.list us)->IsL h p ys.toArray n->aA ρ h us ys->us.length<=lim->P):P:=by
 rcases v with _|_|_|_|a|vs
 iterate 4 exact nn e
 ·exact ob e λo hH e=>
   have hH:=hH.trans (agX some<|fS e)
   hY hr rx hH λp ys n q hp hl rs g=>kl a p ys n ag0 q hp hH hl rs g
 ·have e:=av e;subst e;exact nY rx λa ys q ht rs g=>kt a ys ag0 q ht rs g
theorem Tv:iO c d (.builtin "len") .len:=pZ (λ_ _=>ag0) λA v x H ρ s z H' ro hr rx e=>(bF.mp e).elim λus e=>
 fA (agX some e.2) (P:=λz H'=>dB c A _ ρ s z H')
  (Tu hr rx e.1 (λa ys _ q ht rs g=>by
   subst q;exact .mD hr λQ E' k=>len_tuple ht (G5 rs.len g) (k _ _ ag0 rfl ag0 (rs.len▸fz _ _))) λa p ys n _ q _ _ hl rs g=>by
   subst q;exact .mD hr λQ E' k=>len_list hl.isList (G5 rs.len g) (k _ _ ag0 rfl ag0 (rs.len▸fz _ _)))
theorem Tw(i:Int):(if i<0 then -i else i)=(i.natAbs:Int):=
 if q:i<0 then (if_pos q).trans (Int.ofNat_natAbs_of_nonpos<|bZ q).symm else (if_neg q).trans (DU<|cH.mp q).symm
theorem Tx:iO c d (.builtin "abs") .abs:=pZ (λ_ _=>ag0) λA v x H ρ s z H' ro hr rx e=>eN e rx λi t _ q e=>by subst q;exact fA e (P:=λz H'=>dB c A _ ρ s z H') (.mD hr λQ E' k=>call_abs_int λu tk=>k _ _ ag0 rfl rfl<|Tw i▸fz _ _)
theorem Tz:∀{ks:List (Int×Value)} {vs:List Value},PR ρ h kvs ks->vs.length=ks.length->(∀(j:Nat) (v:Value),vs[j]? = some v->∃q x,ks[j]? = some (q,x)/\(kq pw w).is q v)->
 aA ρ h (kvs.map λkv=>V.int kv.1) vs:=by
 induction kvs with
 |nil=>exact λpr e _=>kA (e.trans<|agX cu pr)
 |cons p kvs ih=>
  intro ks vs pr e hh;refine cE.k pr λy ys ey pr=> ?_;subst ey;rcases vs with _|⟨v,vs⟩
  ·exact nomatch e
  ·exact (hh 0 v ag0).elim λq1 a=>a.elim λx1 a=>(Value.isInt_shape a.2).elim λt q3=>
    AD ⟨t,q3.trans<|agX (DV · t) (pr.1.trans (agX lR<|av a.1)).symm⟩ (ih pr.2.2 (qX e) λj v hj=>hh (j+1) v hj)
theorem TA:iO c d (.type "list") .listOf:=pZ (λ_ _=>ag0) λA v x H ρ s z H' ro hr rx e=>by
 rcases v with _|_|_|_|a|vs
 iterate 4 exact nn e
 ·exact ob e λo hH e=>by
   rcases o with ⟨⟩|vs|kvs
   ·exact nn e
   ·exact hY hr rx hH λp ys n q _ hL rs g=>by subst q;exact .list e hr λhl Q E' k=>N2 p (.inl ag0) hL ag0 rfl (λh' c' hk hg=>have a:=se (tk:=s.toks) hr hk (eO _) hg rs hl;k _ _ _ a.1 a.2)<|lb rs g
   ·exact rx.elim λp rx=>by
     have q:=rx.2;subst q
     exact (hr.obj _ _ _ rx.1 hH).2.elim λks m=>m.1.dictAt.elim λep hat=>.list e hr λhl Q E' k=>
      kdl_call (kdl_dict (knd:=kq pw c.w) (kvs:=ks) (ep:=ep)<|hr.vL rx.1 hH) ro.1 hat (m.2.len▸mE (aG (as:=kvs) (λkv=>V.int kv.1)▸hl)) λh' tk acc' c' hk hg hacc=>
       have a:=se (tk:=tk) (xs:=acc'.toList) hr hk (eO _) hg (Tz m.2 hacc.1 λj v e=>hacc.2 j v<|(Array.getElem?_toList ..).symm.trans e) hl
       k _ _ _ a.1 a.2
   all_goals exact nn e
 ·exact nY rx λa ys q ht rs g=>ht.elim λo t=>t.2.2.elim λn hd=>by subst q;exact .list e hr λhl Q E' k=>N2 a (.inr ag0) t.1 t.2.1 hd (λh' c' hk hg=>have a:=se (tk:=s.toks) hr hk (eO _) hg rs hl;k _ _ _ a.1 a.2)<|lb rs g
theorem G6:∀{ns:List Int} {xs:List Value},allInts vs=some ns->aA ρ h vs xs->∃ts:List (Int×Tok),xs=ts.map (λp=>.int p.1 p.2)/\ts.map (·.1)=ns:=by
 induction vs with
 |nil=>exact λe r=>⟨[],r,av e⟩
 |cons v vs ih=>
  exact λe r=>cE.k r λx ys q r=>ob e λi hi e=>(bF.mp e).elim λms hm=>(ih hm.1 r.2).elim λts h=>((nN hi▸r.1:VR ρ _ (.int i) x)).elim λt q4=>
   ⟨(i,t)::ts,q.trans<|q4▸h.1▸rfl,(agX (i:: ·) h.2).trans hm.2⟩
theorem sum_bound:(∀i∈l,0<=i/\i<=2 ^ 40)->0<=l.sum/\l.sum<=l.length*2 ^ 40:=by
 induction l with
 |nil=>exact λ_=>⟨eU _,eU _⟩
 |cons a l ih=>intro h;have h1:=h a<|.head _;have h2:=ih λi hi=>h i<|.tail _ hi;rw [List.sum_cons,N3,ua,Int.add_mul,fG<|_*_];exact ⟨lS h1.1 h2.1,N4 h1.2 h2.2⟩
theorem TB(h1:0<=a)(h2:a<=n*2 ^ 40)(h3:n<=4000)(h4:0<=b)(h5:b<=2 ^ 40):(-(2 ^ 63)<=b/\b<2 ^ 63)/\ -(2 ^ 63)<=a/\a<2 ^ 63:=
 ⟨⟨aL (by decide) h4,gH h5<|by decide⟩,aL (by decide) h1,gH (aL h2 (Int.mul_le_mul_of_nonneg_right (cz.mpr h3)<|by decide))<|by decide⟩
theorem TC:iO c d (.builtin "sum") .sum:=pZ (λ_ _=>ag0) λA v x H ρ s z H' ro hr rx e=>jl e hr rx λa p ys us n _ q _ _ hl rs g e=>ob e λns hns e=>(G6 hns rs).elim λts qs=>by
 have q2:=qs.1;have q3:=qs.2;subst q q2 q3;have e:=dA.mp e;have hb:=e.1;refine fA e.2 (P:=λz H'=>dB c A _ ρ s z H') λQ E' k=>sum_intList ro.1 (xs:=ts.toArray) (by rw [intItems,List.map_toArray];exact hl.isList) (λj hj=> ?_) λh' tk t' hk=>k _ _ _ (jm hr hk) ?_
 ·rw [numAt_eq,preSum_eq];have b1:=hb _ (getD_mem (l:=ts.map (·.1)) (lU hj (aG ..).symm));have b2:=sum_bound (l:=(ts.map (·.1)).take (j+1)) λi hi=>hb i (List.mem_of_mem_take hi);exact TB b2.1 b2.2 (ae (t9 _ _) ((aG (as:=ts) (·.1)).trans ((aG (as:=ts) λp=>DV p.1 p.2).symm.trans rs.len.symm)▸g)) b1.1 b1.2
 ·rw [preSum_eq];exact (yc (l:=ts.map (·.1)) (i:=ts.length) (aF (aG ..))).symm▸fz _ _
theorem TD:iO c d (.type "tuple") .jR:=pZ (λ_ _=>ag0) λA v x H ρ s z H' ro hr rx e=>jl e hr rx λa p ys us n _ q _ _ hl rs g e=>by
 subst q
 exact fA e (P:=λz H'=>dB c A _ ρ s z H') λQ E' k=>call_tuple_list hl.isList (λh' hk=>
  have a1:=jm (tk:=s.toks) hr hk;have n:=AB (s:={s with heap:=h'}) a1.r (rs.on a1.k) g
  k _ _ _ (a1.trans n.1) n.2) (lb rs g)
theorem TE:iO c d (.builtin "min") .min2:=vG (f:=λa b h=>some (.int<|min a b,h)) (λ_ _=>ag0) λA a b t u H ρ s v H' ro hr e=>
 fA e (P:=λz H'=>dB c A _ ρ s z H') λQ E' k=>min_two_ints ro.1 λh' tk hk=>k _ _ _ (jm hr hk) (by
  by_cases q:b<a
  ·rw [if_pos q,Int.min_eq_right (bZ q)];exact fz _ _
  ·rw [if_neg q,t8 (cH.mp q)];exact fz _ _)
theorem TF:iO c d (.builtin "max") .max2:=vG (f:=λa b h=>some (.int<|max a b,h)) (λ_ _=>ag0) λA a b t u H ρ s v H' ro hr e=>
 fA e (P:=λz H'=>dB c A _ ρ s z H') λQ E' k=>max_two_ints ro.1 λh' tk hk=>k _ _ _ (jm hr hk) (by
  by_cases q:b>a
  ·rw [if_pos q,qY (bZ q)];exact fz _ _
  ·rw [if_neg q,Int.max_eq_left (cH.mp q)];exact fz _ _)
variable{v:V}{b:Bool}{o:Option Bool}{t k:Nat}{tv:Value}{f:Nat->Bool}{p:P}{q:Pos}{r:List aB}
section
variable{x:Value}
theorem p5(e:nS o b):o=some b:=agY e
theorem p6(P:aD)(h:t<6):nT (KX P) t:=bU.mp (al<|GI P) t<|iB.mpr h
theorem TH(P:aD)(hk:k<20)(hn:(a6 k 10||a6 k 18)=false):(nT (KX P) (100+k)&&GH (KX P) (cA.getD k 0)):=
 (oK.mp (bU.mp (ar<|GI P) k<|iB.mpr hk)).elim (λq=>nb<|hn.symm.trans q) id
def G7(c:Cx)(h:Heap)(x:Value)(t:Nat):Prop:=nT c.K t=true/\x≠ .builtin "__main__.__loader__#opaque"/\∃tv P,rW t=some tv/\KitX c.K x tv P/\P h
theorem TJ(hr:HR c.w c.hb ρ H h)(r:VR ρ h v x)(e:jV H v=some t):G7 c h x t:=by
 rcases v with _|_|_|_|a|vs
 ·exact av e▸(r:x= .none)▸⟨p6 _<|by decide,nofun,_,_,ag0,kitx_none,trivial⟩
 ·exact av e▸(r:x= .bool _)▸⟨p6 _<|by decide,nofun,_,_,ag0,kitx_bool,trivial⟩
 ·exact av e▸r.elim λu r=>r▸⟨p6 _<|by decide,nofun,_,_,ag0,kitx_int,trivial⟩
 ·exact av e▸r.elim λ_ r=>r.elim λ_ r=>r.2▸⟨p6 _<|by decide,nofun,_,_,ag0,kitx_str,trivial⟩
 ·exact ob e λo hH e=>r.elim λp r=>by
   have hx:=r.2;subst hx;rcases o with ⟨k,fs⟩|vs
   ·exact ba (P:=λo=>o=some t->G7 c h (.ref p.1) t) (λ_ e=>nn e) (λhn e=>(hr.obj _ _ _ r.1 hH).inst ag0 λC cd es n e1 e2 e3 e4 e5=>by
     have e:=av e;subst e;have ok:=TH c.w.params (au (bU.mp Au _<|mem_lookup e2)) hn;rw [getD_at e1] at ok;have o1:=ar ok;have o3:=ar<|ar o1;have o5:=ar<|ar o3;refine ⟨al ok,nofun,.ref C,_, ?_,kitx_own (al o1) (al<|ar o1) (pV<|al o3) (pV (al<|ar o3)) (p5<|al o5) (p5<|ar o5),pW e3 e4⟩;have b:dD 100 (100+k)=true:=lM<|fh ..;unfold rW;rw [b,Ds,e1]
     rfl) e
   ·exact av e▸(hr.obj _ _ _ r.1 hH).2.elim λxs l=>l.elim λn l=>⟨p6 _<|by decide,nofun,_,_,ag0,kitx_list,_,l.1,ag0⟩
   all_goals exact nn e
 ·exact av e▸r.elim λa r=>r.elim λxs r=>r.1▸r.2.1.elim λo t=>⟨p6 _<|by decide,nofun,_,_,ag0,kitx_tuple,o,t.1,t.2.1⟩
structure nZ(p:P)(T:Value)(f:Nat->Bool):Prop where
 pr:∀vs h,prim G p vs h=rS h vs f
 kt:∀{K:Frag} {t:Nat} {tv:Value},nT K t=true->rW t=some tv->tU K tv T=some (f t)
theorem vM{K:Frag}(ok:nT K t)(e:rW t=some tv):GG K t tv:=((eC ..).mp ok).elim λv h=>av (e.symm.trans h.1)▸h.2
theorem TL:nZ .isBool (.type "bool") λt=>t == 1:=⟨λ_ _=>ag0,λok e=>p5 (al<|vM ok e)⟩
theorem TM:nZ .isInt (.type "int") λt=>t == 1||t == 2:=⟨λ_ _=>ag0,λok e=>p5<|al (ar<|vM ok e)⟩
theorem TN:nZ .isTup (.type "tuple") λt=>t == 4:=⟨λ_ _=>ag0,λok e=>p5 (al<|ar (ar<|vM ok e))⟩
theorem TQ:nZ (.pK 9) (.ref<|cA.getD 9 0) λt=>t == 109:=⟨λ_ _=>ag0,λok e=>p5 (ar<|ar (ar<|vM ok e))⟩
theorem TR{T:Value}(hp:nZ p T f):PO c d p λxs=>call (.builtin "isinstance") [v0 xs,T]:=λA vs xs H ρ s z H' ro hr rs e=>rY ((hp.pr vs H).symm.trans e) rs λv x _ q r e=>(bF.mp e).elim λt e=>by subst q;have g:=TJ hr r e.1;exact g.2.2.elim λtv g1=>g1.elim λP g1=>fA (agX some e.2) (P:=λz H'=>dB c A _ ρ s z H')<|.mD hr λQ E' k=>kia_one g1.2.1 (c.cY hr) g1.2.2 (hp.kt g.1 g1.1) g.2.1 λtk=>k _ _ ag0 rfl ag0 rfl
theorem lh(P:aD){x:Str}(h:x∈vv):nsIn (KX P) dE x=some none:=As<|bU.mp (RY P) x h
theorem G8{x:Str}{f:Value}(hf:iO c d f p)(hv:(∃id,f= .builtin id)\/∃T,f= .type T)(ok:aP σ)(g:bN σ x)(hm:x∈vv)(hb:Dz x=some f)(hn:x≠"__name__")(hs:(e::r).all notStar)(hx:∀y∈e::r,SE c d C σ y<|rec σ y):SE c d C σ (.Call (.Name x q) (e::r) [] pos) (.prim p<|aU rec σ (e::r)):=λA env l H ρ s Qa Q E' ro er hr w k=>
 have main:ao (Md c) A (DG (i5 pos<|iC (e::r) env)) (λvs s₁=>ao (Md c) A (call f vs) Q E' s₁) E' s:=r7 hx A env l H ρ s _ _ E' ro er hr w λvs xs H1 ρ1 s1 q1 a1 r1=>hf.use ro a1 r1 q1 k
 kx (k9 ok g er hr (lh c.w.params hm) hb hn (hv.elim (λh=>h.elim λid h=>by
  subst h;exact N5 main (dj (al hs) r env) (plain_any (ar hs))) λh=>h.elim λT h=>by
  subst h;exact DW main (dj (al hs) r env) (plain_any (ar hs))))
theorem G9{T:Value}(hp:nZ p T f)(ok:aP σ)(g:bN σ (am "isinstance")){t:Str}(ht:∀(A:bj) (env:Env) (l:Loc) (H:Hp) (ρ:aK) (s:ah) (Q:Value->ah->Prop) (E':Value->ah->Prop) (q:Pos),ER σ l ρ s.heap env->HR c.w c.hb ρ H s.heap->Q T s->ao (Md c) A (eval (.Name t q) env) Q E' s){q':Pos}(hs:notStar e)(hx:SE c d C σ e (rec σ e)):SE c d C σ (.Call (.Name (am "isinstance") q) [e,.Name t q'] [] pos) (.prim p<|aU rec σ [e]):=λA env l H ρ s Qa Q E' ro er hr w k=>
 have w:aH G C (rec σ e) l H λv h1=>aQ G p [v] h1 Qa:=(agX (λes=>cM G C es l H λvs h1=>aQ G p vs h1 Qa)<|GU hs []).mp w
 kx (k9 ok g er hr (lh c.w.params<|by decide) Boot.«isinstance» (by decide) (N5 (
  kr (hx A env l H ρ s _ _ E' ro er hr w λv x H1 ρ1 s1 q1 a1 r1=>kr (ht A env l H1 ρ1 s1 _ E' q' (er.on a1.k) a1.r (oM<|(TR hp).use (xs:=[x]) ro a1 (AC r1) q1 k))<|dj ag0 _ env) (dj hs _ env)) (dj hs _ env)))
end
variable{ap:Pos}{m:Str}{o:aB}{l:Loc}{xs:Array Value}{n' a:Nat}{x:List Value}
section
variable{p:P}{v:V}
theorem TU(hs:es.all notStar)(hf:aR es.length 29):N6 (es.length+([]:List km).length) (i5 pos<|iC es env) (backToKw pos<|keywordEach [] env):=by
 unfold N6;rw [show (i5 pos (iC es env)).all (λx=> !x.1)=true from (List.all_eq_not_any_not ..).trans (agX not ((agX (DX _) (funext λ(x:Bool×Sem Value)=>Bool.not_not x.1)).trans (plain_any hs))),show backToKw pos (keywordEach [] env)= [] from rfl];have h2:es.length<29:=au hf;simp
 omega
theorem sf(hb:la o)(hs:es.all notStar)(hf:aR es.length 29)(hl:(ap.endLine == pos.line))(h:ao (Md c) A (eval o env) (λov s₁=>∀pl,ao (Md c) A (getMethod ov m pl) (λfx s₂=>ao (Md c) A (yb pos fx.1 fx.2 (i5 pos<|iC es env) []) Q E' s₂) E' s₁) E' s):
 ao (Md c) A (eval (.Call (.Attribute o m ap) es [] pos) env) Q E' s:=by
 rw [arm_eval_Call,hb];refine aj (gh h (λov s₁ h₁=>aj (jC ?_)) λ_ _ e=>e);have hpos:N7 true o env ap pos=pure pos:=by unfold N7;simp [hl]
 unfold methodCall;rw [TU hs hf];exact aj (dH (gh (h₁ _) (λfx s₂ h₂=>aj (ub hpos h₂)) λ_ _ e=>e))
theorem G'(hs:es.all notStar)(hx:∀e∈es,SE c d C σ e<|rec σ e)(ro:Ro d A)(er:ER σ l ρ s.heap env)(hr:HR c.w c.hb ρ H s.heap)(w:cM G C (aU rec σ es) l H Qa)(k:∀vs xs H' ρ' s',Qa vs H'->Af c ρ s ρ' H' s'->aA ρ' s'.heap vs xs->ao (Md c) A (call (.builtin id)<|first++xs) Q E' s'):ao (Md c) A (yb pos (.builtin id) first (i5 pos<|iC es env) []) Q E' s:=by
 rcases es with _|⟨e,r⟩
 ·exact N8 ag0 (agD<|k _ _ _ _ _ w (.refl hr) ag0)
 ·have main:=r7 (pos:=pos) hx A env l H ρ s _ _ E' ro er hr w k;have hp:=plain_any (pos:=pos) (env:=env) hs;rw [dj (al hs) r env] at main hp ⊢;exact N8 hp<|Calls.evalArgs_plain main
theorem TW{p:Addr}(h1:IsL h p xs n)(x:Obj)(e:h.get? p=some x):db x:=av (h1.symm.trans e)▸λw=>absurd (qZ w)<|by decide
theorem sh{p:Addr}{us0:List V}(hr:HR c.w c.hb ρ H s.heap)(hp:ρ[a]? = some (p,p))(h0:H[a]? = some (.list us0))(sb:gF p s.heap h')(h1:IsL h' p ys.toArray n')(r:aA ρ s.heap us ys)(g:us.length<=lim):Af c ρ s ρ (H.set a<|.list us) {s with heap:=h',toks:=tk}:=
 have nt:=TW h1
 have kk:Kp dX ρ ρ s.heap h':=⟨λb x q=>(dz<|b=p).elim (λz=>⟨_,z▸h1,λ_=>nt _ h1⟩) λz=>⟨x,(sb.2 b z).trans q,id⟩,
  ⟨[],(bc ρ).symm,nofun⟩,λb x q n _=>(sb.2 b λz=>n ⟨(p,p),cG hp,z.symm⟩).trans q⟩
 have u:=hr.upd (o:=.list us) hp sb ⟨ag0,ys,n',h1,r.on kk,g⟩ nt (λns q=>nomatch av (h0.symm.trans q)) nofun
 ⟨u.1,u.2,ag0,ag0⟩
theorem aA.dropLast{v:List V}(r:aA ρ h v x):aA ρ h v.dropLast x.dropLast:=by rw [N9,N9,r.len];exact r.take _
theorem Ha(e:mj H p v){P:Prop}(k:∀a o,v= .ref a->H[a]? = some o->z7 p o->P):P:=
 ((eC ..).mp e).elim λo h=>ob h.1 λa ea e=>k a o (kX ea) e h.2
theorem TY(hp:vg p=false)(e:mj H p v){P:Prop}(k:∀a us,v= .ref a->H[a]? = some (.list us)->P):P:=Ha e λa o ev eo e=>by
 rcases o with ⟨⟩|us|us
 ·exact nb e
 ·exact k a us ev eo
 ·exact nb<|hp.symm.trans e
 all_goals exact nb e
theorem TZ(e:mj H .fN v){P:Prop}(k:∀a us,v= .ref a->H[a]? = some (.dict us)->P):P:=Ha e λa o ev eo e=>by
 rcases o with ⟨⟩|us|us
 ·exact nb e
 ·exact nb e
 ·exact k a us ev eo
 all_goals exact nb e
def si(c:Cx)(d:Nat)(p:P)(id:String):Prop:=PO c d p λxs=>call (.builtin id) xs
theorem T4(hp:vg p=false)(slot:Slot "list" m id)(hty:uc (.builtin id)=pure (.type "method_descriptor"))(hc:si c d p id)(xo:SE c d C σ o o')(hb:la o)(hs:es.all notStar)(hf:aR es.length 29)(hx:∀e∈es,SE c d C σ e<|rec σ e)(hl:(ap.endLine == pos.line)):
 SE c d C σ (.Call (.Attribute o m ap) es [] pos) (.lm p o'<|aU rec σ es):=λA env l H ρ s Qa Q E' ro er hr w k=>
 sf hb hs hf hl (xo A env l H ρ s _ _ E' ro er hr w λv x H1 ρ1 s1 q1 a1 r1 pl=>TY hp q1.1 λa us ev hH=>by
  subst ev
  exact hY a1.r r1 hH λq ys n ex hq hL rs g=>by
   subst ex
   exact DY hL.isList.typeIs PySem.F.plainAttrs_list slot hty (λa e=>q5 e▸⟨_,hL,ag0⟩)
    (G' (first:=[.ref q]) hs hx ro (er.on a1.k) a1.r q1.2 λvs xs H2 ρ2 s2 q2 a2 r2=>hc.use (xs:=.ref q::xs) ro (a1.trans a2) (AD (r1.on a2.k) r2) q2 k))
theorem T5:si c d .append "list.append":=λA ws xs H ρ s z H' ro hr rs0 e=>rZ e rs0 λo v x y _ q rx ry e=>jl e hr rx λa p ys us n _ q2 hp hH hL rs g e=>by
 subst q q2;have e:=dA.mp e
 exact fA e.2 (P:=λz H'=>dB c A _ ρ s z H') λQ E' k=>qU N' hL.isList.typeIs Oa (Ob _ _) (Oc p ys.toArray n y<|lb rs g)
  ⟨hL,k _ _ _ (sh (us:=us++ [v]) hr hp hH (jG _ _ _) ((agX (λz=>IsL _ p z _)<|DZ ..).mp<|hL.update λx_1=>x_1.push y) (rs.append<|AC ry)<|ae (aF aX) e.1) ag0⟩
theorem T6:si c d .pop "list.pop":=λA ws xs H ρ s z H' ro hr rs0 e=>rY e rs0 λo x _ q rx e=>jl e hr rx λa p ys us n _ q2 hp hH hL rs g e=>(bF.mp e).elim λv e=>by
 subst q q2;have hv:=e.1;rw [List.getLast?_eq_getElem?] at hv
 exact (rs.at hv).elim λy hy=>fA (agX some e.2) (P:=λz H'=>dB c A _ ρ s z H') λQ E' k=>
  qU PySem.F.slot_list_pop hL.isList.typeIs PySem.F.entry_list_pop (PySem.F.args_list_pop_1 _) (MeetsSeq.list_pop_last p ys.toArray n y ((lK ..).trans (rs.len▸hy.1:ys[ys.length-1]? = some y))<|lb rs g) ⟨hL,by have h1:=hL.update (λxs=>xs.eraseIdxIfInBounds<|ys.toArray.size-1);rw [fg,List.eraseIdxIfInBounds_toArray,List.eraseIdx_length_sub_one] at h1;have a2:=sh (us:=us.dropLast) (tk:=s.toks) hr hp hH (jG _ _ _) h1 rs.dropLast (ae (aF List.length_dropLast)<|ae (lQ _ _) g);exact k _ _ _ a2<|hy.2.on a2.k⟩
theorem T7:si c d .extend "list.extend":=λA ws xs H ρ s z H' ro hr rs0 e=>rZ e rs0 λo v x y _ q rx ry e=>jl e hr rx λa p ys us n _ q2 hp hH hL rs g e=>jl e hr ry λb p2 zs vs n2 _ q3 _ hB hL2 rs2 g2 e=>by
 subst q q2 q3;have e:=dA.mp e;have hz:ys.length+zs.length<=lim:=rs.len▸rs2.len▸e.1.2;have hS:ys.length+zs.length<=iD:=mE hz
 exact fA e.2 (P:=λz H'=>dB c A _ ρ s z H') λQ E' k=>qU PySem.F.slot_list_extend hL.isList.typeIs PySem.F.entry_list_extend (PySem.F.args_list_extend_2 _ _)
  (AutoSeq1.list_extend_list_list_0 p ys.toArray n p2 zs.toArray n2 (λq=>mZ.mpr hS (agY<|ar q)) (ae (fh _ _) hS) (ae hS<|oV _))
  ⟨hL,hL2,k _ _ _ (sh (us:=us++vs) hr hp hH (jG _ _ _) ((agX (λz=>IsL _ p z _)<|NR ..).mp<|hL.update λxs=>xs++zs.toArray) (rs.append rs2)<|ae (aF aX) e.1.2) ag0⟩
end
noncomputable def T8:Data->Array Value
 | .seq xs _=>xs
 |_=> #[]
noncomputable def T9:Value->Tok
 | .str _ t=>t
 |_=>default
def Hb(P:aD):Obj:=((KX P).lookup 1468).getD default
def Hc(P:aD)(i:Nat):Tok:=T9<|(T8 (Hb P).data).getD i .none
theorem Ua(P:aD):nsIn (KX P) dE (am "NAMES")=some (some<|.ref 1468):=by kernel_rfl
theorem Hd(P:aD):(KX P).lookup 1468=some ⟨.type "tuple",none,.seq ((aT 5).map λi=>yi (fT.getD i gW)<|Hc P i).toArray 0,(Hb P).slots⟩:=by kernel_rfl
theorem Ub(P:aD):nsIn (KX P) dE (am "SHOWN")=some (some<|.int 0 1477):=by kernel_rfl
theorem Uc(P:aD):nsIn (KX P) dE (am "HIDDEN")=some (some<|.int 1 1479):=by kernel_rfl
variable{Q:Option fH×Unit->ah->Prop}{j m:Nat}{x:Value}{a:Addr}{t:Tok}{i k:Int}{v:List (Int×V)}
noncomputable def sq(xs:Array Value)(x:Value)(i:Nat)(_r:Option fH×Unit):Sem (ForInStep<|Option fH×Unit):=
 match xs[i]? with
 |some y=>do
  let b<-yj y x
  if b=true then do
   let r<-retInt (i:Int)
   pure (ForInStep.done (some r,()))
  else pure (oB (none,()))
 |_=>pure<|oB (none,())
theorem Ud(e:Nat->Bool)(he:∀i y,xs[i]? = some y->MeetsSeq.EqGives y x (e i))(hj:j<xs.size)(h1:e j)(h0:∀i<j,e i=false)(k:Nat):
 ∀(i:Nat) (s:ah),i+k=xs.size->i<=j->Q (some<|.done (.ret<|.int j s.toks),()) {s with toks:=s.toks+1}->ao (Md c) A (forIn (Od i k) (none,())<|sq xs x) Q E' s:=by
 induction k with
 |zero=>exact λi s hk hi=>absurd hj (mZ.mpr<|hk▸hi)
 |succ k ih=>
  intro i s hk hi q;have hlt:=Oe (bx hi hj);rw [List.range'_succ,mY];unfold sq;rw [hlt];refine aj (aj (he i _ hlt _ _ _ _ _ _ ?_));rcases Of hi with hl|hl
  ·rw [h0 i hl];exact aE (ih (i+1) s ((gX i 1 k).trans hk) hl q)
  ·subst hl;rw [h1];exact aj (m:=retInt (i:Int)) (aj (wpAny_mkInt (aE (aE (aE q)))))
theorem Ue{Q:fH->ah->Prop}(ht:cq s.heap a xs)(e:Nat->Bool)(he:∀i y,xs[i]? = some y->MeetsSeq.EqGives y x (e i))(hj:j<xs.size)(h1:e j)(h0:∀i<j,e i=false)(h:Q (.done (.ret<|.int j s.toks)) {s with toks:=s.toks+1}):
 ao (Md c) A (iz.«tuple.index» ⟨[.ref a,x],[]⟩) Q E' s:=by
 unfold iz.«tuple.index»;refine aj (ub (a:=(jH a,[x])) ag0 (aj (N0 ht (aj (aE (aj (aE ?_)))))));have hr:forIn [0:min xs.size xs.size] ((none,()):Option fH×Unit) (sq xs x)=forIn (Od 0 xs.size 1) (none,()) (sq xs x):=(yk xs.size).symm▸KPc.range_list xs.size _ _;show ao (Md c) A (forIn [0:min xs.size xs.size] ((none,()):Option fH×Unit) (sq xs x) >>= _) Q E' s;rw [hr];exact aj (Ud e he hj h1 h0 xs.size 0 s (jF _) (bq _) (aE h))
theorem Uf:∀m,m<5->∀i,i<m->((fT.getD i gW).cps.toList == (fT.getD m gW).cps.toList)=false:=by decide +kernel
def He(P:aD):Array Value:=((aT 5).map λi=>yi (fT.getD i gW)<|Hc P i).toArray
theorem Hf{P:aD}(X:Frag.In (KX P) h):cq h 1468 (He P):=⟨_,X _ _<|Hd P,ag0,_,ag0⟩
theorem Ug{P:aD}{x:Str}(hx:fT[m]? = some x)(i:Nat)(y:Value)(e:(He P)[i]? = some y):MeetsSeq.EqGives y (.str x t) ((fT.getD i gW).cps.toList == (fT.getD m gW).cps.toList):=by have e:=(lK ..).symm.trans e;rw [fb] at e;exact (bF.mp e).elim λk h=>by have hk:=av<|(mV<|lU (fM h.1) c5).symm.trans h.1;have hy:=h.2;have hx:=getD_at (d:=gW) hx;subst hk hy hx;exact SeqRoads2.EqGives.str _ _ _ t
theorem Uh(ok:aP σ)(g:bN σ (am "NAMES"))(hs:es.all notStar)(hf:aR es.length 29)(hx:∀e∈es,SE c d C σ e<|rec σ e)(hl:(ap.endLine == pos.line)):
 SE c d C σ (.Call (.Attribute (.Name (am "NAMES") q) (am "index") ap) es [] pos) (.prim .nameAt<|aU rec σ es):=λA env l H ρ s Qa Q E' ro er hr w k=>
 sf (AA ag0) hs hf hl (nU ok g er hr (Ua c.w.params) λpl=>
  DY (Hf<|c.cY hr).typeIs PySem.F.plainAttrs_tuple Og PySem.F.type_tuple_index (λb e=>q5 e▸⟨_,c.cY hr _ _<|Hd _,ag0⟩)
   (G' (first:=[.ref 1468]) hs hx ro er hr w λvs ys H1 ρ1 s1 q1 a1 r1=>oP.k q1 λp e q=>rY e r1 λv y _ qy ry e=>ob e λm hm e=>by
    have hm:=RG hm;subst qy hm;have e:=dA.mp e;have e2:=av e.2;subst e2
    exact ry.elim λx ry=>ry.elim λt ry=>by
     have ey:=ry.2;subst ey;have ht:=Hf<|c.cY a1.r
     exact m7 Og ht.typeIs PySem.F.entry_tuple_index (Ue (j:=m) ht (λi=>(fT.getD i gW).cps.toList == (fT.getD m gW).cps.toList) (Ug ry.1) e.1 (beq_self_eq_true _) (Uf m e.1)
      ⟨_,ag0,k _ _ _ _ _ q (a1.tok _)<|fz _ _⟩) (PySem.F.args_tuple_index_2 _ _)))
theorem Hg{x:Str}(ok:aP σ)(g:bN σ x)(e:nsIn c.K dE x=some (some<|.int i t)):SE c d C σ (.Name x pos) (.cst<|.int i):=λA env l H ρ s Qa Q E' ro er hr w k=>nU ok g er hr e (k _ _ _ _ _ w (.refl hr)<|fz _ _)
theorem PR.look:∀{x:List (Int×Value)},PR ρ h v x->VR ρ h ((dJ k v).getD .none) ((i6 x k).getD .none):=by
 induction v with
 |nil=>exact λ{x} r=>(agX (λx=>((i6 x k).getD .none)) (r:x= []):_=kB)
 |cons p vs ih=>exact λ{x} r=>cE.k r λy ys ey r=>by rw [ey,vH];exact aW (P:=λ(o:Option V)=>VR ρ h (o.getD .none)<|(if k=y.1 then some y.2 else i6 ys k).getD .none) (λ(q:k=p.1)=>(if_pos<|q.trans r.1).symm▸r.2.1) λq=>(if_neg λ(w:k=y.1)=>q<|w.trans r.1.symm).symm▸ih r.2.2
theorem Ui(xo:SE c d C σ o o')(hb:la o)(hs:notStar e)(hx:SE c d C σ e (rec σ e))(hl:(ap.endLine == pos.line)):
 SE c d C σ (.Call (.Attribute o (am "get") ap) [e,.Constant .none u p2] [] pos) (.lm .fN o'<|aU rec σ [e]):=λA env l H ρ s Qa Q E' ro er hr w k=>
 sf hb (gC.mpr ⟨hs,ag0⟩) ag0 hl (xo A env l H ρ s _ _ E' ro er hr w λv x H1 ρ1 s1 q1 a1 r1 pl=>TZ q1.1 λa us ev hH=>by
  subst ev
  exact r1.elim λp r2=>by
   have ex:=r2.2;subst ex
   exact (a1.r.obj _ _ _ r2.1 hH).2.elim λks hd=>by
    have w2:aH G C (rec σ e) l H1 λv h2=>aQ G .fN [.ref a,v] h2 Qa:=(agX (λes=>cM G C es l H1 λvs h2=>aQ G .fN (.ref a::vs) h2 Qa)<|GU hs []).mp q1.2;refine DY hd.1.typeIs PySem.F.plainAttrs_dict PySem.F.slot_dict_get PySem.F.type_dict_get (λb e=>q5 e▸hd.1.elim λod h=>h.elim λes h=>h.elim λep h=>⟨od,h.1,h.2.1.2.1⟩) ?_;show ao (Md c) A (yb pos (.builtin "dict.get") [.ref p.1] (i5 pos<|iC [e,.Constant .none u p2] env) []) Q E' s1;rw [show i5 pos (iC [e,.Constant .none u p2] env)= [(false,eval e env),(false,eval (.Constant .none u p2) env)] from agX (i5 pos)<|dj hs [.Constant .none u p2] env]
    exact wpAny_dict_get2 (knd:=kq pw c.w) (a1.r.vL r2.1 hH) (hx A env l H1 ρ1 s1 _ _ E' ro (er.on a1.k) a1.r w2 λv2 x2 H2 ρ2 s2 q2 a2 r3=>NA (
     oP.k q2 λz e0 q=>eN (show fI v2 (getOf H2<|.ref a)=some z from e0) r3 λi t _ qx e=>ob (show H2[a]?.bind (λo=>(pO o).bind λkvs=>some ((dJ i kvs).getD .none,H2))=some z from e) λo hK e=>ob e λkvs ho e=>by have hK:=hK.trans (agX some<|F5 ho);have e:=av e;subst e qx;exact (a2.r.obj _ _ _ (a2.k.pre r2.1) hK).2.elim λks2 h2=>⟨i,i6 ks2,agZ (p:=i=i) ag0,h2.1.mapOf,k _ _ _ _ _ q ((a1.trans a2).tok _) h2.2.look⟩)))
noncomputable def Hh:yl->Option Value
 | .val v=>some v
 |_=>none
variable{v:Value}
theorem Uj{o:yl}(e:Hh o=some v):o= .val v:=oI.k (k:=λv=>o= .val v) (by clear e;rcases o<;>first|exact trivial|exact rfl) e
def Hi(o:Option yl)(a:Nat):Bool:=decide<|o.bind Hh=some (.ref a)
variable{a:Nat}
theorem Uk{o:Option yl}(e:Hi o a):o=some (.val<|.ref a):=ob (agY e) λ_ q e=>q.trans (agX some<|Uj e)
def Hj(K:Frag)(C:Nat)(cd:CD):Bool:=readsIn K C (.type "type")&&(nR (tV K (.ref C) "__getattribute__") "type.__getattribute__"&&Hi (findCls K (.ref C) (.type "type")<|am "__init__") (bV.getD cd.init 0))
def Ul(K:Frag)(k:Nat):Bool:=(gu.lookup k).any (Hj K<|cA.getD k 0)
def Um(P:aD):Bool:=(aT 20).all λk=>(a6 k 10||a6 k 18)||Ul (KX P) k
theorem Un(P:aD):Um P:=by kernel_rfl
def Uo(P:aD):Bool:=cA.all λa=>tT (KX P)<|.ref a
theorem Uq(P:aD):Uo P:=by kernel_rfl
variable{i f k kc:Nat}{m x:Str}{v:V}{C':Addr}{p:Prop}
theorem AH(P:aD)(h:a∈bV):typeIn (KX P) (.ref a)=some (.type "function"):=beq_iff_eq.mp (vI P h).2.2
theorem Hk:bV.length=192:=by decide +kernel
theorem getD_mem'{α:Type}{l:List α}{d:α}(h:i<l.length):l.getD i d∈l:=(getD_at (d:=d)<|de h).symm▸Oh h
theorem sv(h:f<192):bV.getD f 0∈bV:=getD_mem'<|Hk.symm▸h
theorem AI:(gu.all λp=>p.2.meths.all (λm=>aR m.2 192)&&aR p.2.init 192):=by decide +kernel
theorem Ur(hn:atT[n]? = some m)(hr:HR c.w c.hb ρ H s.heap)(r:VR ρ s.heap v y)(e:nM G H v n=some f){P:Prop}(k:∀a p C es (dx:Addr) (m':Nat),v= .ref a->y= .ref p->InstAt s.heap p (jx C dx) C (some<|jy es m')->gb (KX c.w.params) (.ref C) "__getattribute__"=some (some<|.builtin "object.__getattribute__")->gb (KX c.w.params) (.ref C) "__getattr__"=some none->gb (KX c.w.params) (.ref C) m=some (some (.ref<|bV.getD f 0))->bV.getD f 0∈bV->getL m es=some none->P):P:=
 vD hr r e λa p cl fs cd C es m' hp ea ey ha ht F e3 e4 e5 _ e=>
  have hmem:=mem_lookup e
  k a p.1 C es p.2 m' ea ey (pW e3 e4) F.ga F.gt (vC hn▸(F.GP _ hmem).1) (sv (au<|bU.mp (al (bU.mp AI _<|mem_lookup ht)) _ hmem)) (G0 hn e5 λg hg q=>(F.fld g hg).2 _ hmem q)
theorem Us(co:CO c d C)(hn:atT[n]? = some m)(xo:SE c d C σ o o')(hb:la o)(hs:es.all notStar)(hf:aR es.length 29)(hx:∀e∈es,SE c d C σ e<|rec σ e)(hl:(ap.endLine == pos.line)):SE c d C σ (.Call (.Attribute o m ap) es [] pos) (.l7 o' n<|aU rec σ es):=λA env l H ρ s Qa Q E' ro er hr w k=>
 sf hb hs hf hl (xo A env l H ρ s _ _ E' ro er hr w λv x H1 ρ1 s1 q1 a1 r1 pl=>oP.k q1 λf hm q1=>Ur hn a1.r r1 hm λa p C' es' dx m' ev ey I ga gt g1 hmf hno=>by
  subst ey
  refine method_fn (c.cY a1.r) I ga gt g1 (AH c.w.params hmf) ?_ (vJ (first:=[.ref p]) hs hx (vI c.w.params hmf).1 ro (er.on a1.k) a1.r q1 λvs xs H2 ρ2 s2 q2 a2 r2=>
   co.wp A f (v::vs) (.ref p::xs) H2 ρ2 s2 Qa Q E' ro.rc a2.r ⟨r1.on a2.k,r2⟩ q2 λv z H' ρ' s' q a3 r=>k _ _ _ _ _ q ((a1.trans a2).trans a3) r)
  exact agX (dq _)<|(DE m es' m').trans hno)
theorem Hl(P:aD)(e:G.cl k=some cd):readsIn (KX P) (cA.getD k 0) (.type "type")/\tV (KX P) (.ref<|cA.getD k 0) "__getattribute__"=some (some<|.builtin "type.__getattribute__")/\
 findCls (KX P) (.ref<|cA.getD k 0) (.type "type") (am "__init__")=some (.val (.ref<|bV.getD cd.init 0))/\cd.init<192:=
 ba (P:=λo=>o=some cd->_) (λ_ e=>nn e) (λhk e=>
  have ok:=((eC ..).mp<|(oK.mp<|bU.mp (Un P) k (iB.mpr<|au (bU.mp Au _<|mem_lookup e))).elim (λq=>nb<|hk.symm.trans q) id).elim λ_ h=>(av (h.1.symm.trans e)▸h.2:Hj (KX P) (cA.getD k 0) cd=true)
  ⟨al ok,pV (al<|ar ok),Uk (ar<|ar ok),au<|ar (bU.mp AI _<|mem_lookup e)⟩) e
theorem AJ(P:aD)(e:jX.lookup x=some k):nsIn (KX P) dE x=some (some (.ref<|cA.getD k 0)):=vz (bU.mp (RX P) _<|mem_lookup e)
theorem Ut(co:CO c d C)(ok:aP σ)(g:bN σ x)(e:jX.lookup x=some kc)(hcd:G.cl kc=some cd)(hs:es.all notStar)(hf:aR es.length 29)(hx:∀e∈es,SE c d C σ e<|rec σ e)(hl:(ap.endLine == pos.line)):SE c d C σ (.Call (.Attribute (.Name x q) (am "__init__") ap) es [] pos) (.call cd.init<|aU rec σ es):=λA env l H ρ s Qa Q E' ro er hr w k=>
 have i:=Hl c.w.params hcd;have af:Af c ρ s ρ H {s with toks:=s.toks+1}:=.same hr ag0 rfl ag0
 sf (AA ag0) hs hf hl (nU ok g er hr (AJ c.w.params e) λpl=>method_cls (c.cY hr) i.2.1 (cls_value (c.cY hr) i.1 i.2.2.1 ag0
  (vJ (first:=[]) hs hx (vI c.w.params<|sv i.2.2.2).1 ro (er.on af.k) af.r w λvs xs H2 ρ2 s2 q2 a2 r2=>
   co.wp A cd.init vs xs H2 ρ2 s2 Qa Q E' ro.rc a2.r r2 q2 λv z H' ρ' s' q a3 r=>k _ _ _ _ _ q ((af.trans a2).trans a3) r)))
theorem Uu:(jX.all λp=>aR p.2 20):=by decide +kernel
theorem Uv(P:aD)(e:jX.lookup x=some k):tT (KX P) (.ref<|cA.getD k 0):=bU.mp (Uq P) _ (getD_mem'<|au (bU.mp Uu _<|mem_lookup e))
noncomputable def sx(h:Heap)(C':Addr):Heap:=(h.push emptyDict).push<|jx C' h.objs.size
noncomputable def AK(h:Heap):Addr×Addr:=(h.objs.size+1,h.objs.size)
theorem Uw(hr:HR c.w c.hb ρ H s.heap)(f1:cA[kc]? = some C')(f2:gu.lookup kc=some cd):
 Af c ρ s (ρ++ [AK s.heap]) (H++ [.inst kc []]) {s with heap:=sx s.heap C'}:=
 have hx1:(sx s.heap C').get? (s.heap.objs.size+1)=some (jx C' s.heap.objs.size):=(agX (sx s.heap C').get? (Heap.size_push ..).symm).trans<|jD (s.heap.push emptyDict) (o:=jx C' s.heap.objs.size) ag0
 have h:=hr.add (p:=AK s.heap) (o:=.inst kc []) (h':=sx s.heap C') (λb o e=>dG _<|dG _ e) (ku<|oV _) (eO _)
  ⟨C',cd,[],0,f1,f2,hx1,dG _<|jD _ ag0,ag0⟩
 ⟨h.1,h.2,ag0,ag0⟩
theorem Ux(w:uZ v p){P:Prop}(k:v= .none->p->P):P:=by
 rcases v with ⟨⟩
 ·exact k ag0 w
 all_goals exact w.elim
theorem Uy(co:CO c d C)(ok:aP σ)(g:bN σ x)(e:jX.lookup x=some kc)(hs:es.all notStar)(hx:∀e∈es,SE c d C σ e<|rec σ e):
 SE c d C σ (.Call (.Name x q) es [] pos) (.new kc<|aU rec σ es):=λA env l H ρ s Qa Q E' ro er hr w k=>
 kx (nU ok g er hr (AJ c.w.params e) (vJ (first:=[]) hs hx (Uv c.w.params e) ro er hr w λvs xs H1 ρ1 s1 q1 a1 r1=>oP.k q1 λcd hcd q1=>(GQ c.w.params hcd).elim λC' F=>by
  rw [getD_at F.1];have af:=Uw a1.r F.1 F.2.1;have rself:VR (ρ1++ [AK s1.heap]) (sx s1.heap C') (.ref H1.length) (.ref (s1.heap.objs.size+1)):=⟨_,r8 a1.r _,ag0⟩
  exact qT (make_core (makes_of (c.cY a1.r) F.2.2.make) (looks_findIn (c.cY a1.r) F.2.2.Sz) (λself=>bind_fn (c.cY a1.r) self (AH c.w.params<|sv (Hl c.w.params hcd).2.2.2)) (.inl ag0)
   (co _ cd.init (.ref H1.length::vs) (.ref (s1.heap.objs.size+1)::xs) _ _ _ _ _
    ⟨ro.1,(agX (· <= xW) (agX (· + 5)<|gX A.depth 1 d)).mpr (ae (eB (au rfl:1+5<=10)<|A.depth+d) ro.2.1 |> λz=>z),
     (agX (· <= cK)<|agX (· + 50) (gX A.units 1<|5*d)).mpr (ae (eB (au rfl:1+50<=100)<|A.units+5*d) ro.2.2 |> λz=>z)⟩ af.r ⟨rself,r1.on af.k⟩ q1 λv z H' ρ' s' q a3 r=>Ux q λev q=>by
    subst ev;cases r;exact ⟨rfl,k _ _ _ _ _ q ((a1.trans af).trans a3) (rself.on a3.k)⟩))))
def Uz(P:aD):List (Option Obj):=bV.map λa=>(KX P).lookup a
def UA:List (Option Obj):=k8.zipIdx.map λp=>some (uE (fnAt p.2) p.1.1 p.1.2.1 p.1.2.2.1 p.1.2.2.2.1<|.ref p.1.2.2.2.2)
theorem UB(P:aD):Uz P=UA:=by kernel_rfl
theorem UC(P:aD)(hk:k<192):∃m,k8[k]? = some m/\(KX P).lookup (bV.getD k 0)=some (uE (fnAt k) m.1 m.2.1 m.2.2.1 m.2.2.2.1<|.ref m.2.2.2.2):=
 have ea:=de (l:=bV)<|Hk▸hk;have z:=(agX (dq λa=>(KX P).lookup a) ea).symm.trans ((fb ..).symm.trans ((agX (λl:List (Option Obj)=>l[k]?)<|UB P).trans<|fb ..))
 (bF.mp z.symm).elim λp w=>(bF.mp<|(Oi ..).symm.trans w.1).imp λm v=>⟨v.1,(agX (λa=>(KX P).lookup a)<|Mine.getD_at ea).trans<|w.2.symm.trans (by have e:=v.2;subst e;exact agX (λi=>some (uE (fnAt i) m.1 m.2.1 m.2.2.1 m.2.2.2.1<|.ref m.2.2.2.2))<|jF k)⟩
noncomputable def AL(x:Str):Value->Bool
 | .str y _=>y == x
 |_=>false
variable{v:Value}
theorem Hm(e:AL x v):∃t,v= .str x t:=by rcases v<;>first|exact nb e|exact ⟨_,agX (yi · _) (eq_of_beq e)⟩
def UD(m:Str×Str×Value×Value×Nat):Bool:=((kK++(kL++(kM++kP))).lookup m.2.2.2.2).any (AL m.2.1)||(a6 m.2.2.2.2 1604&&(m.2.1 == am "_law_strings"))
theorem UE:k8.all UD:=by decide +kernel
def UF(P:aD):Bool:=((KX P).lookup 1604).any λo=>(zN o.data).any λvs=>(vs[1]?).any (AL<|am "_law_strings")
theorem UG(P:aD):UF P:=by kernel_rfl
noncomputable def Hn(l:List Str):Bool:=l.rec true λx r b=> !(r.any λy=>y == x)&&b
variable{l:List Str}
theorem UH:Hn l->l.Nodup:=by
 induction l with
 |nil=>exact λ_=>.nil
 |cons x r ih=>exact λh=>dF.mpr ⟨λq=>nb ((nt<|al h).symm.trans<|tZ.mpr ⟨x,q,beq_self_eq_true x⟩),ih<|ar h⟩
def UI(d:dC×List Stmt×cC):Bool:=nH d.1&&Hn (dW d)&&((dW d).all λx=>vj (d.2.2.names.lookup x)||Ah (d.2.2.names.lookup x))&&vk (mz d)&&d.2.2.kind == .function&& !d.2.2.isCoroutine&& !d.2.2.isGenerator
def UJ:Bool:=(aT 192).all λk=>UI<|fnAt k
theorem UK:UJ:=by kernel_rfl
def UL:Bool:=(aT 192).all λk=>a6 k 104|| !(mz<|fnAt k).lam
theorem UM:UL:=by kernel_rfl
def UN:Bool:=(k8[(104:Nat)]?).any λm=>(m.2.1++am ".<locals>." == am "_law_strings.<locals>.")&&a6 m.2.2.2.2 1604
theorem UO:UN:=by decide +kernel
noncomputable def Ho(i:Int):Value->Bool
 | .int j _=>decide<|j=i
 |_=>false
variable{i:Int}
theorem UP(e:Ho i v):∃t,v= .int i t:=by rcases v<;>first|exact nb e|exact ⟨_,agX (DV · _) (agY e)⟩
def Hq(v:V)(x:Value):Bool:=v.rec (motive_2:=λ_=>Unit) (decide<|x= .none) (λb=>decide<|x= .bool b) (λi=>Ho i x) (λ_=>false) (λ_=>false) (λ_ _=>false) () λ_ _ _ _=>()
def valsOk(vs:List V):List Value->Bool:=vs.rec List.isEmpty λv _ f xs=>(xs.head?).any λx=>Hq v x&&f xs.tail
noncomputable def Hr:Data->Option (Array Value)
 | .seq xs _=>some xs
 |_=>none
variable{dt:Data}
theorem UQ(e:Hr dt=some xs):∃n,dt= .seq xs n:=oI.k (k:=λxs=>∃n,dt= .seq xs n) (by clear e;rcases dt<;>first|exact trivial|exact ⟨_,rfl⟩) e
def Ht(P:aD)(k:Nat):Value->Bool
 | .none=>(fnAt k).1.defaults.isEmpty
 | .ref a=>((KX P).lookup a).any λo=>(Hr o.data).any λxs=>valsOk ((fnAt k).1.defaults.map k7) xs.toList&&dD (fnAt k).1.defaults.length (fnAt k).1.args.length
 |_=>false
def UR(P:aD)(k:Nat):Bool:=(k8[k]?).any λm=>Ht P k m.2.2.1
def US(P:aD):Bool:=(aT 192).all λk=>UR P k
theorem UT(P:aD):US P:=by kernel_rfl
variable{p:Str×Tok}
noncomputable def UU:Data->ClassData
 | .cls c=>c
 |_=>default
noncomputable def Hu:Data->Array DictEntry×Nat
 | .dict es n=>(es,n)
 |_=>(#[],0)
noncomputable def UV:Option Value->String
 |some (.builtin n)=>n
 |_=>""
noncomputable def vStr:Value->Option (Str×Tok)
 | .str x t=>some (x,t)
 |_=>none
theorem UW(e:vStr v=some p):v= .str p.1 p.2:=oI.k (k:=λp=>v= .str p.1 p.2) (by clear e;rcases v<;>first|exact trivial|exact rfl) e
section
variable(P:aD)
def cO:Obj:=((KX P).lookup<|cA.getD 9 0).getD default
def cD:ClassData:=UU (cO P).data
def slt(i:Nat):Option Value:=(cO P).slots.getD i none
def nO:Obj:=((KX P).lookup (cD P).ns).getD default
def nE:Array DictEntry:=(Hu (nO P).data).1
theorem UX:(KX P).lookup (cA.getD 9 0)=some (excClassObj (cD P).name (cD P).qualname (cA.getD 9 0) (cD P).ns (cD P).bases [.type "object"] (cD P).hasDict (cD P).slotNames (cD P).subclasses (cD P).abstract (cD P).collection (cO P).dict (slt P 0) (slt P 1) (slt P 2) (slt P 3) (slt P 5) (UV<|slt P 4)):=by kernel_rfl
theorem UY:(KX P).lookup (cD P).ns=some ⟨(nO P).cls,(nO P).dict,.dict (nE P) (Hu (nO P).data).2,(nO P).slots⟩:=by kernel_rfl
theorem UZ:((nE P).toList.all λe=>(vStr e.key).isSome):=by kernel_rfl
theorem U0:nsFind (nE P) "__eq__"=none:=by kernel_rfl
theorem U1:nsFind (nE P) "__ne__"=none:=by kernel_rfl
end
theorem U2{P:aD}{x:Addr}(X:Frag.In (KX P) h)(hx:h.get? x=some (jx (cA.getD 9 0) dx)):h.CmpInst x (cA.getD 9 0) [.type "object"]:=
 ⟨_,_,_,_,_,_,_,_,_,_,_,_,_,_,_,_,_,λz=>nsFind (nE P) z,hx,ag0,X _ _<|UX P,⟨_,nE P,_,X _ _<|UY P,ag0,λe he=>(oU.mp (bU.mp (UZ P) e<|Array.mem_toList_iff.mpr he)).elim λp q=>⟨p.1,p.2,UW q⟩,λ_=>ag0⟩,U0 P,U1 P⟩
end Mine
namespace Mine
open PySem PySem.W PyProof.Rows SeqAt
variable{A:bj}{h:Heap}{w:bb}{s:ah}{Q:Option Value->ah->Prop}{l C:Addr}{c:Cx}{y:Value}{r r':Bool}{ρ:aK}{H:Hp}{f:V->V->Option Bool}{xs ys:List V}{p q:Addr×Addr}{n b m:Nat}{o:O}{u v:V}{i:Int}{t:Tok}
section
variable{E:Value->ah->Prop}{g:Array qH}{dr:qI}{t:Nat}{os:jw}{prog:ck}{Cc x:Addr}
theorem CI(X:h.CmpInst x Cc [.type "object"]){P:Prop}(g:∀{o:Obj} {nm q:Str} {N:Addr} {bs:List Value} {hdct:Bool} {sn:List Str} {sub:List Value} {ab:Bool} {col:Option Bool} {dd:Option Addr} {k0 k1 k2 k3 k5:Option Value} {newId:String} {mN:Str->Option Value},h.get? x=some o->o.cls= .ref Cc->h.get? Cc=some (excClassObj nm q Cc N bs [.type "object"] hdct sn sub ab col dd k0 k1 k2 k3 k5 newId)->h.Ns N mN->mN "__eq__"=none->P):P:=
 bQ X λ_ X=>bQ X λ_ X=>bQ X λ_ X=>bQ X λ_ X=>bQ X λ_ X=>bQ X λ_ X=>bQ X λ_ X=>bQ X λ_ X=>bQ X λ_ X=>bQ X λ_ X=>bQ X λ_ X=>bQ X λ_ X=>bQ X λ_ X=>bQ X λ_ X=>bQ X λ_ X=>bQ X λ_ X=>bQ X λ_ X=>bQ X λ_ X=>g X.1 X.2.1 X.2.2.1 X.2.2.2.1 X.2.2.2.2.1
theorem U3{M:mX}{Q:fH->ah->Prop}(hq:Q (.done<|.ret .notImplemented) s):ao M A (iz.«object.__eq__» ⟨[.ref x,.none],[]⟩) Q E s:=by
 unfold iz.«object.__eq__»
 repeat (first|with_reducible refine kC ag0 ?_|wp_step)
 exact hq
theorem Hv(X:h.CmpInst x Cc [.type "object"])(hq:Q none ⟨h,g,dr,t,os⟩):ao (jB prog w) A (tryCompare (.ref x) "__eq__" .none) Q E ⟨h,g,dr,t,os⟩:=
 CI X λhx hc hC hn he=>aj (wpAny_callSpecialIfBound?_inst hx hc hC hn he oW.mro oW.eq
  (qT (codeAny_call_builtin oW.eq.plain F.cmpEntry_eq<|wpAny_check_slot_inst F.cmpKind_eq F.cmpSplit_eq (F.cmpArgs_eq _ _) oW.hasObject hx hc hC (U3<|aE hq))))
theorem Hx(hq:Q none s):ao (jB prog w) A (tryCompare .none "__eq__"<|.ref l) Q E s:=
 wpAny_tryCompare_declines (T:="NoneType") ag0 Oj (call_gives Oj ag0 F.entry_NoneType_eq (F.args_NoneType_eq_2 _ _) (SeqAt.NoneType___eq___none_ref_0 l) ⟨ag0,hq⟩)
theorem Hy(X:h.CmpInst x Cc [.type "object"])(hu:A.units<cK){Q:Value->ah->Prop}(hq:Q (.bool false) ⟨h,g,dr,t,os⟩):ao (jB prog w) A (ud .Eq (.ref x) .none) Q E ⟨h,g,dr,t,os⟩:=by
 have hsub:isSubtype (.type "NoneType") (.ref Cc)=pure false:=by rw [isSubtype_type];rfl
 simp only [ud,cmpInfo_Eq,oneThing_ref];refine CI X λhx hc _ _ _=> ?_
 repeat (first|with_reducible refine Ol hu ?_|(with_reducible refine Om hx ?_;rw [hc])|with_reducible refine ub hsub ?_|with_reducible refine Hv X ?_|with_reducible refine Hx ?_|with_reducible refine kC ag0 ?_|wp_step)
 exact hq
theorem Hz(X:h.CmpInst x Cc [.type "object"])(hu:A.units<cK){Q:Value->ah->Prop}(hq:Q (.bool false) ⟨h,g,dr,t,os⟩):ao (jB prog w) A (ud .Eq .none<|.ref x) Q E ⟨h,g,dr,t,os⟩:=by
 simp only [ud,cmpInfo_Eq];refine CI X λhx hc hC _ _=> ?_
 repeat (first|with_reducible refine Ol hu ?_|(with_reducible refine Om hx ?_;rw [hc])|with_reducible refine wpAny_isSubtype_exc hC ?_|with_reducible refine Hv X ?_|with_reducible refine Hx ?_|with_reducible refine kC ag0 ?_|wp_step)
 exact hq
end
section
variable{x:Value}{us vs:List Value}{o':O}{β:Type}{a:Nat}{z:β}
theorem U4:fT.Nodup:=by decide +kernel
theorem HA{x:Str}(e:fT[n]? = some x)(f:fT[m]? = some x):n=m:=
 (List.getElem?_inj (fF.mp e).1 U4).mp (e.trans f.symm)
def EA(A:bj)(s:ah)(x y:Value)(r:Bool):Prop:=EqAt A s x y r/\RcAt A s x y r
def gv(A:bj)(s:ah)(us vs:List Value)(r:Bool):Prop:=∃e:Nat->Bool,(∀j (h1:j<us.toArray.size) (h2:j<vs.toArray.size),EqAt A s us.toArray[j] vs.toArray[j]<|e j)/\r=((aT<|min us.toArray.size vs.toArray.size).all e&&us.toArray.size == vs.toArray.size)
theorem gv.nil:gv A s [] [] true:=⟨λ_=>true,λj h=>absurd h<|m8 j,ag0⟩
theorem gv.nl:gv A s [] (y::vs) false:=⟨λ_=>true,λj h=>absurd h<|m8 j,ag0⟩
theorem gv.nr:gv A s (x::us) [] false:=⟨λ_=>true,λj _ h=>absurd h<|m8 j,ag0⟩
theorem gv.cons(h1:EqAt A s x y r)(h2:gv A s us vs r'):gv A s (x::us) (y::vs) (r&&r'):=by
 obtain ⟨e,he,hr⟩:=h2;refine ⟨λj=>Nat.casesOn j r e,λj=> ?_, ?_⟩
 ·rcases j with _|j
  ·exact λ_ _=>h1
  ·exact λh1 h2=>he j (q6 h1)<|q6 h2
 ·rw [hr];show _=((aT (min (us.length+1) (vs.length+1))).all _&&(us.length+1 == vs.length+1));rw [Nat.succ_min_succ,List.range_succ_eq_map,List.all_cons,Oo,Bool.and_assoc];exact agX (λb=>r&&(_&&b)) (oX.mpr ((beq_iff_eq).trans (Nat.succ_inj.symm.trans beq_iff_eq.symm)))
theorem HB{p q:Option Bool}(e:nI p q=some r){P:Prop}(g:∀a b,p=some a->q=some b->r=(a&&b)->P):P:=
 (ue.mp e).elim λa w=>(bF.mp w.2).elim λb z=>g a b w.1 z.1 z.2.symm
theorem vN(hf:∀v u x y r,VR ρ s.heap v x->VR ρ s.heap u y->f v u=some r->EqAt A s x y r):∀{ys:List V} {us vs:List Value} {r:Bool},aA ρ s.heap xs us->aA ρ s.heap ys vs->fO f xs ys=some r->gv A s us vs r:=by
 induction xs with
 |nil=>
  intro ys us vs r r1 r2 e;have q1:us= []:=r1;subst q1;rcases ys with _|⟨y,ys⟩
  ·have q2:vs= []:=r2;subst q2;exact av e▸ .nil
  ·exact cE.k r2 λx us a _=>a▸av e▸ .nl
 |cons x xs ih=>
  intro ys us vs r r1 r2 e
  exact cE.k r1 λu us q1 r3=>by
   subst q1;rcases ys with _|⟨y,ys⟩
   ·have q2:vs= []:=r2;subst q2;exact av e▸ .nr
   ·exact cE.k r2 λw ws a r5=>a▸HB e λa b e1 e2 e3=>e3▸ .cons (hf _ _ _ _ _ r3.1 r5.1 e1) (ih r3.2 r5.2 e2)
theorem gv.U5(t:cq s.heap p.1 us.toArray)(t':cq s.heap q.1 vs.toArray)(hu:A.units<cK)(e:gv A.in1 s us vs r):RcAt A s (.ref p.1) (.ref q.1) r:=e.elim λ_ e=>e.2▸RcAt.tuples t t' hu e.1
theorem gv.lst(e:gv A s us vs r)(l:us.length=vs.length):∃e:Nat->Bool,(∀j (h1:j<us.toArray.size) (h2:j<vs.toArray.size),EqAt A s us.toArray[j] vs.toArray[j]<|e j)/\(aT us.toArray.size).all e=r:=e.elim λe q=>⟨e,q.1,by rw [q.2,fg,fg, <- l,yk,beq_self_eq_true,oY]⟩
theorem U6{a:Addr}{xs ys:List Value}(t:cq h a xs.toArray)(u:cq h a ys.toArray):xs=ys:=by obtain ⟨o,e,_,n,d⟩:=t;obtain ⟨o',e',_,n',d'⟩:=u;cases e.symm.trans e';exact agX Array.toList (Data.seq.inj (d.symm.trans d')).1
theorem AM(hr:HR c.w c.hb ρ H h)(ha:ρ[a]? = some p)(hb:ρ[b]? = some q)(e:p.1=q.1):a=b:=
 Decidable.byContradiction λz=>(hr.inj a b p q ha hb z).1 e
theorem gM(r:VR ρ h (.tup xs) x){P:Prop}(g:∀p us,x= .ref p->cq h p us.toArray->aA ρ h xs us->P):P:=bQ r λp r=>bQ r λus r=>g p us r.1 r.2.1 r.2.2.2.1
theorem jn(r:VR ρ h (.ref a) x){P:Prop}(g:∀p,ρ[a]? = some p->x= .ref p.1->P):P:=bQ r λp r=>g p r.1 r.2
theorem j5(r:VR ρ h (.int i) x){P:Prop}(g:∀t,x= .int i t->P):P:=bQ r g
theorem sA{i:Nat}(r:VR ρ h (.str i) x){P:Prop}(g:∀z t,fT[i]? = some z->x= .str z t->P):P:=bQ r λz r=>bQ r λt r=>g z t r.1 r.2
theorem O.U7(e:O.list xs= .list ys):xs=ys:=av<|agX cW e
theorem U8(e:mi o){P:Prop}(g:∀fs,o= .inst 9 fs->P):P:=by
 rcases o with ⟨k,fs⟩
 ·exact g fs (agX (O.inst · fs)<|jI e)
 all_goals exact nb e
theorem HC(e:n9 o=some r){P:Prop}(g:mi o->r=false->P):P:=ba (P:=λx=>x=some r->P) (λq e=>g q (av e).symm) (λ_ e=>nn e) e
theorem HD(e:nJ f a b o o'=some r){P:Prop}(g1:mi o->mi o'->r=decide (a=b)->P)(g2:∀xs ys,o= .list xs->o'= .list ys->rQ f xs ys=some r->P):P:=
 ba (P:=λx=>x=some r->P) (λq e=>g1 (al q) (ar q) (av e).symm) (λ_ e=>ob e λxs e1 e=>ob e λys e2 e=>g2 xs ys (fS e1) (fS e2) e) e
theorem AN(e:rQ f xs ys=some r){P:Prop}(g1:xs.length=ys.length->fO f xs ys=some r->P)(g2:xs.length≠ys.length->r=false->P):P:=
 ba (P:=λx=>x=some r->P) (λq e=>g1 (jI q) e) (λq e=>g2 (Nat.ne_of_beq_eq_false q) (av e).symm) e
theorem HE(hf:∀v u x r,VR ρ h v x->VR ρ h u x->f v u=some r->r):∀{ys:List V} {us:List Value} {r:Bool},aA ρ h xs us->aA ρ h ys us->fO f xs ys=some r->r:=by
 induction xs with
 |nil=>
  intro ys us r r1 r2 e;have q1:us= []:=r1;subst q1;rcases ys with _|⟨y,ys⟩
  ·exact (av e).symm
  ·exact r2.elim
 |cons x xs ih=>
  intro ys us r r1 r2 e
  exact cE.k r1 λu us q1 r3=>by
   subst q1;rcases ys with _|⟨y,ys⟩
   ·exact nomatch r2
   ·exact HB e λa b e1 e2 e3=>e3.trans<|gC.mpr ⟨hf _ _ _ _ r3.1 r2.1 e1,ih r3.2 r2.2 e2⟩
theorem AO(hr:HR c.w c.hb ρ H h)(hp:ρ[a]? = some p)(ho:H[a]? = some (.list xs)){P:Prop}(g:∀us,h.IsList p.1 us.toArray->aA ρ h xs us->P):P:=(hr.obj _ _ _ hp ho).2.elim λus l=>l.elim λm l=>g us l.1.isList l.2.1
theorem U9(hf:∀v u x r,VR ρ h v x->VR ρ h u x->f v u=some r->r)(hr:HR c.w c.hb ρ H h)(hp:ρ[a]? = some p)(ho:H[a]? = some o)(e:nJ f a a o o=some r):r:=
 HD e (λ_ _ e=>e.trans<|agZ ag0) λxs ys e1 e2 e=>AO hr hp (ho.trans<|agX some e1) λus _ ru=>have z:=O.U7<|e1.symm.trans e2;AN e (λ_ e=>HE hf ru (z▸ru) e) λn=>absurd (agX cu z) n
theorem U'(ra:x= .none)(rb:VR ρ h v x)(e:zP H v=some r):r:=by
 rcases v with _|_|_|_|y|ys
 ·exact (av e).symm
 iterate 3 exact nn e
 ·exact jn rb λp _ q=>nomatch ra.symm.trans q
 ·exact gM rb λp us q _ _=>nomatch ra.symm.trans q
theorem Va(ra:VR ρ h (.int i) x)(rb:VR ρ h v x)(e:zQ i v=some r):r:=by
 rcases v with _|_|j|_|_|ys
 ·exact nn e
 ·exact nn e
 ·exact j5 ra λt q=>j5 rb λu q'=>(av e).symm.trans<|agZ (Value.int.inj<|q.symm.trans q').1
 ·exact nn e
 ·exact nn e
 ·exact j5 ra λt q=>gM rb λp us q' _ _=>nomatch q.symm.trans q'
theorem Vb{i:Nat}(ra:VR ρ h (.str i) x)(rb:VR ρ h v x)(e:zR i v=some r):r:=by
 rcases v with _|_|_|j|_|_
 iterate 3 exact nn e
 ·exact sA ra λz t q1 q=>sA rb λz' t' q1' q'=>(av e).symm.trans<|agZ (HA q1<|(Value.str.inj<|q.symm.trans q').1▸q1')
 ·exact nn e
 ·exact nn e
theorem Vc(hf:∀v u x r,VR ρ h v x->VR ρ h u x->f v u=some r->r)(ra:VR ρ h (.tup xs) x)(rb:VR ρ h v x)(e:eqT f xs v=some r):r:=by
 rcases v with _|_|j|_|_|ys
 ·exact gM ra λp us q _ _=>nomatch (rb:x= .none).symm.trans q
 ·exact nn e
 ·exact gM ra λp us q _ _=>j5 rb λt q'=>nomatch q.symm.trans q'
 ·exact nn e
 ·exact nn e
 ·exact gM ra λp us q t ru=>gM rb λp' vs q' t' rv=>HE hf ru (U6 t (q5 (q'.symm.trans q)▸t')▸rv) e
theorem Vd(hf:∀v u x r,VR ρ h v x->VR ρ h u x->f v u=some r->r)(hr:HR c.w c.hb ρ H h)(ra:VR ρ h (.ref a) x)(rb:VR ρ h v x)(e:uW f H a v=some r):r:=by
 rcases v with _|_|_|_|j|_
 ·exact jn ra λp _ q=>nomatch (rb:x= .none).symm.trans q
 iterate 3 exact nn e
 ·exact jn ra λp hp q=>jn rb λp' hq q'=>by have z:=AM hr hp hq (q5<|q.symm.trans q');subst z;exact ob e λo h1 e=>ob e λo' h2 e=>U9 hf hr hp h1<|av (h2.symm.trans h1)▸e
 ·exact nn e
theorem Ve(hr:HR c.w c.hb ρ H h):∀(n:Nat) (a b:V) (x:Value) (r:Bool),VR ρ h a x->VR ρ h b x->eJ H n a b=some r->r:=by
 intro n
 induction n with
 |zero=>exact λa b x r _ _ e=>nomatch e
 |succ n ih=>
  intro a b x r ra rb e;rcases a with _|_|i|i|i|xs
  ·exact U' ra rb e
  ·cases e
  ·exact Va ra rb e
  ·exact Vb ra rb e
  ·exact Vd ih hr ra rb e
  ·exact Vc ih ra rb e
theorem vO(hr:HR c.w c.hb ρ H h)(hp:ρ[a]? = some p)(ho:H[a]? = some o)(e:mi o):h.CmpInst p.1 (cA.getD 9 0) [.type "object"]:=U8 e λfs e=>by cases e;exact (hr.obj _ _ _ hp ho).inst rfl λC' cd es m e1 e2 e3 e4 e5=>U2 (c.cY hr) (getD_at (d:=0) e1▸e3)
theorem Vf(hu:A.units<cK)(X:s.heap.CmpInst a C [.type "object"]):EA A s .none (.ref a) false:=⟨λprog w E Q hQ=>by unfold yj;exact dH<|Oq (λhab=>absurd (eq_of_beq hab) nofun) λ_=>aj (Hz X hu<|i4 hQ),λprog w E Q hQ=>Hz X hu hQ⟩
theorem Vg(hu:A.units<cK)(X:s.heap.CmpInst a C [.type "object"]):EA A s (.ref a) .none false:=⟨λprog w E Q hQ=>by unfold yj;exact dH<|Oq (λhab=>absurd (eq_of_beq hab) nofun) λ_=>aj (Hy X hu<|i4 hQ),λprog w E Q hQ=>Hy X hu hQ⟩
def p7(A:bj)(s:ah)(ρ:aK)(f:V->V->Option Bool):Prop:=∀v u x y r,VR ρ s.heap v x->VR ρ s.heap u y->f v u=some r->EqAt A.in1 s x y r
theorem Vh(hf:p7 A s ρ f)(hu:A.units<cK)(hr:HR c.w c.hb ρ H s.heap)(hp:ρ[a]? = some p)(hq:ρ[b]? = some q)(h1:H[a]? = some (.list xs))(h2:H[b]? = some (.list ys))(e:rQ f xs ys=some r):RcAt A s (.ref p.1) (.ref q.1) r:=
 AO hr hp h1 λus l1 r1=>AO hr hq h2 λvs l2 r2=>AN e
  (λn e=>((vN hf r1 r2 e).lst (r1.len.symm.trans<|n.trans r2.len)).elim λ_ w=>w.2▸RcAt.lists l1 l2 (r1.len.symm.trans<|n.trans r2.len) hu w.1)
  λn e=>e▸RcAt.lists_lengths l1 l2 (bne_iff_ne.mpr λw=>n (r1.len.trans<|w.trans r2.len.symm)) hu
theorem Vi(hf:p7 A s ρ f)(hu:A.units<cK)(hr:HR c.w c.hb ρ H s.heap)(hp:ρ[a]? = some p)(hq:ρ[b]? = some q)(e:uW f H a (.ref b)=some r):RcAt A s (.ref p.1) (.ref q.1) r:=
 ob e λo h1 e=>ob e λo' h2 e=>HD e (λi1 i2 e=>by
  have X:=vO hr hp h1 i1;have Y:=vO hr hq h2 i2
  by_cases z:a=b
  ·subst z;cases hp.symm.trans hq;exact e▸agZ (rfl:a=a)▸λprog w E Q hQ=>richCompare_eq_same oW X hu hQ
  ·exact e▸decide_eq_false z▸λprog w E Q hQ=>richCompare_eq_other oW oW X Y (λw=>z<|AM hr hp hq w) hu hQ)
  λxs ys e1 e2 e=>Vh hf hu hr hp hq (e1▸h1) (e2▸h2) e
theorem HF(same:p.1=q.1->r)(rc:RcAt A s (.ref p.1) (.ref q.1) r):EA A s (.ref p.1) (.ref q.1) r:=⟨by
 by_cases z:p.1=q.1
 ·rw [z,same z];exact .same _
 ·exact .of_refs z rc,rc⟩
theorem Vj(hu:A.units<cK)(hr:HR c.w c.hb ρ H s.heap)(rb:VR ρ s.heap v y)(e:zP H v=some r):EA A s .none y r:=by
 rcases v with _|_|_|_|j|ys
 ·cases (rb:y= .none);exact av e▸⟨.same _,.none_none⟩
 iterate 3 exact nn e
 ·exact jn rb λp hp q=>q▸ob e λo h1 e=>HC e λi e=>e▸Vf hu (vO hr hp h1 i)
 ·exact gM rb λp us q t _=>q▸av e▸⟨.none_tuple t hu,.none_tuple t hu⟩
theorem Vk(hu:A.units<cK)(rb:VR ρ s.heap v y)(e:zQ i v=some r):EA A s (.int i t) y r:=by
 rcases v with _|_|j|_|_|ys
 ·exact nn e
 ·exact nn e
 ·exact j5 rb λu q=>q▸av e▸⟨.int_int _ _ _ _,.int_int _ _ _ _⟩
 ·exact nn e
 ·exact nn e
 ·exact gM rb λp us q t _=>q▸av e▸⟨.int_tuple _ _ t hu,.int_tuple _ _ t hu⟩
theorem Vl{i:Nat}{z:Str}(hz:fT[i]? = some z)(rb:VR ρ s.heap v y)(e:zR i v=some r):EA A s (.str z t) y r:=by
 rcases v with _|_|_|j|_|_
 iterate 3 exact nn e
 ·exact sA rb λz' t' hz' q=>q▸(oX.mpr (beq_iff_eq.trans ⟨λw=>agZ (HA hz<|w▸hz'),λw=>av (hz.symm.trans<|agY w▸hz')⟩):(z == z')=decide (i=j)).trans (av e)▸⟨.str_str _ _ _ _,.str_str _ _ _ _⟩
 ·exact nn e
 ·exact nn e
theorem Vm(hf:p7 A s ρ f)(hu:A.units<cK){p:Addr}(t:cq s.heap p us.toArray)(ru:aA ρ s.heap xs us)(same:y= .ref p->r)(rb:VR ρ s.heap v y)(e:eqT f xs v=some r):EA A s (.ref p) y r:=by
 rcases v with _|_|j|_|_|ys
 ·cases (rb:y= .none);exact av e▸⟨.tuple_none t hu,.tuple_none t hu⟩
 ·exact nn e
 ·exact j5 rb λt' q=>q▸av e▸⟨.tuple_int _ _ t hu,.tuple_int _ _ t hu⟩
 ·exact nn e
 ·exact nn e
 ·exact gM rb λq vs e2 t' rv=>e2▸HF (p:=(p,p)) (q:=(q,q)) (λz=>same (e2.trans<|agX jH z.symm)) (gv.U5 (p:=(p,p)) (q:=(q,q)) t t' hu<|vN hf ru rv e)
theorem Vn(hf:p7 A s ρ f)(hu:A.units<cK)(hr:HR c.w c.hb ρ H s.heap)(hp:ρ[a]? = some p)(same:y= .ref p.1->r)(rb:VR ρ s.heap v y)(e:uW f H a v=some r):EA A s (.ref p.1) y r:=by
 rcases v with _|_|_|_|j|_
 ·cases (rb:y= .none);exact ob e λo h1 e=>HC e λi e=>e▸Vg hu (vO hr hp h1 i)
 iterate 3 exact nn e
 ·exact jn rb λq hq e2=>e2▸HF (λz=>same (e2.trans<|agX jH z.symm)) (Vi hf hu hr hp hq e)
 ·exact nn e
theorem AP(hr:HR c.w c.hb ρ H s.heap):∀(n:Nat) (a b:V) (x y:Value) (r:Bool) (A:bj),VR ρ s.heap a x->VR ρ s.heap b y->eJ H n a b=some r->A.units+n<cK->EA A s x y r:=by
 intro n
 induction n with
 |zero=>exact λa b x y r A _ _ e _=>nomatch e
 |succ n ih=>
  intro a b x y r A ra rb e hu;have hu0:A.units<cK:=bx (fh _ _) hu;have hf:p7 A s ρ (eJ H n):=λv u x y r r1 r2 e=>(ih v u x y r A.in1 r1 r2 e (bx (aF ((oC _ _ _).trans (agX _ (iZ _ _)))) hu)).1;have sm:x=y->r=true:=λz=>Ve hr (n+1) a b y r (z▸ra) rb e;rcases a with _|_|i|i|i|xs
  ·exact (ra:x= .none)▸Vj hu0 hr rb e
  ·cases e
  ·exact j5 ra λt q=>q▸Vk hu0 rb e
  ·exact sA ra λz t hz q=>q▸Vl hz rb e
  ·exact jn ra λp hp q=>q▸Vn hf hu0 hr hp (λz=>sm<|q.trans z.symm) rb e
  ·exact gM ra λp us q t ru=>q▸Vm hf hu0 t ru (λz=>sm<|q.trans z.symm) rb e
end
variable{d a:Nat}{C:Calls}{σ:Sc}{E':Value->ah->Prop}{op:oG}{xs:List Value}{ns:List Int}{vs:List V}{k:Int}{f:Op}
section
variable{rec:CE}{v:V}{x:Value}{Q:Value->ah->Prop}
theorem HG(hr:HR c.w c.hb ρ H h)(hp:ρ[a]? = some p):∃o,h.get? p.1=some o/\o.cls≠ .type "tuple":=by
 refine (hr.mem (cG hp)).elim λi e=>e.elim λo e=> ?_;have O:=hr.obj i p o e.1 e.2;have F:∀{T:String},T≠"tuple"->∀{o:Obj},o.cls= .type T->o.cls≠ .type "tuple":=λn _ e w=>n (qZ (e.symm.trans w));rcases o with ⟨k,fs⟩|us|kvs|ns|o|_
 ·exact O.elim λC' O=>O.elim λcd O=>O.elim λes O=>O.elim λm O=>⟨_,O.2.2.1,nofun⟩
 ·exact O.2.elim λxs O=>O.elim λn O=>⟨_,O.1,F (T:="list") (by decide) ag0⟩
 ·exact O.2.elim λks O=>O.1.elim λo O=>O.elim λes O=>O.elim λep O=>⟨o,O.1,F (T:="dict") (by decide) O.2.1.1⟩
 ·exact O.2.elim λxs O=>O.elim λn O=>⟨_,O.1,F (T:="list") (by decide) ag0⟩
 ·exact O.2.2.elim λps O=>⟨_,O.1,nofun⟩
 ·exact O.2.2.1.elim λo O=>⟨o,O.1,F (T:="code") (by decide) O.2⟩
theorem is_none{Q:Bool->ah->Prop}(ra:VR ρ h v x)(k:Q (FP v) s):ao (Md c) A (isSame x .none) Q E' s:=by
 rcases v with _|b|i|n|a|vs
 ·cases (ra:x= .none);exact kC rfl k
 ·cases (ra:x= .bool b);exact kC rfl k
 ·exact j5 ra λt q=>q▸kC ag0 k
 ·exact sA ra λz t _ q=>q▸kC ag0 k
 ·exact jn ra λp _ q=>q▸kC ag0 k
 ·exact gM ra λp us q _ _=>q▸kC ag0 k
theorem Vo{Q:Bool->ah->Prop}(hr:HR c.w c.hb ρ H s.heap)(hq:ρ[b]? = some q)(ra:VR ρ s.heap v x)(e:FQ b v=some r)(k:Q r s):ao (Md c) A (isSame x<|.ref q.1) Q E' s:=by
 rcases v with _|_|_|_|a|_
 ·cases (ra:x= .none);cases e;exact kC rfl k
 iterate 3 exact nn e
 ·refine jn ra λp hp e2=>e2▸ ?_;have e:=(av e).symm
  by_cases z:a=b
  ·rw [e,agZ z] at k;subst z;cases hp.symm.trans hq;exact wpAny_isSame_ref_self k
  ·rw [e,decide_eq_false z] at k;exact (HG hr hp).elim λo ho=>(HG hr hq).elim λo' ho'=>wpAny_isSame_ref_other (λw=>z (AM hr hp hq w)) ho.1 ho'.1 ho.2 k
 ·exact nn e
theorem HH{Q:Bool->ah->Prop}(hr:HR c.w c.hb ρ H s.heap)(ra:VR ρ s.heap v x)(rb:VR ρ s.heap u y)(e:gn v u=some r)(k:Q r s):ao (Md c) A (isSame x y) Q E' s:=by
 rcases u with _|_|_|_|b|_
 ·exact (rb:y= .none)▸is_none ra (av e▸k)
 iterate 3 exact nn e
 ·exact jn rb λq hq e2=>e2▸Vo hr hq ra e k
 ·exact nn e
theorem Vp(e:allInts vs=some ns)(r:aA ρ h vs xs):
 ∃f:Value->Bool,(∀(A:bj) (s:ah) y,y∈xs.toArray->EqAt A s y (.int i t) (f y))/\xs.toArray.any f=decide (i∈ns):=by
 obtain ⟨ts,rfl,rfl⟩:=G6 e r;refine ⟨λy=>match y with| .int j _=>j == i|_=>false,λA s y hy=> ?_, ?_⟩
 ·obtain ⟨p,_,rfl⟩:=bB.mp (Os.mp hy);exact .int_int _ _ _ _
 ·rw [Ot,List.any_map,oX,tZ,decide_eq_true_iff,bB];exact ⟨λ⟨p,hp,e⟩=>⟨p,hp,beq_iff_eq.mp e⟩,λ⟨p,hp,e⟩=>⟨p,hp,beq_iff_eq.mpr e⟩⟩
theorem PR.isSome{v:List (Int×V)}:∀{x:List (Int×Value)},PR ρ h v x->(i6 x k).isSome=(dJ k v).isSome:=by
 induction v with
 |nil=>exact λ{x} r=>agX (λx=>(i6 x k).isSome) (r:x= [])
 |cons p v ih=>intro x r;refine cE.k r λy ys ey r=> ?_;rw [ey,vH];exact aW (P:=λ(o:Option V)=>(if k=y.1 then some y.2 else i6 ys k).isSome=o.isSome) (λ(q:k=p.1)=>agX ym (if_pos<|q.trans r.1)) λq=>(agX ym (if_neg λ(w:k=y.1)=>q<|w.trans r.1.symm)).trans<|ih r.2.2
theorem Vq(hr:HR c.w c.hb ρ H s.heap)(ra:VR ρ s.heap v x)(rb:VR ρ s.heap u y)(e:FO H v u=some r)(hu:A.units+1+deep<cK):RcNeAt A s x y r:=by
 have hu0:A.units<cK:=bx (fh _ (1+deep)) hu;have hf:p7 A s ρ (eJ H deep):=λv u x y r r1 r2 e=>(AP hr deep v u x y r A.in1 r1 r2 e hu).1;rcases v with _|_|i|_|i|xs
 ·exact nn e
 ·exact nn e
 ·exact j5 ra λt q=>(bF.mp e).elim λj w=>j5 (x:=y) (nN w.1▸rb) λt' q'=>q▸q'▸w.2▸(decide_not.trans rfl:decide (i≠j)= !(i == j))▸RcNeAt.int_int i t j t'
 ·exact nn e
 ·exact jl e hr ra λa p xs us n _ q _ _ hl ru _ e=>jl e hr rb λb p' ys vs n' _ q' _ _ hl' rv _ e=>(bF.mp e).elim λr' z=>q▸q'▸z.2▸AN z.1
   (λl e=>((vN hf ru rv e).lst (ru.len.symm.trans<|l.trans rv.len)).elim λ_ w=>w.2▸RcNeAt.lists hl.isList hl'.isList (ru.len.symm.trans<|l.trans rv.len) hu0 w.1)
   λl e=>e▸RcNeAt.lists_lengths hl.isList hl'.isList (bne_iff_ne.mpr λw=>l (ru.len.trans<|w.trans rv.len.symm)) hu0
 ·exact gM ra λp us q t ru=>ob e λys w e=>(bF.mp e).elim λr' z=>gM (x:=y) (z9 w▸rb) λp' vs q' t' rv=>q▸q'▸z.2▸(vN hf ru rv z.1).elim λ_ w=>w.2▸RcNeAt.tuples t t' hu0 w.1
theorem Vr(hr:HR c.w c.hb ρ H s.heap)(rb:VR ρ s.heap u y)(e:FS H i u=some r)(k:∀s',Af c ρ s ρ H s'->Q (.bool r) s'):ao (Md c) A (DB .In (.int i t) y) Q E' s:=by
 rcases u with _|_|_|_|a|vs
 iterate 4 exact nn e
 ·exact jn rb λp hp q=>q▸ob e λo h1 e=>(bF.mp e).elim λkvs w=>by have hH:=h1.trans (agX some<|F5 w.1);exact (hr.obj _ _ _ hp hH).2.elim λks m=>wpAny_in_of (knd:=kq pw c.w) (k:=_) (by exact agZ ag0) (hr.vL hp hH) m.1.mapOf (by rw [m.2.isSome,w.2];exact k _<|.same hr ag0 rfl ag0)
 ·exact gM rb λp us q ht ru=>q▸(bF.mp e).elim λns w=>(Vp (t:=t) w.1 ru).elim λf h=>in_tupleAt f ht (λy hy=>h.1 _ _ y hy)<|h.2▸w.2▸k s (.refl hr)
theorem vP(e:fI v (λx=>fI u λy=>zS f x y)=some r)(ra:VR ρ h v x)(rb:VR ρ h u y){P:Prop}(g:∀i t j t',x= .int i t->y= .int j t'->zS f i j=some r->P):P:=
 eN e ra λi t _ q e=>eN e rb λj t' _ q' e=>g i t j t' q q' e
theorem vQ:rX c d:=by
 intro A op a b x y H ρ s r Q E' ro hr ra rb e k;have k0:Q (.bool r) s:=k s (.refl hr)
 induction op with
 |Eq=>exact (AP hr 8 a b x y r A ra rb e<|ro.u 8 ag0).2 _ _ _ _ k0
 |NotEq=>exact Vq hr ra rb e (ro.u 9 ag0) _ _ _ _ k0
 |Lt=>exact vP e ra rb λi t j t' q q' e=>q▸q'▸PySem.P.lt_int (av e▸k0)
 |LtE=>exact vP e ra rb λi t j t' q q' e=>q▸q'▸PySem.P.le_int (av e▸k0)
 |Gt=>exact vP e ra rb λi t j t' q q' e=>q▸q'▸PySem.P.gt_int (av e▸k0)
 |GtE=>exact vP e ra rb λi t j t' q q' e=>q▸q'▸PySem.P.ge_int (av e▸k0)
 |Is=>exact aj (HH hr ra rb e<|aE k0)
 |IsNot=>exact (bF.mp e).elim λr' w=>aj<|HH hr ra rb w.1 (aE<|w.2▸k0)
 |In=>exact eN e ra λi t _ q e=>q▸Vr hr rb e k
 |NotIn=>exact nn e
end
end Mine
namespace Mine
open PySem PySem.W PyProof.Rows
variable{c:Cx}{d i j tk:Nat}{C:Calls}{σ:Sc}{rec:CE}{ρ ρ':aK}{h h':Heap}{s s':ah}{H H':Hp}{env:Env}{l:Loc}{v:V}{x z:Str}{y:Value}{vo:Option Value}{m:Str->Option Value}{E':Value->ah->Prop}{Q:Unit->ah->Prop}{A:bj}
section
variable{ρ'':aK}{X Y W:Addr->Prop}{s'':ah}{H'':Hp}{P:Str->Prop}{a b:Addr}
def FE(c:Cx)(ρ:aK)(h:Heap)(X:Addr->Prop):Prop:=∀b,X b->c.hb.get? b=none/\(∀p∈ρ,p.1≠b/\p.2≠b)/\∃o,h.get? b=some o/\db o
theorem FE.kp(f:FE c ρ h Y)(k:Kp X ρ ρ' h h'):FE c ρ' h' Y:=λb hb=>
 have q:=f b hb
 ⟨q.1,λp hp=>k.more.elim λm hm=>(b9.mp<|hm.1▸hp).elim (q.2.1 p) λw=>q.2.2.elim λo a=>⟨λz=>cQ (hm.2 p w).1<|z▸a.1,λz=>cQ (hm.2 p w).2<|z▸a.1⟩,q.2.2.elim λo a=>(k.live b o a.1).imp λo' e=>⟨e.1,e.2 a.2⟩⟩
theorem FE.noSeq(f:FE c ρ h X):eX X h:=λb o x e=>(f b x).2.2.elim λo' a=>av (a.1.symm.trans e)▸a.2
theorem FE.mono(f:FE c ρ h X)(i:∀b,Y b->X b):FE c ρ h Y:=λb hb=>f b<|i b hb
theorem FE.mu(f:FE c ρ h X)(x:X b):¬Mu ρ b:=λq=>q.elim λp hp=>((f b x).2.1 p hp.1).2 hp.2
structure Ax(X:Addr->Prop)(c:Cx)(ρ:aK)(s:ah)(ρ':aK)(H':Hp)(s':ah):Prop where
 r:HR c.w c.hb ρ' H' s'.heap
 k:Kp X ρ ρ' s.heap s'.heap
 g:s'.gens=s.gens
 o:s'.os=s.os
theorem Af.ax(a:Af c ρ s ρ' H' s'):Ax X c ρ s ρ' H' s':=⟨a.r,a.k.weak λ_ _ _ q=>q.elim,a.g,a.o⟩
theorem Ax.trans(a:Ax X c ρ s ρ' H' s')(b:Ax X c ρ' s' ρ'' H'' s''):Ax X c ρ s ρ'' H'' s'':=⟨b.r,a.k.trans b.k,b.g.trans a.g,b.o.trans a.o⟩
theorem Ax.weak(a:Ax X c ρ s ρ' H' s')(i:∀b o,s.heap.get? b=some o->X b->Y b):Ax Y c ρ s ρ' H' s':=⟨a.r,a.k.weak i,a.g,a.o⟩
theorem Ax.af(a:Ax X c ρ s ρ' H' s')(i:∀b,X b->s.heap.get? b=none):Af c ρ s ρ' H' s':=⟨a.r,a.k.weak λb o e x=>cQ (i b x) e,a.g,a.o⟩
theorem Ax.refl(r:HR c.w c.hb ρ H s.heap):Ax X c ρ s ρ H s:=(Af.refl r).ax
theorem AQ(r:HR c.w c.hb ρ H s.heap)(f:FE c ρ s.heap X)(lv:∀b o,s.heap.get? b=some o->X b->∃o',h'.get? b=some o'/\db o')(k:∀b o,s.heap.get? b=some o->¬X b->h'.get? b=some o):Ax X c ρ s ρ H {s with heap:=h',toks:=tk}:=
 have a:=r.side (h':=h') f.noSeq lv (λb x=>⟨(f b x).1,(f b x).2.1⟩) k
 ⟨a.1,a.2,ag0,ag0⟩
theorem sB(r:HR c.w c.hb ρ H s.heap)(f:FE c ρ s.heap X)(xa:X a)(lv:∃o',h'.get? a=some o'/\db o')(k:oZ a s.heap h'):Ax X c ρ s ρ H {s with heap:=h',toks:=tk}:=
 AQ r f (λb o e x=>(dz<|b=a).elim (λz=>z▸lv) λz=>⟨o,k b o z e,f.noSeq b o x e⟩) λb o e x=>k b o (λz=>x<|z▸xa) e
structure Wr(c:Cx)(σ:Sc)(P:Str->Prop)(W:Addr->Prop)(ρ:aK)(h:Heap)(env:Env):Prop where
 w:W env.locals
 fe:FE c ρ h W
 iN:∀x,P x->σ.kinds.lookup x=some .cell->env.kindOf x=some .cell/\∀a,env.cells.lookup x=some a->W a/\∀y,env.cells.lookup y=some a->y=x
theorem Wr.kp(x:Wr c σ P W ρ h env)(k:Kp X ρ ρ' h h'):Wr c σ P W ρ' h' env:=⟨x.w,x.fe.kp k,x.iN⟩
theorem HI(e:σ.slots.lookup x=some i)(h:∀(j:Nat) (v:V),l[j]? = some (some v)->∃x,(x,j)∈σ.slots):
 ∀(j:Nat) (u:V),(l.set i<|some v)[j]? = some (some u)->∃x,(x,j)∈σ.slots:=λj u hj=>uV hj (λ_ hj=>h j u hj) λz _=>⟨x,z▸mem_lookup e⟩
theorem sC{b:Option Value}(ok:aP σ)(e:σ.slots.lookup x=some i)(hj:σ.slots.lookup z=some j)(r:VR ρ h v y)(h1:z=x->b=some y)(h2:z≠x->OV ρ h l[j]? b):OV ρ h (l.set i<|some v)[j]? b:=λu q=>
 uV q (λn q=>h2 (λw=>n<|av (e.symm.trans<|w▸hj)) u q) λn q=>⟨y,h1<|ok.2.2 z x i (n▸hj) e,av q▸r⟩
theorem HJ(hn:h.Ns a m)(hc:h.IsCell b vo):b≠a:=λq=>hn.elim λo r=>r.elim λes r=>r.elim λep r=>hc.elim λoc t=>
 nomatch (r.2.1.symm.trans ((agX Ou<|av (r.1.symm.trans<|q▸t.1)).trans t.2) :)
theorem HL(hn:h.Ns a m):∃o,h.get? a=some o/\db o:=hn.elim λo r=>r.elim λes r=>r.elim λep r=>⟨o,r.1,λ_ _ _ w=>nomatch (r.2.1.symm.trans w :)⟩
theorem HM(hc:h.IsCell b vo):∃o,h.get? b=some o/\db o:=hc.elim λo r=>⟨o,r.1,λ_ _ _ w=>nomatch (r.2.symm.trans w :)⟩
theorem HN(sb:gF a h h')(n:b≠a)(hc:h.IsCell b vo):h'.IsCell b vo:=hc.imp λo r=>⟨(sb.2 b n).trans r.1,r.2⟩
theorem Vs(sb:gF a h h')(n:b≠a)(hn:h.Ns b m):h'.Ns b m:=hn.imp λo r=>r.imp λes r=>r.imp λep r=>⟨(sb.2 b n).trans r.1,r.2⟩
theorem HO(ok:aP σ)(e:isVar σ x=some i)(px:P x)(er:ER σ l ρ s.heap env)(wr:Wr c σ P W ρ s.heap env)(hr:HR c.w c.hb ρ H s.heap)(r:VR ρ s.heap v y)(k:∀s',Ax W c ρ s ρ H s'->ER σ (l.set i<|some v) ρ s'.heap env->Q () s'):ao (Md c) A (storeName env x y) Q E' s:=
 have nsq:=wr.fe.noSeq
 er.loc.elim λm hm=>GD e
  (λhk e=>wpAny_storeName_local (er.kind x _ hk) hm.1 (λh' hn' sb=>
   have ax:Ax W c ρ s ρ H {s with heap:=h',toks:=s.toks+1}:=sB hr wr.fe wr.w (HL hn') sb.extBut
   k _ ax ⟨er.fn,er.gl,er.bi,er.kind,er.mu,⟨_,hn',λz j hz hj=>sC ok e hj (r.kp ax.k nsq) (λq=>if_pos q) λq=>(if_neg q).symm▸(hm.2 z j hz hj).kp ax.k nsq⟩,
    λz j hz hj=>(er.iN z j hz hj).imp λa w=>w.imp λvo w=>⟨w.1,HN sb (HJ hm.1 w.2.1) w.2.1,w.2.2.1,sC ok e hj (r.kp ax.k nsq) (λq=>nomatch (hz.symm.trans (q▸hk) :)) λ_=>w.2.2.2.kp ax.k nsq⟩,HI e er.hi,er.cd⟩) (by rw [er.fn];rfl))
  λhk e=>(er.iN x i hk e).elim λa w=>w.elim λvo w=>have wx:=wr.iN x px hk;have wa:=wx.2 a w.1
   wpAny_storeName_cell er.fn wx.1 w.1 w.2.1 λh' hc' sb=>
   have ax:Ax W c ρ s ρ H {s with heap:=h'}:=sB (tk:=s.toks) hr wr.fe wa.1 (HM hc') sb.extBut
   k _ ax ⟨er.fn,er.gl,er.bi,er.kind,er.mu,⟨m,Vs sb (cU<|HJ hm.1 w.2.1) hm.1,λz j hz hj=>sC ok e hj (r.kp ax.k nsq) (λq=>nomatch (hz.symm.trans (q▸hk) :)) λ_=>(hm.2 z j hz hj).kp ax.k nsq⟩,
    λz j hz hj=>(dz<|z=x).elim (λq=>⟨a,some y,q▸w.1,hc',w.2.2.1,sC ok e hj (r.kp ax.k nsq) (λ_=>ag0) λn=>absurd q n⟩) λq=>
     (er.iN z j hz hj).imp λa' u=>u.imp λvo' u=>⟨u.1,HN sb (λn=>q (wa.2 z<|n▸u.1)) u.2.1,u.2.2.1,sC ok e hj (r.kp ax.k nsq) (λn=>absurd n q) λ_=>u.2.2.2.kp ax.k nsq⟩,HI e er.hi,er.cd⟩
end
variable{n a:Nat}{hs:Int}{t:Tok}{vs:List V}{p:Addr×Addr}{C':Addr}{cd:CD}{z:Value}{o:V}
theorem Vt(hx:atT[n]? = some x)(rv:VR ρ h v y):∀{F:List Nat} {vs':List V} {es:List DictEntry} {i:Nat},
 FR ρ h F vs es->idx n F=some i->putAt vs i v=some vs'->FR ρ h F vs' (putL x hs (.str x t) y es):=by
 induction vs with
 |nil=>
  intro F vs' es i r hi hp;have r:es= []:=r;subst r;rcases F with _|⟨f,F⟩
  ·exact nn hi
  ·exact aW (P:=λo=>o=some i->FR ρ h (f::F) vs' (putL x hs (.str x t) y [])) (λ(q:n=f) hi=>by
    have hi:=av hi;subst hi;exact av hp▸⟨⟨x,t,q▸hx,ag0⟩,rv,ag0⟩) (λ_ hi=>(bF.mp hi).elim λj hj=>by
    have hj:=hj.2;subst hj;exact nn hp) hi
 |cons v0 vs ih=>
  intro F vs' es i r hi hp
  exact cE.k r λf F' eF r=>cE.k r λe es' ee r=>r.1.elim λz r1=>r1.elim λt' r1=>by
   subst eF ee;refine aW (P:=λo=>o=some i->FR ρ h (f::F') vs' (putL x hs (.str x t) y (e::es'))) (λ(q:n=f) hi=> ?_) (λq hi=> ?_) hi
   ·have hi:=av hi;subst hi q;have hz:=av<|r1.1.symm.trans hx;subst hz;exact av hp▸(agX (FR ρ h (n::F') (v::vs)) (if_pos<|r1.2▸beq_self_eq_true z)).mpr ⟨⟨z,t',r1.1,r1.2⟩,rv,r.2.2⟩
   ·exact (bF.mp hi).elim λj hj=>by have hj2:=hj.2;subst hj2;exact (bF.mp hp).elim λw hw=>hw.2▸(agX (FR ρ h (f::F') (v0::w)) (if_neg<|Ow _▸(Az r1.2 λ(e:z=x)=>q (Ay hx<|e▸r1.1)).1)).mpr ⟨r.1,r.2.1,ih r.2.2 hj.1 hw.1⟩
theorem FR.len:∀{F:List Nat} {es:List DictEntry},FR ρ h F vs es->es.length=vs.length/\vs.length<=F.length:=by
 induction vs with
 |nil=>exact λr=>⟨agX cu r,bq _⟩
 |cons v vs ih=>exact λr=>cE.k r λf F eF r=>cE.k r λe es ee r=>⟨(agX cu ee).trans<|agX (· + 1) (ih r.2.2).1,ae (i9 (ih r.2.2).2)<|aF (agX cu eF).symm⟩
theorem Vu:∀{F:List Nat} {es:List DictEntry},FR ρ h F vs es->es.any (·.refKey)=false:=by
 induction vs with
 |nil=>exact λr=>agX (DX · (·.refKey)) r
 |cons v vs ih=>exact λr=>cE.k r λf F eF r=>cE.k r λe es ee r=>r.1.elim λz r1=>r1.elim λt r1=>(agX (DX · (·.refKey)) ee).trans (yn.mpr ⟨by
  obtain ⟨_,ky,vl⟩:=e;have q:ky= .str z t:=r1.2;subst q
  rfl,ih r.2.2⟩)
theorem Vv:(gu.all λp=>aR p.2.fields.length 100):=by decide +kernel
theorem HP(hp:ρ[a]? = some p)(sb:gF p.2 h h')(hc:∃x',h'.get? p.2=some x'/\db x'):Kp dX ρ ρ h h':=
 ⟨λb x q=>(dz<|b=p.2).elim (λz=>hc.elim λx' e=>⟨x',z▸e.1,λ_=>e.2⟩) λz=>⟨x,(sb.2 b z).trans q,id⟩,⟨[],(bc ρ).symm,nofun⟩,λb x q n _=>(sb.2 b λz=>n ⟨p,cG hp,z.symm⟩).trans q⟩
theorem HQ(es:List DictEntry)(n:Nat):db (jy es n):=λw=>absurd (qZ w)<|by decide
theorem Vw{cl:Nat}{fs fs':List V}{es es':List DictEntry}{m m':Nat}(hr:HR c.w c.hb ρ H s.heap)(hp:ρ[a]? = some p)(ha:H[a]? = some (.inst cl fs))(e1:cA[cl]? = some C')(e2:gu.lookup cl=some cd)(e3:s.heap.get? p.1=some (jx C' p.2))(e4:s.heap.get? p.2=some (jy es m))(sb:gF p.2 s.heap h')(D:h'.get? p.2=some (jy es' m'))(f:FR ρ s.heap cd.fields fs' es'):Af c ρ s ρ (H.set a<|.inst cl fs') {s with heap:=h',toks:=tk}:=
 have kk:=HP hp sb ⟨_,D,HQ _ _⟩;have np:p.1≠p.2:=λq=>nomatch (agX yo (av (e4.symm.trans<|q▸e3)) :);have u:=hr.upd (o:=.inst cl fs') hp sb ⟨C',cd,_,_,e1,e2,(sb.2 _ np).trans e3,D,f.kp kk<|hW _⟩ (λx' ex=>av (D.symm.trans ex)▸HQ _ _) (λns q=>nomatch av (ha.symm.trans q)) nofun
 ⟨u.1,u.2,ag0,ag0⟩
theorem Vx(hx:atT[n]? = some x)(hr:HR c.w c.hb ρ H s.heap)(r:VR ρ s.heap o y)(rv:VR ρ s.heap v z)(e:zT G H o n v=some H')(k:∀s',Af c ρ s ρ H' s'->Q () s'):ao (Md c) A (setAttr y x z) Q E' s:=
 vD hr r e λa p cl fs cd C' es m hp ea ey ha e2 F e3 e4 e5 e1 e=>ob e λi hi e=>(bF.mp e).elim λfs' hfs=>F.Aw.elim λxc hc=>by
  have eh:=hfs.2;subst ey eh;have fi:=(F.fld n<|GR hi).1;rw [vC hx] at fi;have X:=c.cY hr;refine set_plain X (pW e3 e4) F.sa<|osa_open (s:={s with toks:=s.toks+1}) (r:=none) X (pW e3 e4) (by unfold plainOver;rw [hc.1];exact hc.2.2) (by unfold takerIn;rw [fi];rfl) λb=> ?_;have D':∀ky hs,(s.heap.update p.2<|Obj.putName x hs ky z).get? p.2=some (jy (putL x hs ky z es)<|putN x es m):=λky hs=>by rw [D1 _ e4 (by rw [Ox];rfl),Ox]
  have fp:∀hs,FR ρ s.heap cd.fields fs' (putL x hs (.str x<|s.toks+1) z es):=λhs=>Vt hx rv e5 hi hfs.1;have lt100:cd.fields.length<100:=au (bU.mp Vv _<|mem_lookup e2);refine aj (aE<|aj (aj<|Oy e3 (aj<|Looks.here (s:={s with toks:=s.toks+1}) (looks_clsIn X hc.1) ?_)));rw [hc.2.1];refine aE (a:=some p.2)<|aj (aE<|aj ?_);unfold nsSet;refine aj<|aj (wpAny_askSetting<|aE (aj<|wpAny_mkText (aj<|Oy e4 ?_)));dsimp only;have cc:(!es.toArray.any (·.key.isStr x)&&es.toArray.any (·.refKey))=false:=by rw [Ot (p:=λe:DictEntry=>e.refKey),Vu e5,m9]
  rw [aRefKeyMayBeTheName_at,cc];exact wpAny_updatePart e4 (aj (wpAny_lookBehind (D' _ _) (pastItsLine_dict (by rw [fg,xZ];exact ae (aF (fp _).len.1) (ae (fp 0).len.2 (ae (cV lt100) (by decide))))) (aE (k _ (Vw hr hp ha e1 e2 e3 e4 (jG _ _ _) (D' _ _) (fp _))))))
variable{k:Int}{xs:List (Int×Value)}{p:Int×Value}{vs:List (Int×V)}{items:Array Value}{l:Addr}{o:Obj}{x:Value}{i:V}
section
variable{v:V}
theorem PR.keys{v:List (Int×V)}:∀{x:List (Int×Value)},PR ρ h v x->v.map (·.1)=x.map (·.1):=by
 induction v with
 |nil=>exact λr=>agX (iF lR)<|DF r
 |cons p v ih=>exact λr=>cE.k r λy ys e r=>(congr (agX gI r.1)<|ih r.2.2).trans (agX (iF lR) e).symm
theorem Vy(q:k=p.1)(n:p.1∉xs.map (·.1)):ng (p::xs) k y=(p.1,y)::xs:=by unfold ng;rw [if_pos (by simp [q]),mW,if_pos q.symm];exact agX _ ((q7 (g:=id) λkv hkv=>if_neg λw=>n (bB.mpr ⟨kv,hkv,w.trans q⟩)).trans (Oz _))
theorem Vz(q:k≠p.1):ng (p::xs) k y=p::ng xs k y:=by unfold ng;rw [NH,decide_eq_false<|cU q,NI,mW,if_neg<|cU q];exact aW (P:=λz=>(if (xs.any λkv=>decide<|kv.1=k)=true then p::xs.map (λkv=>if kv.1=k then (kv.1,y) else kv) else (p::xs)++ [(k,y)])=p::z) (λw=>if_pos w) λw=>if_neg w
theorem PR.put(rv:VR ρ h v y):∀{xs:List (Int×Value)},PR ρ h vs xs->(xs.map (·.1)).Nodup->PR ρ h (fq k v vs) (ng xs k y):=by
 induction vs with
 |nil=>exact λ{xs} r _=>(agX (λxs=>PR ρ h [(k,v)]<|ng xs k y) (r:xs= [])).mpr ⟨ag0,rv,ag0⟩
 |cons p vs ih=>intro xs r nd;refine cE.k r λe xs ee r=> ?_;subst ee;have nd:=dF.mp nd;exact aW (P:=λz=>PR ρ h z<|ng (e::xs) k y) (λ(q:k=p.1)=>(Vy (q.trans r.1) nd.1).symm▸⟨r.1,rv,r.2.2⟩) λq=>(Vz λw=>q<|w.trans r.1.symm).symm▸⟨r.1,r.2.1,ih r.2.2 nd.2⟩
theorem aA.set(r:VR ρ h v y){vs:List V}:∀{xs:List Value} (n:Nat),aA ρ h vs xs->aA ρ h (vs.set n v) (xs.set n y):=by
 induction vs with
 |nil=>exact λ{xs} n q=>agX (λxs:List Value=>xs.set n y) (q:xs= [])
 |cons a vs ih=>
  intro xs n q;refine cE.k q λb xs e q=> ?_;subst e;rcases n with _|n
  ·exact ⟨r,q.2⟩
  ·exact ⟨q.1,ih n q.2⟩
end
theorem VA{E:Value->ah->Prop}{v:Value}(hL:IsL s.heap l items n)(h0:0<=k)(hfit:k<2 ^ 63)(hn:k<items.size)(hQ:Q () {s with heap:=s.heap.update l<|ja (·.setIfInBounds k.toNat v)}):
 ao (Md c) A (q8 (.ref l) (.int k t) v) Q E s:=by
 have hl:=hL.isList;obtain ⟨o,ho,hc,ne,hd⟩:=id hl;unfold q8
 try with_reducible refine dH ?_
 first|refine aj (aE ?_)|skip
 refine aj (DR hl.typeIs (by decide) (aj (qW (name:=am "__setitem__") hl.typeIs yp
  (m7 yp hl.typeIs OA ?_<|OC _ _ _))))
 show ao _ _ (D2 (.int k t) >>= _) _ _ s;refine aj (wpAny_listSubscript_int (fitsIndex_of h0 hfit) ?_);obtain ⟨j,rfl⟩:=kz h0;have hx':items[j]? = some (items[j]'(dh.mp hn)):=Oe (dh.mp hn);show ao _ _ ((seqItemAt l j >>= λr=>pure (r.map (j,·))) >>= _) _ _ s;refine aj (aj (wpAny_seqItemAt ho hd (aE ?_)));rw [hx'];show ao _ _ (setSeqItemAt l j v >>= _) _ _ s;refine aj (wpAny_setSeqItemAt ho hd ?_)
 first
  |exact aj (aE (aE ⟨.none,rfl,aE hQ⟩))
  |exact aE ⟨.none,rfl,aE hQ⟩
theorem VC(h:o.cls= .type "dict"):db o:=λw=>absurd (qZ<|h.symm.trans w)<|by decide
theorem VD{o v:V}(hr:HR c.w c.hb ρ H s.heap)(ro:VR ρ s.heap o x)(ri:VR ρ s.heap i y)(rv:VR ρ s.heap v z)(e:nK H o i v=some H')(k:∀s',Af c ρ s ρ H' s'->Q () s'):ao (Md c) A (q8 x y z) Q E' s:=
 eN e ri λi t _ ey e=>ob e λa ea e=>ob e λo hH e=>by
  have ea:=kX ea;subst ey ea;rcases o with ⟨⟩|us|kvs
  ·exact nn e
  ·have e:=dA.mp e;have e2:=av e.2;subst e2
   exact hY hr ro hH λp ys n ex hp hL rs g=>by
    subst ex
    exact VA hL e.1.1 (gg e.1.2 (aL (cz.mpr g)<|by decide)) (rs.len▸e.1.2:i<(ys.length:Int)) (k _ (sh (tk:=s.toks) (us:=us.set i.toNat v) hr hp hH (jG _ _ _)
     ((agX (λz=>IsL _ p z _)<|List.setIfInBounds_toArray ..).mp<|hL.update λxs=>xs.setIfInBounds i.toNat z) (rs.set rv _) (ae (aF tR) g)))
  ·have e:=dA.mp e;have e2:=av e.2;subst e2
   exact ro.elim λp rp=>by
    have ex:=rp.2;subst ex;have q:=hr.obj _ _ _ rp.1 hH
    exact q.2.elim λks m=>wpAny_setItem_pairs (knd:=kq pw c.w) (k:=i) (agZ ag0) m.1 (λh' hd' sb=>hd'.elim λod' h1=>h1.elim λes' h1=>h1.elim λep' h1=>
     have sb2:gF p.2 s.heap h':=q.1▸sb;have g2:h'.get? p.2=some od':=q.1▸h1.1;have nt:=VC h1.2.1.1;have kk:=HP rp.1 sb2 ⟨od',g2,nt⟩;have nd:(ks.map (·.1)).Nodup:=m.1.elim λ_ w=>w.elim λ_ w=>w.elim λ_ w=>w.2.2.2.2.2;have u:=hr.upd (o:=.dict<|fq i v kvs) rp.1 sb2 ⟨q.1,_,hd',PR.put (rv.on kk) (m.2.kp kk<|hW _) nd⟩ (λx' ex=>av (g2.symm.trans ex)▸nt) (λns q=>nomatch av (hH.symm.trans q)) nofun
     k _ ⟨u.1,u.2,ag0,ag0⟩) (m.2.len▸ae e.1.1 (by rw [xZ];decide))
  all_goals exact nn e
variable{i j:Int}{u:Tok}{o v:V}
section
variable{c:Cx}
theorem VE(h0:0<=i)(h1:i<=j)(h2:j<=n):sliceBounds (some i) (some j) none n=(i,j,1):=by have a1:¬i<0:=cH.mpr h0;have a2:¬j<0:=cH.mpr (aL h0 h1);unfold sliceBounds;simp only [Option.getD_none,a1,a2,show (1:Int)>0 by decide,if_true,if_false,t8 h2,t8 (aL h1 h2),qY h0,qY (aL h0 h1)]
theorem jo{M:mX}{E:Value->ah->Prop}{α:Type}{c:Prop}[Decidable c]{t e:Sem α}{Q:α->ah->Prop}(h:¬c)(k:ao M A e Q E s):ao M A (if c then t else e) Q E s:=(if_neg h).symm▸k
theorem p8{M:mX}{E:Value->ah->Prop}{α:Type}{c:Prop}[Decidable c]{t e:Sem α}{Q:α->ah->Prop}(h:c)(k:ao M A t Q E s):ao M A (if c then t else e) Q E s:=(if_pos h).symm▸k
theorem VF{xs ys:Array Value}{i j:Nat}(hij:i<=j)(hj:j<=xs.size):(xs.extract 0 i++ys++xs.extract j xs.size).size<=xs.size+ys.size:=by rw [OD,OD,OE,OE,DM<|ae hij hj,yk,D3];exact ae (jA (jA hij _) _) (aF<|(gX j _ _).trans (agX (· + ys.size)<|yq hj))
theorem VG{E:Value->ah->Prop}{l2 sl:Addr}{its2:Array Value}{n2:Nat}(hL:IsL s.heap l items n)(hL2:IsL s.heap l2 its2 n2)(ne:l≠l2)(hs:s.heap.IsSliceOf sl (.int i t) (.int j u) .none)(h0:0<=i)(h1:i<=j)(h2:j<=items.size)(hz:items.size+its2.size<=4000)(hQ:Q () {s with heap:=s.heap.update l<|ja λxs=>xs.extract 0 i.toNat++its2++xs.extract j.toNat xs.size}):
 ao (Md c) A (q8 (.ref l) (.ref sl)<|.ref l2) Q E s:=by
 have hl:=hL.isList;have hl2:=hL2.isList;obtain ⟨os,hos,hcs,hds⟩:=id hs;have hTs:s.TypeIs (.ref sl) "slice":=⟨os,hos,hcs⟩;have zl:4000<=iD:=by rw [xZ];decide
 have hlong:¬NT (items.size+its2.size)=true:=λw=>absurd (agY w) (mZ.mpr<|ae hz zl);rw [<- qY h1] at hQ;unfold q8;refine dH (aj<|DR hl.typeIs (by decide) ?_)
 refine aj (qW (name:=am "__setitem__") hl.typeIs yp
  (m7 yp hl.typeIs OA ?_<|OC _ _ _))
 refine aj (m:=D2 (.ref sl)) ?_;unfold D2;refine aj (NL hTs slice_no_index (p8 rfl (aE ?_)));refine aj (m:=uc (.ref sl)) (DS hTs (jo (by decide) ?_));rw [listSliceParts_eq];refine aj (aj (iE hos hds (x:=.none) rfl (aj (D4 .none (jo qS ?_)))));refine aj (iE hos hds (x:=.int i t) rfl (aj (D4 (.int i t) ?_)));refine aj (iE hos hds (x:=.int j u) rfl (aj (D4 (.int j u) (aE ?_))));refine jo (λw=>ne (eq_of_beq (a:=l) (b:=l2) w)) (aj ?_);unfold agJ;obtain ⟨o,ho,hc,ne',hd⟩:=id hl;obtain ⟨o2,ho2,hc2,ne2,hd2⟩:=id hl2;refine aj (DS hl2.typeIs (p8 (by decide) (yt ho2 hd2 (aj (yt ho hd ?_)))));refine aj (ub ((sliceIndices_raw (some i) (some j) none items.size (by simp)).trans (agX pure (VE h0 h1 h2))) ?_);refine p8 rfl (aj (nh (jo hlong (aj (q9 ho hd ?_ (ae (fh _ _) (ae hz zl)) ?_)))))
 ·exact aj (wpAny_letGo<|aE ⟨.none,ag0,aE hQ⟩)
 ·rw [qY h1];exact ae (VF (yv h1) (nj.mpr h2)) (ae hz (kD zl))
theorem VH{sl:Addr}(hr:HR c.w c.hb ρ H s.heap)(ro:VR ρ s.heap o x)(hs:s.heap.IsSliceOf sl (.int i t) (.int j u) .none)(rv:VR ρ s.heap v z)(e:(fL H o λa xs=>fL H v λb ys=>if a≠b/\0<=i/\i<=j/\j<=xs.length/\xs.length+ys.length<=lim then some (H.set a (.list<|xs.take i.toNat++(ys++xs.drop j.toNat))) else none)=some H')(k:∀s',Af c ρ s ρ H' s'->Q () s'):ao (Md c) A (q8 x (.ref sl) z) Q E' s:=
 jl e hr ro λa p ys us n _ qx hp hA hL rs g e=>jl e hr rv λb q zs vs n2 _ qz hq hB hL2 rs2 g2 e=>by subst qx qz;have w0:=dA.mp e;have e2:=av w0.2;subst e2;have w:=w0.1;have j1:j.toNat<=us.length:=nj.mpr w.2.2.2.1;refine VG hL hL2 (hr.inj a b _ _ hp hq w.1).1 hs w.2.1 w.2.2.1 (rs.len▸w.2.2.2.1:j<=(ys.length:Int)) (rs.len▸rs2.len▸w.2.2.2.2:ys.length+zs.length<=4000) ?_;have h1:=hL.update (λxs=>xs.extract 0 i.toNat++zs.toArray++xs.extract j.toNat xs.size);rw [show ys.toArray.extract 0 i.toNat++zs.toArray++ys.toArray.extract j.toNat ys.toArray.size=(ys.take i.toNat++(zs++ys.drop j.toNat)).toArray from Array.ext' (by simp only [Array.toList_append,Array.toList_extract,fg,List.extract_eq_take_drop,D3,List.drop_zero,aJ];rw [yc (l:=ys.drop j.toNat) (aF iA)])] at h1;refine k _ (sh (tk:=s.toks) (us:=us.take i.toNat++(vs++us.drop j.toNat)) hr hp hA (jG _ _ _) h1 ((rs.take _).append (rs2.append (rs.drop _))) ?_);rw [aX,aX,iA,qO (ae (yv w.2.2.1) j1), <- oC];exact ae (jA (jA (yv w.2.2.1) _) _) (ae (aF ((gX _ _ _).trans (agX (· + vs.length) (yq j1)))) w.2.2.2.2)
end
variable{c:Cx}{pos p:Pos}{i u:Nat}{b:aB}{x:List Value}{v:List V}{es:List aB}
section
variable{P:Str->Prop}{W:Addr->Prop}
def TG(c:Cx)(d:Nat)(C:Calls)(σ:Sc)(P:Str->Prop)(W:Addr->Prop)(t:aB)(t':T):Prop:=∀(A:bj) (env:Env) (l:Loc) (H:Hp) (ρ:aK) (s:ah) (v:V) (x:Value) (Qa:Loc->Hp->Prop) (Q:Unit->ah->Prop) (E':Value->ah->Prop),
 Ro d A->ER σ l ρ s.heap env->Wr c σ P W ρ s.heap env->HR c.w c.hb ρ H s.heap->VR ρ s.heap v x->hV G C t' v l H Qa->
 (∀l' H' ρ' s',Qa l' H'->Ax W c ρ s ρ' H' s'->ER σ l' ρ' s'.heap env->Q () s')->ao (Md c) A (kE t env x) Q E' s
theorem mG(t:aB):TG c d C σ P W t (.attr .bad 0):=λ_ _ _ _ _ _ _ _ _ _ _ _ _ _ _ _ w=>w.elim
theorem HS(ok:aP σ){x:Str}(e:isVar σ x=some i)(px:P x):TG c d C σ P W (.Name x pos) (.loc i):=λA env l H ρ s v y Qa Q E' ro er wr hr r w k=>
 wpAny_assign_Name (HO ok e px er wr hr r λs' ax er'=>k _ _ _ _ (FZ l w).2 ax er')
theorem cZ{M:mX}{E:Value->ah->Prop}{α:Type}{m m':Sem α}{Q:α->ah->Prop}(e:m=m')(k:ao M A m' Q E s):ao M A m Q E s:=e▸k
section
variable{o i a:aB}{o' i' a' b':E}
theorem VI{a:Str}(hn:atT[n]? = some a)(xo:SE c d C σ o o'):TG c d C σ P W (.Attribute o a pos) (.attr o' n):=λA env l H ρ s v y Qa Q E' ro er wr hr r w k=>
 cZ (arm_assign_Attribute ..) (aj (dH (xo A env l H ρ s _ _ E' ro er hr w λu x H1 ρ1 s1 q1 a1 r1=>aj (jC (aj (dH (
  oP.k q1 λH2 e q1=>Vx hn a1.r r1 (r.on a1.k) e λs2 a2=>D5 (k _ _ _ _ q1 (a1.trans a2).ax<|er.on (a1.trans a2).k))))))))
theorem VJ(xo:SE c d C σ o o')(xi:SE c d C σ i i'):TG c d C σ P W (.Subscript o i pos) (.item o' i'):=λA env l H ρ s v y Qa Q E' ro er wr hr r w k=>
 cZ (OF ..) (aj (dH (xo A env l H ρ s _ _ E' ro er hr w λu x H1 ρ1 s1 q1 a1 r1=>aj (dH (
  xi A env l H1 ρ1 s1 _ _ E' ro (er.on a1.k) a1.r q1 λu2 x2 H2 ρ2 s2 q2 a2 r2=>aj (jC (aj (dH (
   oP.k q2 λH3 e q2=>VD a2.r (r1.on a2.k) r2 (r.on (a1.trans a2).k) e λs3 a3=>D5 (k _ _ _ _ q2 ((a1.trans a2).trans a3).ax<|er.on ((a1.trans a2).trans a3).k))))))))))
theorem VL(xo:SE c d C σ o o')(xa:SE c d C σ a a')(xb:SE c d C σ b b'):TG c d C σ P W (.Subscript o (.Slice (some a) (some b) none p) pos) (.slice o' a' b'):=λA env l H ρ s v y Qa Q E' ro er wr hr r w k=>
 cZ (OF ..) (aj (dH (xo A env l H ρ s _ _ E' ro er hr w λu x H1 ρ1 s1 q1 a1 r1=>aj (dH (wpAny_Slice (cZ (DT ..) (
  xa A env l H1 ρ1 s1 _ _ E' ro (er.on a1.k) a1.r q1 λu2 x2 H2 ρ2 s2 q2 a2 r2=>cZ (DT ..) (
   xb A env l H2 ρ2 s2 _ _ E' ro (er.on (a1.trans a2).k) a2.r q2 λu3 x3 H3 ρ3 s3 q3 a3 r3=>aE (aj (jC (aj (dH (
    oP.k q3 λH4 e q3=>eN e (r2.on a3.k) λi t _ qx e=>eN e r3 λj t3 _ qy e=>by subst qx qy;have hp:=a3.r.push {cls:=.type "slice",data:=.fields #[.int i t,.int j t3,.none]};have a4:Af c ρ3 s3 ρ3 H3 {s3 with heap:=s3.heap.push {cls:=.type "slice",data:=.fields #[.int i t,.int j t3,.none]}}:=⟨hp.1,hp.2,ag0,ag0⟩;have a234:=(a2.trans a3).trans a4;exact VH (s:={s3 with heap:=_}) a4.r (r1.on a234.k) (DP ..) (r.on (a1.trans a234).k) e λs5 a5=>D5 (k _ _ _ _ q3 ((a1.trans a234).trans a5).ax<|er.on ((a1.trans a234).trans a5).k))))))))))))))
end
theorem VR.ax{X:Addr->Prop}{v:V}{x:Value}(r:VR ρ s.heap v x)(a:Ax X c ρ s ρ' H' s')(f:FE c ρ s.heap X):VR ρ' s'.heap v x:=r.kp a.k f.noSeq
theorem aA.ax{X:Addr->Prop}(r:aA ρ s.heap v x)(a:Ax X c ρ s ρ' H' s')(f:FE c ρ s.heap X):aA ρ' s'.heap v x:=r.kp a.k f.noSeq
def VM(e:aB):Prop:=∀(r:List aB) (env:Env),uf (e::r) env=(false,kE e env)::uf r env
theorem VO(e:aB):cond (notStar e) (VM e) True:=by rcases e<;>first|exact trivial|exact λ_ _=>rfl
theorem AR(h:es.all notStar)(env:Env):uf es env=es.map λe=>(false,kE e env):=by
 induction es with
 |nil=>rfl
 |cons e r ih=>exact (bI (VO e) (al h) r env).trans<|agX (_:: ·) (ih<|ar h)
theorem AS(es:List aB):(iL σ es).len=es.length:=by
 induction es with
 |nil=>rfl
 |cons e r ih=>exact agX (· + 1) ih
theorem VQ:∀(vs:List V) (xs:List Value),(∀e∈es,TG c d C σ P W e<|cT σ e)->∀(A:bj) (env:Env) (l:Loc) (H:Hp) (ρ:aK) (s:ah) (Qa:Loc->Hp->Prop) (Q:Unit->ah->Prop) (E':Value->ah->Prop),
 Ro d A->ER σ l ρ s.heap env->Wr c σ P W ρ s.heap env->HR c.w c.hb ρ H s.heap->aA ρ s.heap vs xs->jg G C (iL σ es) vs l H Qa->
 (∀l' H' ρ' s',Qa l' H'->Ax W c ρ s ρ' H' s'->ER σ l' ρ' s'.heap env->Q () s')->ao (Md c) A (OG (es.map λe=>kE e env) xs) Q E' s:=by
 induction es with
 |nil=>
  intro vs xs _ A env l H ρ s Qa Q E' ro er wr hr r w k;rcases vs with _|⟨v,vs⟩
  ·exact (r:xs= [])▸aE (k _ _ _ _ w (.refl hr) er)
  ·exact w.elim
 |cons e es ih=>
  intro vs xs hx A env l H ρ s Qa Q E' ro er wr hr r w k;rcases vs with _|⟨v,vs⟩
  ·exact w.elim
  ·exact cE.k r λx xs ex r=>by
    subst ex
    exact aj (dH (hx e (.head _) A env l H ρ s v x _ _ E' ro er wr hr r.1 w λl1 H1 ρ1 s1 q1 a1 er1=>
     ih vs xs (λe h=>hx e<|.tail _ h) A env l1 H1 ρ1 s1 Qa Q E' ro er1 (wr.kp a1.k) a1.r (r.2.ax a1 wr.fe) q1 λl' H' ρ' s' q a er'=>k _ _ _ _ q (a1.trans a) er'))
theorem HT(hr:HR c.w c.hb ρ H s.heap)(he:oZ s.heap.objs.size s.heap h'):Af c ρ s ρ H {s with heap:=h',toks:=tk}:=
 jm hr λb x e=>he b x (lP<|yx e) e
theorem HU(hs:es.all notStar)(hx:∀e∈es,TG c d C σ P W e<|cT σ e):TG c d C σ P W (.Tuple es u pos) (.tup<|iL σ es):=λA env l H ρ s v y Qa Q E' ro er wr hr r w k=>
 oP.k w λvs ev w=>by have ev:=z9 ev;subst ev;refine nY r λt xs ey ht rs _=> ?_;subst ey;refine wpAny_assign_Tuple ro.1 ht ((agX cu<|AR hs env).trans<|(aG ..).trans ((AS es).symm.trans<|w.1.symm.trans rs.len)) ((agX (List.findIdx? (·.1))<|AR hs env).trans<|List.findIdx?_eq_none_iff.mpr λp hp=>(bB.mp hp).elim λe he=>agX lR he.2.symm) λh' he=> ?_;have a1:Af c ρ s ρ H {s with heap:=h'}:=HT (tk:=s.toks) hr he;rw [show (uf es env).map (·.2)=es.map λe=>kE e env from (agX (iF o0)<|AR hs env).trans iG];exact VQ vs xs hx A env l H ρ {s with heap:=h'} Qa Q E' ro (er.on a1.k) (wr.kp a1.k) a1.r (rs.on a1.k) w.2 λl' H' ρ' s' q a er'=>k _ _ _ _ q (a1.ax.trans a) er'
end
variable{w:bb}{A':bj}{o:Obj}{h2:Heap}{f:Array Value->Array Value}{vs:Array Value}{it I:Addr}{Q:Option Value->ah->Prop}{iv:IV}{v:Value}{t:aB}{r:Option V}
section
variable{E:Value->ah->Prop}{prog:ck}
theorem AT{β:Type}{Q:β->ah->Prop}(hh:A'.handled=none)(h:∀h2 a,(∀b o,s.heap.get? b=some o->h2.get? b=some o)->(∃o,h2.get? a=some o/\o.cls= .type "StopIteration")->E (.ref a) {s with heap:=h2}):
 ao (jB prog w) A' (newExc (.type "StopIteration") [] >>= λe=>raiseNew e) Q E s:=by
 refine aj ?_;simp only [newExc,newTuple];refine aj (oT (aj (m:=OH _ _) (ub (a:=kB) (by first|rfl|(simp only [OH];rfl)) (oT ?_ (by size_fits)))) (by size_fits))
 simp only [raiseNew];refine aj (wpAny_handled ?_);rw [hh];exact aj (aE (wpAny_throw (h _ _ (λb o e=>dG _ (dG _ e)) ⟨_,jD _ rfl,rfl⟩)))
theorem gN{T:String}(h:o.cls= .type T)(n:T≠"tuple"):db o:=λw=>absurd (qZ<|h.symm.trans w) n
theorem HV{T:String}(ho:s.heap.get? it=some o)(hc:o.cls= .type T)(hd:o.data= .fields vs)(n:T≠"tuple")(k:∀b o,(s.heap.update it<|Obj.mapFields f).get? b=some o->h2.get? b=some o):
 (∃o',h2.get? it=some o'/\db o')/\oZ it s.heap h2:=
 ⟨⟨_,k _ _<|D1 _ ho (Obj.isFreed_of_fields<|Obj.data_mapFields hd _),gN ((Obj.cls_mapFields ..).trans hc) n⟩,λb o n e=>k b o<|(jG ..).extBut b o n e⟩
theorem VS{items}(hh:A.handled=none)(hit:s.heap.IsListIter it l i)(hl:s.heap.IsList l items)(hx:items[i]? = none)(hQ:∀h',(∃o',h'.get? it=some o'/\db o')/\oZ it s.heap h'->Q none {s with heap:=h'}):ao (jB prog w) A (lV<|.ref it) Q E s:=by
 obtain ⟨o,ho,hc,hd⟩:=id hit;obtain ⟨ol,hol,_,nl,hdl⟩:=hl;unfold lV
 refine aj (yz (qW (name:=am "__next__") hit.typeIs OI
  (m7 OI hit.typeIs entry_listiter_next ?_<|args_listiter_next _)))
 show ao _ _ (o6 (.ref it) 0 >>= _) _ _ s;refine aj (iE ho hd (x:=.ref l) rfl ?_);show ao _ _ (if (jH l == kB)=true then _ else _) _ _ s;rw [if_neg (show ¬((jH l == kB)=true) from qS)];show ao _ _ (o6 (.ref it) 1 >>= _) _ _ s;refine aj (iE ho hd (x:=.int i 0) rfl ?_);show ao _ _ (tN (.ref l) >>= _) _ _ s;refine aj (OJ hol hdl ?_);simp only [oR,hx];refine aj (nh (aj (OK ho hd (au rfl) ?_)));exact AT (s:={s with heap:=_}) hh λh2 a k e=>aj (D6 (T:="StopIteration") (b:=true) e D7 (aE (hQ h2 (HV ho hc hd (by decide) k))))
theorem VT{t:Addr}{items}(hh:A.handled=none)(hit:s.heap.IsTupleIter it t i)(ht:s.heap.IsTuple t items)(hx:items[i]? = none)(hQ:∀h',(∃o',h'.get? it=some o'/\db o')/\oZ it s.heap h'->Q none {s with heap:=h'}):ao (jB prog w) A (lV<|.ref it) Q E s:=by
 obtain ⟨o,ho,hc,hd⟩:=id hit;obtain ⟨ol,hol,_,nl,hdl⟩:=ht;unfold lV
 refine aj (yz (qW (name:=am "__next__") hit.typeIs OL
  (m7 OL hit.typeIs F.entry_tuple_iterator_next ?_<|F.args_tuple_iterator_next_1 _)))
 show ao _ _ (o6 (.ref it) 0 >>= _) _ _ s;refine aj (iE ho hd (x:=.ref t) rfl ?_);show ao _ _ (if (jH t == kB)=true then _ else _) _ _ s;rw [if_neg (show ¬((jH t == kB)=true) from qS)];show ao _ _ (o6 (.ref it) 1 >>= _) _ _ s;refine aj (iE ho hd (x:=.int i 0) rfl ?_);show ao _ _ (tN (.ref t) >>= _) _ _ s;refine aj (OJ hol hdl ?_);simp only [oR,hx];refine aj (nh (aj (OK ho hd (au rfl) ?_)));exact AT (s:={s with heap:=_}) hh λh2 a k e=>aj (D6 (T:="StopIteration") (b:=true) e D7 (aE (hQ h2 (HV ho hc hd (by decide) k))))
theorem VU{x left step:Int}(hh:A.handled=none)(hit:IsRangeIter s.heap it x left step)(hleft:left<=0)(hQ:∀h',(∃o',h'.get? it=some o'/\db o')/\oZ it s.heap h'->Q none {s with heap:=h'}):ao (jB prog w) A (lV<|.ref it) Q E s:=by
 have hT:s.TypeIs (.ref it) "range_iterator":=⟨_,hit,ag0⟩;unfold lV
 refine aj (yz (qW (name:=am "__next__") hT OM
  (m7 OM hT F.entry_range_iterator_next ?_<|F.args_range_iterator_next_1 _)))
 show ao _ _ (o6 (.ref it) 0 >>= _) _ _ s;refine aj<|iE hit ag0 (x:=gE x) ag0 ?_;show ao _ _ (o6 (.ref it) 1 >>= _) _ _ s;refine aj<|iE hit ag0 (x:=gE left) ag0 ?_;show ao _ _ (o6 (.ref it) 2 >>= _) _ _ s;refine aj<|iE hit ag0 (x:=gE step) ag0 ?_;show ao _ _ (if left<=0 then _ else _) _ _ s;rw [if_pos hleft];refine aj (nh<|aj ?_);exact AT hh λh2 a k e=>aj<|D6 (T:="StopIteration") (b:=true) e D7 (aE<|hQ h2 ⟨⟨_,k _ _ hit,gN rfl<|by decide⟩,λb o _ e=>k b o e⟩)
end
def dm(ρ:aK)(h:Heap)(iv:IV)(i:Nat)(I:Addr):Prop:=match iv with
 | .vals vs=>∃t xs,h.IsTupleIter I t i/\cq h t xs.toArray/\¬Mu ρ t/\aA ρ h vs xs/\vs.length<=lim
 | .lst a=>∃p,ρ[a]? = some p/\h.IsListIter I p.1 i
 | .aN lo n=>i<=n/\n<=lim/\IsRangeIter h I (lo+i) ((n:Int)-i) 1
noncomputable def AU:IV->String
 | .vals _=>"tuple_iterator"
 | .lst _=>"list_iterator"
 | .aN _ _=>"range_iterator"
section
variable{X:Addr->Prop}
theorem dm.cls(r:dm ρ h iv i I):∃o,h.get? I=some o/\o.cls= .type (AU iv):=by
 induction iv with
 |vals vs=>exact r.elim λt r=>r.elim λxs r=>r.1.imp λo r=>⟨r.1,r.2.1⟩
 |lst a=>exact r.elim λp r=>r.2.imp λo r=>⟨r.1,r.2.1⟩
 |aN lo n=>exact ⟨_,r.2.2,ag0⟩
theorem VX(iv:IV):AU iv≠"tuple":=by induction iv<;>exact agY rfl
theorem dm.HW(r:dm ρ h iv i I)(e:h.get? I=some o):db o:=r.cls.elim λo' q=>av (q.1.symm.trans e)▸gN q.2 (VX iv)
theorem dm.kp(r:dm ρ h iv i I)(k:Kp X ρ ρ' h h')(nx:eX X h)(n1:¬X I)(n2:¬Mu ρ I):dm ρ' h' iv i I:=by
 induction iv with
 |vals vs=>exact r.imp λt r=>r.imp λxs r=>⟨r.1.imp λo r=>⟨k.keep _ _ r.1 n2 n1,r.2⟩,(IsTup.kp k nx r.2.1 r.2.2.1).1,(IsTup.kp k nx r.2.1 r.2.2.1).2,r.2.2.2.1.kp k nx,r.2.2.2.2⟩
 |lst a=>exact r.imp λp r=>⟨k.pre r.1,r.2.imp λo r=>⟨k.keep _ _ r.1 n2 n1,r.2⟩⟩
 |aN lo n=>exact ⟨r.1,r.2.1,k.keep _ _ r.2.2 n2 n1⟩
end
section
variable{P:Str->Prop}{W:Addr->Prop}
noncomputable def owned:List String:=["enumerate","zip","dict_itemiterator","dict_reverseitemiterator","odict_iterator","itertools.zip_longest","itertools.pairwise"]
theorem VY(iv:IV):owned.contains (AU iv)=false:=by induction iv<;>exact agY rfl
theorem HX{Q:Unit->ah->Prop}(r:dm ρ s.heap iv i I)(h:Q () s):ao (Md c) A (D8 t (.ref I) v) Q E' s:=by
 obtain ⟨o,ho,hc⟩:=r.cls
 have key:∀a,ao (Md c) A (do
  let o<-load I
  match o.cls,o.data with
  | .type n,.fields vs=>
   if owned.contains n&&vs[0]? == some (gE a) then
    rule "for.unpacks-the-owned-tuple"
    updateField I 0 .none
  |_,_=>pure ()) Q E' s:=by
  intro a;refine aj (wpAny_load ho ?_);obtain ⟨cl,di,dt,sl⟩:=o;have hc:cl=_:=hc;subst hc
  induction dt with
  |fields vs=>exact jo (λq=>nb ((VY iv).symm.trans<|al q))<|aE h
  |_=>exact aE h
 rcases t<;>first|exact aE h|(rcases v<;>first|exact aE h|exact key _)
theorem HY{X:Addr->Prop}(hh:A.handled=none)(hr:HR c.w c.hb ρ H s.heap)(it:dm ρ s.heap iv i I)(fe:FE c ρ s.heap X)(xI:X I)(e:iv.next H i=some r)(k0:r=none->∀s',Ax X c ρ s ρ H s'->Q none s')(k1:∀v x s',r=some v->Ax X c ρ s ρ H s'->VR ρ s'.heap v x->dm ρ s'.heap iv (i+1) I->Q (some x) s'):ao (Md c) A (lV<|.ref I) Q E' s:=by
 have one:∀h' tk,(∃o',h'.get? I=some o'/\db o')/\oZ I s.heap h'->Ax X c ρ s ρ H {s with heap:=h',toks:=tk}:=λh' tk lv=>sB hr fe xI lv.1 lv.2;have gone:∀{vs:List V} {xs:List Value},aA ρ s.heap vs xs->vs[i]? = none->xs.toArray[i]? = none:=λrs q=>(lK ..).trans (tJ<|rs.len▸List.getElem?_eq_none_iff.mp q)
 induction iv with
 |vals vs=>
  exact it.elim λt it=>it.elim λxs it=>by
   have e:=av e;subst e;have hne:t≠I:=λq=>(fe I xI).2.2.elim λo ho=>it.2.1.elim λot ht=>ht.2.2.elim λn hd=>ho.2 (av (ht.1.symm.trans (q▸ho.1))▸ht.2.1) _ _ (av (ht.1.symm.trans (q▸ho.1))▸hd);rcases hv:vs[i]? with _|v
   ·exact VT hh it.1 it.2.1 (gone it.2.2.2.1 hv) λh' lv=>k0 hv _<|one h' s.toks lv
   ·exact (it.2.2.2.1.at hv).elim λx hx=>wpAny_pyNext_tuple_item it.1 it.2.1 (x:=x) ((lK ..).trans hx.1) λh' hit' sb=>
     have ax:=one h' s.toks ⟨hit'.imp λo' q=>⟨q.1,gN q.2.1<|by decide⟩,sb.extBut⟩
     k1 v x _ hv ax (hx.2.ax ax fe) ⟨t,xs,hit',it.2.1.imp λo ho=>⟨(sb.2 t hne).trans ho.1,ho.2⟩,it.2.2.1,it.2.2.2.1.ax ax fe,it.2.2.2.2⟩
 |lst a=>
  exact it.elim λp it=>(bF.mp e).elim λvs e=>ob e.1 λo hH ho=>by
   have hH:=hH.trans (agX some<|fS ho);have e2:=e.2;subst e2
   exact (hr.obj _ _ _ it.1 hH).2.elim λxs l=>l.elim λn l=>by
    rcases hv:vs[i]? with _|v
    ·exact VS hh it.2 (IsL.isList l.1) (gone l.2.1 hv) λh' lv=>k0 hv _<|one h' s.toks lv
    ·exact (l.2.1.at hv).elim λx hx=>wpAny_pyNext_list_item it.2 (IsL.isList l.1) (x:=x) ((lK ..).trans hx.1) λh' hit' sb=>
      have ax:=one h' s.toks ⟨hit'.imp λo' q=>⟨q.1,gN q.2.1<|by decide⟩,sb.extBut⟩
      k1 v x _ hv ax (hx.2.ax ax fe) ⟨p,it.1,hit'⟩
 |aN lo n=>
  have e:=av e;subst e
  by_cases q:i<n
  ·exact wpAny_pyNext_range_item it.2.2 (Int.sub_pos.mpr<|dh.mpr q) λh' hit' sb=>
    have ax:=one h' (s.toks+1) ⟨⟨_,hit',gN rfl<|by decide⟩,sb.extBut⟩
    k1 (.int<|lo+i) _ _ (if_pos q) ax (fz _ _) ⟨q,it.2.1,by rw [ua, <- c7, <- Int.sub_sub];exact hit'⟩
  ·exact VU hh it.2.2 (yA (cz.mpr<|OO q)) λh' lv=>k0 (if_neg q) _<|one h' s.toks lv
end
variable{dt:Data}{i:Int}{Q:Value->ah->Prop}{h:Hp}{e':E}{e a:aB}{q:Pos}
section
variable{P:Str->Prop}{W:Addr->Prop}
def SI(c:Cx)(d:Nat)(C:Calls)(σ:Sc)(e:aB)(it:It):Prop:=∀(A:bj) (env:Env) (l:Loc) (H:Hp) (ρ:aK) (s:ah) (Qa:IV->Hp->Prop) (Q:Value->ah->Prop) (E':Value->ah->Prop),
 Ro d A->ER σ l ρ s.heap env->HR c.w c.hb ρ H s.heap->ml G C it l H Qa->
 (∀iv I H' ρ' s',Qa iv H'->Af c ρ s ρ' H' s'->dm ρ' s'.heap iv 0 I->s.heap.get? I=none->FE c ρ' s'.heap (· = I)->Q (.ref I) s')->
 ao (Md c) A (eval e env) (λx s1=>ao (Md c) A (pyIter x) Q E' s1) E' s
section
variable{T:String}
theorem sD(hr:HR c.w c.hb ρ H s.heap)(hf:({cls:=.type T,data:=dt}:Obj).isFreed=false)(n:T≠"tuple"):
 Af c ρ s ρ H {s with heap:=s.heap.push {cls:=.type T,data:=dt}}/\(s.heap.push {cls:=.type T,data:=dt}).get? s.heap.objs.size=some {cls:=.type T,data:=dt}/\FE c ρ (s.heap.push {cls:=.type T,data:=dt}) (· = s.heap.objs.size):=
 have h:=hr.push {cls:=.type T,data:=dt};have hg:=jD s.heap hf;have no:=eO s.heap
 ⟨⟨h.1,h.2,ag0,ag0⟩,hg,λb hb=>(hb:b=_)▸⟨hr.fresh no,λp hp=>⟨λz=>(hr.alive hp).1.elim λo e=>cQ no<|z▸e,λz=>(hr.alive hp).2.elim λo e=>cQ no<|z▸e⟩,_,hg,gN ag0 n⟩⟩
theorem Af.ab(a:Af c ρ s ρ' H' s')(n:s'.heap.get? I=none):s.heap.get? I=none:=gone (λo q=>(a.k.live I o q).imp λ_ h=>h.1) n
theorem Af.fresh(a:Af c ρ s ρ' H' s'):s.heap.get? s'.heap.objs.size=none:=a.ab<|eO _
theorem HZ{t u v:Tok}(hr:HR c.w c.hb ρ H s.heap)(h0:0<=i)(h1:i<=j)(h2:j<=lim)(k:∀I s',Af c ρ s ρ H s'->dm ρ s'.heap (.aN i (j-i).toNat) 0 I->s.heap.get? I=none->FE c ρ s'.heap (· = I)->Q (.ref I) s'):
 ao (Md c) A (pyIter<|.ref s.heap.objs.size) Q E' {s with heap:=s.heap.push {cls:=.type "range",data:=.fields #[.int i t,.int j u,.int 1 v]},toks:=tk}:=
 have a1:=(sD (T:="range") (dt:=.fields #[.int i t,.int j u,.int 1 v]) hr rfl<|by decide).1.tok tk;have h3:j-i<=(4000:Nat):=aL (Int.sub_le_self _ h0) h2;have hi:∀{x:Int},x<=(4000:Nat)->x<2 ^ 62:=λh=>gH h<|by decide
 wpAny_pyIter_range (IsRange.new _ _ _ _ _ _ _) (small_one (aL (by decide) h0) (hi<|aL h1 h2) (aL (by decide)<|aL h0 h1)<|hi h2) (
  have q:=sD (s:={s with heap:=s.heap.push {cls:=.type "range",data:=.fields #[.int i t,.int j u,.int 1 v]},toks:=tk}) (T:="range_iterator") (dt:=.fields #[gE i,gE<|Builtin.Range.rangeSize i j 1,gE 1]) a1.r rfl<|by decide
  k _ _ (a1.trans q.1) ⟨bq _,nj.mpr h3,by
   have e2:(((j-i).toNat:Nat):Int)-((0:Nat):Int)=Builtin.Range.rangeSize i j 1:=by rw [rangeSize_one];split<;>omega
   rw [e2,Int.ofNat_zero,dS];exact q.2.1⟩ a1.fresh q.2.2)
end
theorem VZ{v:V}{Q:IV->Hp->Prop}(w:wv v h Q){P:Prop}(kt:∀vs,v= .tup vs->Q (.vals vs) h->P)(kl:∀a vs,v= .ref a->h[a]? = some (.list vs)->Q (.lst a) h->P):P:=by
 rcases v with _|_|_|_|a|vs
 iterate 4 exact w.elim
 ·exact oP.k w λvs e w=>ob e λo eo e=>kl a vs ag0 (eo.trans (agX some<|fS e)) w
 ·exact kt vs ag0 w
theorem H5(x:SE c d C σ e e'):SI c d C σ e (.seq e'):=λA env l H ρ s Qa Q E' ro er hr w k=>
 x A env l H ρ s _ _ E' ro er hr w λv y H1 ρ1 s1 q1 a1 r1=>VZ q1 (λvs ev q2=>by
  subst ev;exact r1.elim λt r=>r.elim λxs r=>by have ey:=r.1;subst ey;have q:=sD (T:="tuple_iterator") (dt:=.fields #[.ref t,.int 0 0]) a1.r ag0 (by decide);have t':=IsTup.kp q.1.k (hW _) r.2.1 r.2.2.1;exact wpAny_pyIter_tuple r.2.1 (k _ _ _ _ _ q2 (a1.trans q.1) ⟨t,xs,⟨_,q.2.1,ag0,ag0⟩,t'.1,t'.2,r.2.2.2.1.on q.1.k,r.2.2.2.2⟩ a1.fresh q.2.2))
  λa vs ev hH q2=>by subst ev;exact hY a1.r r1 hH λp ys n ey hp hL rs g=>by subst ey;have q:=sD (T:="list_iterator") (dt:=.fields #[.ref p,.int 0 0]) a1.r ag0 (by decide);exact wpAny_pyIter_list hL.isList<|k _ _ _ _ _ q2 (a1.trans q.1) ⟨(p,p),hp,_,q.2.1,ag0,ag0⟩ a1.fresh q.2.2
theorem V0(ok:aP σ)(g:bN σ (am "range"))(hs:notStar a)(xa:SE c d C σ a (rec σ a)):SI c d C σ (.Call (.Name (am "range") q) [a] [] pos) (.aN<|rec σ a):=λA env l H ρ s Qa Q E' ro er hr w k=>
 kx (k9 ok g er hr (lh c.w.params<|by decide) Boot.«range» (by decide) (DW (kr (xa A env l H ρ s _ _ E' ro er hr w λv x H1 ρ1 s1 q1 a1 r1=>oM (
  oP.k q1 λi ei q1=>(nN ei▸r1:VR ρ1 _ (.int i) x).elim λt ex=>by subst ex;exact call_range_1<|HZ a1.r (eU 0) q1.1 q1.2.1 λI s' a2 it fr fe=>k _ _ _ _ _ q1.2.2 (a1.trans a2) (Int.sub_zero i▸it) (a1.ab fr) fe)) (dj hs _ env)) (dj hs _ env)))
theorem V1(ok:aP σ)(g:bN σ (am "range"))(hs:notStar a)(hs2:notStar b)(xa:SE c d C σ a (rec σ a))(xb:SE c d C σ b (rec σ b)):SI c d C σ (.Call (.Name (am "range") q) [a,b] [] pos) (.jS (rec σ a)<|rec σ b):=λA env l H ρ s Qa Q E' ro er hr w k=>
 kx (k9 ok g er hr (lh c.w.params<|by decide) Boot.«range» (by decide) (DW (kr (xa A env l H ρ s _ _ E' ro er hr w λv x H1 ρ1 s1 q1 a1 r1=>kr (
  xb A env l H1 ρ1 s1 _ _ E' ro (er.on a1.k) a1.r q1 λv2 x2 H2 ρ2 s2 q2 a2 r2=>oM (
   oP.k q2 λi ei q2=>oP.k q2 λj ej q2=>(nN ei▸r1.on a2.k:VR ρ2 _ (.int i) x).elim λt ex=>(nN ej▸r2:VR ρ2 _ (.int j) x2).elim λu ex2=>by subst ex ex2;have a12:=a1.trans a2;exact call_range_2<|HZ a2.r q2.1 q2.2.1 q2.2.2.1 λI s' a3 it fr fe=>k _ _ _ _ _ q2.2.2.2 (a12.trans a3) it (a12.ab fr) fe)) (dj hs2 _ env)) (dj hs _ env)) (dj hs _ env) (by rw [dj hs2];rfl)))
end
variable{h:Heap}{D b:Addr}{xs:List Value}{vs:List V}{x:Value}{v:V}{i:Nat}{ifs:List aB}
section
variable{P:Str->Prop}{W X:Addr->Prop}{fv:aK}{s0:ah}{a:Addr}
theorem V2(n:∀p∈ρ,p.1≠D/\p.2≠D)(nm:¬Mu ρ b)(ne:b≠D):¬Mu (ρ++ [(D,D)]) b:=λq=>q.elim λp hp=>(b9.mp hp.1).elim (λw=>nm ⟨p,w,hp.2⟩) λw=>ne<|(hp.2.symm).trans (agX o0<|cr.mp w)
theorem adopt(hr:HR c.w c.hb ρ H h)(hL:IsL h D xs.toArray n)(rs:aA ρ h vs xs)(g:vs.length<=lim)(hb:c.hb.get? D=none)(hn:∀p∈ρ,p.1≠D/\p.2≠D):
 HR c.w c.hb (ρ++ [(D,D)]) (H++ [.list vs]) h/\Gr ρ (ρ++ [(D,D)]) h h/\VR (ρ++ [(D,D)]) h (.ref H.length) (.ref D):=
 have G1:Gr ρ (ρ++ [(D,D)]) h h:=⟨λi p e=>uU e,λa ys t nm=>⟨t,V2 hn nm λq=>t.elim λo t=>absurd (qZ<|t.2.1.symm.trans (agX yo<|av (t.1.symm.trans<|q▸hL)))<|by decide⟩⟩
 ⟨⟨hr.base,(aX ..).trans<|(agX (· + 1) hr.len).trans (aX (as:=H) (bs:=[O.list vs])).symm,
  λj q x e1 e2=>uT hr.len e1 e2 (λe1 e2=>(hr.obj j q x e1 e2).gr G1 ag0 rfl) λ_ y z=>eq2 (R:=λq x=>OR c.w (ρ++ [(D,D)]) h q x) y z ⟨ag0,xs,n,hL,rs.gr G1,g⟩,
  λj q x e1 e2 nf=>uT hr.len e1 e2 (λe1 e2=>hr.new j q x e1 e2 nf) λ_ y _=>y▸⟨hb,hb⟩,
  λi j q1 q2 e1 e2 ne=>kR e1 (λa=>kR e2 (λb=>hr.inj i j q1 q2 a b ne) λ_ y=>y▸have x:=hn q1<|cG a;⟨x.1,x.1,x.2⟩) λzi y=>kR e2 (λb=>y▸have x:=hn q2<|cG b;⟨cU x.1,cU x.2,cU x.2⟩) λzj _=>absurd (zi.trans zj.symm) ne⟩,
  G1,(D,D),r8 hr _,ag0⟩
theorem AV(fe:FE c ρ h (· = a))(sb:gF a h h'):Gr ρ ρ h h':=⟨λ_ _ e=>e,λb xs t nm=>⟨t.imp λo t=>⟨(sb.2 b λq=>(fe a ag0).2.2.elim λo' e=>t.2.2.elim λn d=>e.2 (av (t.1.symm.trans<|q▸e.1)▸t.2.1) _ _<|av (t.1.symm.trans<|q▸e.1)▸d).trans t.1,t.2⟩,nm⟩⟩
theorem VR.jp(fe:FE c ρ h (· = a))(sb:gF a h h')(r:VR ρ h v x):VR ρ h' v x:=r.gr<|AV fe sb
theorem Ax.jp(af:Ax X c fv s0 ρ H s)(e0:s0.heap.get? a=none)(fe:FE c ρ s.heap (· = a))(sb:gF a s.heap h'):Ax X c fv s0 ρ H {s with heap:=h'}:=
 have z:=fe a ag0;have ne:∀{b x},s0.heap.get? b=some x->b≠a:=λe q=>cQ e0 (q▸e)
 ⟨⟨λb x e=>(sb.2 b λq=>cQ z.1<|q▸e).trans<|af.r.base b x e,af.r.len,λi p o e1 e2=>have q:=z.2.1 p<|cG e1;(af.r.obj i p o e1 e2).gr (AV fe sb) (sb.2 _ q.1) (sb.2 _ q.2),af.r.new,af.r.inj⟩,
  ⟨λb x e=>(af.k.live b x e).imp λx' e'=>⟨(sb.2 b<|ne e).trans e'.1,e'.2⟩,af.k.more,λb x e n1 n2=>(sb.2 b<|ne e).trans<|af.k.keep b x e n1 n2⟩,af.g,af.o⟩
theorem jp(af:Af c fv s0 ρ H s)(e0:s0.heap.get? a=none)(fe:FE c ρ s.heap (· = a))(sb:gF a s.heap h'):Af c fv s0 ρ H {s with heap:=h'}:=
 (Ax.jp (X:=dX) af.ax e0 fe sb).af λ_ q=>q.elim
theorem Kp.adopt(k:Kp X ρ ρ' h h')(e:h.get? D=none):Kp X ρ (ρ'++ [(D,D)]) h h':=
 ⟨k.live,k.more.elim λm hm=>⟨m++ [(D,D)],(agX (· ++ _) hm.1).trans<|aJ ..,λp hp=>(b9.mp hp).elim (hm.2 p) λq=>cr.mp q▸⟨e,e⟩⟩,k.keep⟩
theorem V3(r:dm ρ s.heap iv i I)(h:Q (.ref I) s):ao (Md c) A (pyIter<|.ref I) Q E' s:=by
 induction iv with
 |vals vs=>exact r.elim λt r=>r.elim λxs r=>wpAny_pyIter_tupleiter r.1 h
 |lst a=>exact r.elim λp r=>wpAny_pyIter_listiter r.2 h
 |aN lo n=>exact wpAny_pyIter_rangeiter r.2.2 h
theorem dm.lt(hr:HR c.w c.hb ρ H h)(r:dm ρ h iv i I)(e:iv.next H i=some (some v)):i<lim:=by
 induction iv with
 |vals vs=>exact r.elim λt r=>r.elim λxs r=>bC (fM<|av e) r.2.2.2.2
 |lst a=>exact r.elim λp r=>(bF.mp e).elim λvs e=>ob e.1 λo hH ho=>(hr.obj _ _ _ r.1<|hH.trans (agX some<|fS ho)).2.elim λxs l=>l.elim λn l=>bC (fM e.2) l.2.2
 |aN lo n=>exact aW (P:=λz=>z=some v->i<lim) (λ(q:i<n) _=>bC q r.2.1) (λ_ e=>nn e)<|av e
noncomputable def vR(env:Env)(c:aB)(r:Bool):Sem (ForInStep Bool):=if r=true then do let ok<-oJ c env (eval c env);pure (oB ok) else pure (oB r)
theorem V4{Q:Bool->ah->Prop}(ifs:List aB)(q:Q false s):ao (Md c) A (forIn ifs false<|vR env) Q E' s:=by
 induction ifs with
 |nil=>exact cZ (qN ..)<|aE q
 |cons e r ih=>exact cZ (mY ..)<|aj (jo qS<|aE ih)
theorem V5:(∀e∈ifs,SB c d C σ e<|rec σ e)->∀(A:bj) (env:Env) (l:Loc) (H:Hp) (ρ:aK) (s:ah) (Qa:Bool->Hp->Prop) (Q:Bool->ah->Prop) (E':Value->ah->Prop),
 Ro d A->ER σ l ρ s.heap env->HR c.w c.hb ρ H s.heap->jf G C (aU rec σ ifs) l H Qa->
 (∀b H' ρ' s',Qa b H'->Af c ρ s ρ' H' s'->Q b s')->ao (Md c) A (forIn ifs true<|vR env) Q E' s:=by
 induction ifs with
 |nil=>exact λ_ A env l H ρ s Qa Q E' ro er hr w k=>cZ (qN ..)<|aE (k _ _ _ _ w<|.refl hr)
 |cons e r ih=>
  exact λhx A env l H ρ s Qa Q E' ro er hr w k=>ba (P:=λes'=>jf G C es' l H Qa->ao (Md c) A (forIn (e::r) true<|vR env) Q E' s) (λhs (w:jf G C (.cons (rec σ e)<|aU rec σ r) l H Qa)=>
   cZ (mY ..) (aj (p8 ag0 (aj (hx e (.head _) A env l H ρ s _ _ E' ro er hr w (λv H' q=>nV q) λb H1 ρ1 s1 q1 a1=>aE (by
    rcases b with _|_
    ·exact V4 r<|k _ _ _ _ q1 a1
    ·exact ih (λy hm=>hx y<|.tail _ hm) A env l H1 ρ1 s1 Qa Q E' ro (er.on a1.k) a1.r q1 λb H2 ρ2 s2 q2 a2=>k _ _ _ _ q2<|a1.trans a2))))))
   (λ_ (w:jf G C (.cons .bad .nil) l H Qa)=>False.elim w) w
end
variable{sc:cC}{x n y:Str}{names:List (Str×NameKind)}{o:Option NameKind}{l:List (Str×Nat)}{p:Str×NameKind}{k:NameKind}{c:Bool}{b' b:Str->Bool}
noncomputable def gO(env:Env):List (Str×NameKind)->List (Str×Addr)->List (Str×Addr)
 | [],acc=>acc
 |p::r,acc=>gO env r (if p.2= .free then (p.1,(env.cells.lookup p.1).getD 0)::acc else acc)
section
variable{σ':Sc}{X:Prop}
theorem V6{a:Addr}(h:env.cells.lookup n=some a):cellOf env n=pure a:=by unfold cellOf;rw [h]
theorem V7{f:(Str×NameKind)->List (Str×Addr)->Sem (ForInStep (List<|Str×Addr))}(hf:∀p acc,f p acc=(if (p.2 == rg)=true then cellOf env p.1 >>= λa=>pure (.yield ((p.1,a)::acc)) else pure (.yield acc))):
 ∀{acc:List (Str×Addr)},(∀p∈names,p.2= .free->∃a,env.cells.lookup p.1=some a)->forIn names acc f=pure (gO env names acc):=by
 induction names with
 |nil=>exact λ_=>qN ..
 |cons p r ih=>
  refine λ{acc} h=>(mY ..).trans<|(agX (· >>= _)<|hf p acc).trans ?_;have ih:=λ{a}=>ih (acc:=a) λp hp=>h p<|.tail _ hp
  exact (dz<|p.2= .free).elim (λq=>(h p (.head _) q).elim λa ha=>
   have e:(p.1,a)::acc=if p.2= .free then (p.1,(env.cells.lookup p.1).getD 0)::acc else acc:=(if_pos q).symm▸ha.symm▸rfl
   (agX (· >>= _) (if_pos<|beq_iff_eq.mpr q)).trans ((agX (λm=>(m >>= _) >>= _)<|V6 ha).trans ((agX (· >>= _)<|pure_bind ..).trans<|(pure_bind ..).trans (ih.trans<|agX (λa=>pure<|gO env r a) e))))
   λq=>(agX (· >>= _) (if_neg λe=>q<|beq_iff_eq.mp e)).trans<|(pure_bind ..).trans (ih.trans<|agX (λa=>pure<|gO env r a) (if_neg q).symm)
theorem V8(h:∀p∈sc.names,p.2= .free->∃a,env.cells.lookup p.1=some a):rh sc env=pure (gO env sc.names []):=
 show (forIn sc.names [] _ >>= λx=>pure x)=_ from (agX (· >>= _)<|V7 (λ_ _=>ag0) h).trans<|pure_bind ..
theorem V9:∀{acc:List (Str×Addr)},(∀p∈acc,env.cells.lookup p.1=some p.2)->(∀p∈names,p.2= .free->∃a,env.cells.lookup p.1=some a)->
 (∀p∈gO env names acc,env.cells.lookup p.1=some p.2)/\((∃p∈acc,p.1=x)\/(x,.free)∈names->∃p∈gO env names acc,p.1=x):=by
 induction names with
 |nil=>exact λha _=>⟨ha,λh=>h.elim id nofun⟩
 |cons p r ih=>
  exact λ{acc} ha h=>aW (P:=λa=>(∀p∈gO env r a,env.cells.lookup p.1=some p.2)/\((∃p∈acc,p.1=x)\/(x,rg)∈p::r->∃p∈gO env r a,p.1=x))
   (λq=>(h p (.head _) q).elim λa e=>
    have z:=ih (acc:=(p.1,(env.cells.lookup p.1).getD 0)::acc) (λb hb=>(aO.mp hb).elim (λw=>w▸e.trans (agX some (agX (o7 · 0) e).symm))<|ha b) λb hb=>h b (.tail _ hb)
    ⟨z.1,λw=>z.2<|w.elim (λw=>.inl<|w.imp λb w=>⟨.tail _ w.1,w.2⟩) λw=>(aO.mp w).elim (λw=>.inl ⟨_,.head _,(agX lR w).symm⟩) .inr⟩)
   λq=>have z:=ih (acc:=acc) ha λb hb=>h b (.tail _ hb)
    ⟨z.1,λw=>z.2<|w.elim .inl λw=>(aO.mp w).elim (λw=>absurd (agX o0 w).symm q) .inr⟩
theorem n5{α:Type}{l:List (Str×α)}{p:Str×α}(e:x=p.1):(p::l).lookup x=some p.2:=by subst e;exact List.lookup_cons_self
theorem p9{α:Type}{l:List (Str×α)}{p:Str×α}(e:x≠p.1):(p::l).lookup x=l.lookup x:=List.lookup_cons.trans<|by rw [beq_eq_false_iff_ne.mpr e]
theorem V'{α:Type}{l:List (Str×α)}(h:∃p∈l,p.1=x):∃v,l.lookup x=some v/\(x,v)∈l:=by
 induction l with
 |nil=>exact h.elim λp w=>absurd w.1 du
 |cons q r ih=>exact (dz<|x=q.1).elim (λe=>⟨q.2,n5 e,e▸ .head _⟩) λn=>(ih<|h.imp λp w=>⟨(aO.mp w.1).elim (λe=>absurd (e▸w.2.symm) n) id,w.2⟩).imp λv w=>⟨(p9 n).trans w.1,.tail _ w.2⟩
theorem AW(e:vj o):o=some .local:=by
 rcases o with _|k
 ·exact nb e
 ·induction k with
  |«local»=>exact ag0
  |_=>exact nb e
theorem H6(e:Ah o):o=some .cell:=by
 rcases o with _|k
 ·exact nb e
 ·induction k with
  |cell=>exact ag0
  |_=>exact nb e
theorem H7{α:Type}{o:Option α}(e:Ai o):o=none:=by
 rcases o with _|_
 ·exact ag0
 ·exact nb e
theorem Wa{a b:Option Nat}(e:Gg a b):a=b:=by
 rcases a with _|n
 ·exact nb e
 ·rcases b with _|m
  ·exact nb e
  ·exact agX some<|jI e
theorem Wb:jZ (l.map (·.2))->(x,i)∈l->(y,i)∈l->x=y:=by
 induction l with
 |nil=>exact λ_=>nofun
 |cons p r ih=>
  exact λh h1 h2=>
   have no:∀{z:Str},p.2=i->(z,i)∈r->x=y:=λe hz=>nb ((nt<|al h).symm.trans<|tZ.mpr ⟨i,bB.mpr ⟨_,hz,ag0⟩,e▸qR _⟩)
   (aO.mp h1).elim (λe1=>(aO.mp h2).elim (λe2=>(agX lR (e1.trans e2.symm):x=y)) λe2=>no (agX o0 e1).symm e2)
    λe1=>(aO.mp h2).elim (λe2=>no (agX o0 e2).symm e1) λe2=>ih (ar h) e1 e2
theorem AX(h:vk σ):aP σ:=⟨H7 (al<|al h),H7 (ar<|al h),λ_ _ _ e1 e2=>Wb (ar h) (mem_lookup e1)<|mem_lookup e2⟩
theorem fold_max:∀{m:Nat},(m<=l.foldl (λm p=>max m<|p.2+1) m)/\((x,i)∈l->i<l.foldl (λm p=>max m<|p.2+1) m):=by
 induction l with
 |nil=>exact λ{m}=>⟨cf m,nofun⟩
 |cons p r ih=>exact λ{m}=>have w:=@ih (max m<|p.2+1);⟨ae (Nat.le_max_left ..) w.1,λh=>(aO.mp h).elim (λe=>bC (e▸bC (eV _) (Nat.le_max_right ..)) w.1) w.2⟩
theorem Wc(h:(x,i)∈σ.slots):i<cj σ:=fold_max.2 h
theorem vS{α:Type}{l:List α}{f:α->Bool}(h:l.all f){x:α}(hx:x∈l):f x:=bU.mp h x hx
structure gw(σ:Sc)(sc:cC)(t:aB):Prop where
 tg:my (cX σ sc (cj σ)) t=true
 fn:sc.kind= .function
 ok:aP (cX σ sc (cj σ))
 nm:∀p∈sc.names,An σ sc p=true
 sl:∀p∈(cX σ sc (cj σ)).kinds,Ao σ (cX σ sc (cj σ)) p=true
 tl:∀x∈Gs t,(cX σ sc (cj σ)).kinds.lookup x=some .local
theorem H8(h:Gu σ sc (cX σ sc<|cj σ) t):gw σ sc t:=
 have a:=al h;have b:=al a;have c:=al b
 ⟨al<|al c,eq_of_beq (ar<|al c),AX<|ar c,λ_=>vS<|ar b,λ_=>vS<|ar a,λ_ hx=>AW<|vS (ar h) hx⟩
theorem AY(h:An σ sc p):p.2≠ .cell/\(p.2= .local->sc.names.lookup p.1=some .local)/\(p.2= .free->σ.kinds.lookup p.1=some .cell/\∃i,σ.slots.lookup p.1=some i):=by
 obtain ⟨n,k⟩:=p
 induction k with
 |cell=>exact nb h
 |«local»=>exact ⟨nofun,λ_=>AW h,nofun⟩
 |free=>exact ⟨nofun,nofun,λ_=>⟨H6<|al h,oU.mp<|ar h⟩⟩
 |_=>exact ⟨nofun,nofun,nofun⟩
theorem gw.n6(f:gw σ sc t):∀x∈sc.names,x.2≠ .cell:=λp hp=>(AY<|f.nm p hp).1
theorem gw.loc(f:gw σ sc t):∀x∈sc.names,x.2= .local->sc.names.lookup x.1=some .local:=λp hp=>(AY<|f.nm p hp).2.1
theorem gw.free(f:gw σ sc t)(hp:p∈sc.names)(q:p.2= .free):σ.kinds.lookup p.1=some .cell/\∃i,σ.slots.lookup p.1=some i:=(AY<|f.nm p hp).2.2 q
theorem Wf{f g:Str×NameKind->Str×NameKind}(hf:∀p,(f p).1=p.1)(hg:∀p,(g p).1=p.1)(h:∀p,pU (f p).2<|some (g p).2):vy ((names.map f).lookup x) ((names.map g).lookup x):=by
 induction names with
 |nil=>exact λ_=>nn
 |cons p r ih=>
  refine λq w=>(dz<|x=p.1).elim (λe=> ?_) λn=> ?_
  ·exact eq2 (R:=λq o=>pU q o) (av<|(n5<|e.trans (hf p).symm).symm.trans w).symm (n5<|e.trans (hg p).symm)<|h p
  ·exact eq2 (R:=λq o=>pU q o) ag0 (p9 λe=>n (e.trans<|hg p)) (ih q<|(p9 λe=>n (e.trans<|hf p)).symm.trans w)
theorem H9:pU k (some k):=by
 induction k<;>first|exact rfl|exact .inl rfl|exact trivial
theorem Wg:vy ((names.map λp:Str×NameKind=>match p with|(n,k)=>if (k == .free&&b n)=true then (n,rj) else (n,k)).lookup x)
 ((names.map λp:Str×NameKind=>match p with|(n,k)=>if (k == rg&&c&&b' n)=true then (n,rj) else (n,k)).lookup x):=
 Wf (λp=>aW (P:=λq:Str×NameKind=>q.1=p.1) (λ_=>ag0) λ_=>ag0) (λp=>aW (P:=λq:Str×NameKind=>q.1=p.1) (λ_=>ag0) λ_=>ag0)
  λp=>by
   obtain ⟨n,k⟩:=p
   induction k with
   |free=>exact aW (P:=λq:Str×NameKind=>pU q.2<|some (if (rg == rg&&c&&b' n)=true then (n,rj) else (n,rg)).2) (λ_=>aW (P:=λq:Str×NameKind=>some q.2=some .cell\/some q.2=some .free) (λ_=>.inl ag0) λ_=>.inr ag0) λ_=>trivial
   |_=>exact H9
theorem Wh(nc:∀x∈names,x.2≠ .cell)(h:(x,rj)∈names.map λp:Str×NameKind=>match p with|(n,k)=>if (k == .free&&b n)=true then (n,rj) else (n,k)):(x,.free)∈names:=
 (bB.mp h).elim λp w=>aW (x:=(p.1,rj)) (y:=(p.1,p.2)) (P:=λq:Str×NameKind=>q=(x,.cell)->(x,.free)∈names) (λhb e=>have a:p.1=x:=agX lR e;have b:p.2= .free:=eq_of_beq<|al hb;(tK a b:p=(x,.free))▸w.1) (λ_ e=>absurd (agX o0 e)<|nc p w.1) w.2
theorem Wj(h:Ao σ σ' (x,.local))(e:σ'.slots.lookup x=some i):cj σ<=i:=by
 have h:(match σ'.slots.lookup x with
  |some i=>dD (cj σ) i
  |none=>true)=true:=h
 rw [e] at h;exact au h
variable{l:Loc}{Cc:Addr}
theorem gw.cl(f:gw σ sc t)(er:ER σ l ρ h env)(p)(hp:p∈sc.names)(q:p.2= .free):∃a,env.cells.lookup p.1=some a:=
 have z:=f.free hp q
 z.2.elim λi h2=>(er.iN p.1 i z.1 h2).imp λ_ h=>h.elim λ_ h=>h.1
theorem ER.comp(f:gw σ sc t)(er:ER σ l ρ h env)(hn:h.Ns Cc m)(nm:¬Mu ρ Cc):
 ER (cX σ sc<|cj σ) l ρ h (compEnvC sc (gO env sc.names []) Cc env):=
 ⟨f.fn,er.gl,er.bi,λx=>Wg (b:=λn=>σ.kinds.lookup n == some .cell) (b':=λn=>env.kindOf n == some .cell) (c:=env.scope.kind == .function),nm,⟨m,hn,λx i h1 h2 v hv=>(er.hi i v hv).elim λy hy=>absurd (Wc hy) (OQ<|Wj (f.sl _<|mem_lookup h1) h2)⟩,
  λx i h1 h2=>
   have hm:=Wh (b:=λn=>σ.kinds.lookup n == some .cell) f.n6<|mem_lookup h1;have z:=V9 (x:=x) (acc:=[]) (nofun) (f.cl er)
   (er.iN x i (f.free hm ag0).1<|(Wa (f.sl _<|mem_lookup h1)).symm.trans h2).imp λa r=>r.imp λvo r=>⟨(V' (z.2<|.inr hm)).elim λa' w=>w.1.trans<|agX some (av<|(z.1 _ w.2).symm.trans r.1),r.2⟩,
  λj v hj=>(er.hi j v hj).imp λx hx=>bp _ hx,nofun⟩
theorem Wk(f:gw σ sc t)(er:ER σ l ρ h env):rh sc env=pure (gO env sc.names []):=V8<|f.cl er
end
variable{is:List Nat}{l:Loc}{Qa:Loc->Hp->Prop}{p:Pos}{c:Cx}{n:Nat}{xs:Array Value}{o:Obj}{a:Addr}{v:Option Value}{acc:List V}{y x:Value}{u:V}{R:oN->ah->Prop}{iter:aB}
section
variable{X:Prop}{v:V}{l':Loc}{x:Str}
theorem sE(h:mw e=some x)(g:∀p,e= .Name x p->X):X:=
 (oI.k (k:=λx=>∃p,e= .Name x p) (by clear h g;rcases e<;>first|exact trivial|exact ⟨_,rfl⟩) h).elim g
theorem AZ(h:ji e=some es)(g:∀u p,e= .Tuple es u p->X):X:=
 (oI.k (k:=λes=>∃u p,e= .Tuple es u p) (by clear h g;rcases e<;>first|exact trivial|exact ⟨_,_,rfl⟩) h).elim λu w=>w.elim (g u)
theorem Ia(h:Ac σ e=some i)(g:∀x p,e= .Name x p->isVar σ x=some i->X):X:=ob h λx e w=>sE e λp q=>g x p q w
theorem Ib(h:fu σ (e::es)=some is)(g:∀x p i is',e= .Name x p->isVar σ x=some i->fu σ es=some is'->is=i::is'->X):X:=
 ob h λi e w=>(bF.mp w).elim λis' z=>Ia e λx p q q2=>g x p i is' q q2 z.1 z.2.symm
theorem Ic:∀{is:List Nat},fu σ es=some is->e∈es->(∀x p,e= .Name x p->X)->X:=by
 induction es with
 |nil=>exact λ_ he=>absurd he du
 |cons a es ih=>exact λh he g=>Ib h λx p i is' q _ h2 _=>(aO.mp he).elim (λz=>g x p<|z.trans q) λhe=>ih h2 he g
theorem A0(h:fu σ es=some is):es.all notStar:=bU.mpr λe he=>Ic h he λx p q=>q▸rfl
theorem Ie(h:my σ t)(g1:∀x p i,t= .Name x p->isVar σ x=some i->targets σ t= [i]->X)(g2:∀es u p is,t= .Tuple es u p->fu σ es=some is->2<=is.length->targets σ t=is->X):X:=
 (oU.mp h).elim λis e=>d6 (P:=λo=>o=some is->X)
  (λes q w=>AZ q λu p q=>ob w λjs q2 w=>ba (P:=λo=>o=some is->X) (λz w=>g2 es u p is q (q2.trans w) (av w▸au z)<|agX (o7 · []) e) (λ_=>nn) w)
  (λw=>(bF.mp w).elim λi w=>Ia w.1 λx p q q2=>g1 x p i q q2<|(agX (o7 · []) e).trans w.2.symm) e
theorem Wm:∀{i:Nat} {k:Loc->Prop},i<l.length->k (l.set i<|some v)->mo l i v k:=by
 induction l with
 |nil=>exact λh=>absurd h<|m8 _
 |cons x r ih=>
  intro i k h q;rcases i with _|i
  ·exact q
  ·exact ih (q6 h) q
theorem Ig(e:hO i v l=some l'){Qa:Loc->Prop}(q:Qa l'):mo l i v Qa:=have w:=dA.mp e
 Wm w.1 ((av w.2).symm▸q)
theorem Ih(hi:isVar σ x=some i)(e:mo l i v λl'=>Qa l' H):hV G C (cT σ<|.Name x p) v l H Qa:=
 (agX (λo=>hV G C (om o (.attr .bad 0) .loc) v l H Qa) hi).mpr e
theorem Wn(q:Qa l' H):∀{is:List Nat} {vs:List V} {l:Loc},fu σ es=some is->pP is vs l=some l'->vs.length=es.length/\jg G C (iL σ es) vs l H Qa:=by
 induction es with
 |nil=>
  intro is vs l h e;have h:=av h;subst h;rcases vs with _|⟨v,vs⟩
  ·exact ⟨ag0,av e▸q⟩
  ·exact nn e
 |cons a es ih=>
  intro is vs l h e;refine Ib h λx p i is' z1 z2 h2 z3=> ?_;subst z1 z3;rcases vs with _|⟨v,vs⟩
  ·exact nn e
  ·exact ob e λl1 e w=>have r:=ih h2 w
    ⟨agX (· + 1) r.1,Ih (Qa:=λl' h'=>jg G C (iL σ es) vs l' h' Qa) z2<|Ig (Qa:=λl'=>jg G C (iL σ es) vs l' H Qa) e r.2⟩
theorem A1{u:Nat}(h:es.all notStar):eM σ (.Tuple es u p)= .tup (iL σ es):=if_pos h
theorem Wo(h:2<=is.length):bindL is v l=(pN v).bind λvs=>pP is vs l:=by
 rcases is with _|⟨i,_|⟨j,r⟩⟩
 ·exact absurd h<|yB _
 ·exact absurd h<|m6 1
 ·rfl
theorem Ii(h:my σ t)(e:bindL (targets σ t) v l=some l')(q:Qa l' H):hV G C (eM σ t) v l H Qa:=
 Ie h (λx p i z z2 z3=>by
  subst z;exact Ih (p:=p) z2 (Ig (Qa:=λl'=>Qa l' H) ((agX (bindL · v l) z3).symm.trans e) q)) λes u p is z z2 z3 z4=>by
  subst z
  exact ob ((Wo z3).symm.trans<|(agX (bindL · v l) z4).symm.trans e) λvs ev w=>have r:=Wn (C:=C) (Qa:=Qa) q z2 w
   (agX (λt=>hV G C t _ l H Qa) (A1<|A0 z2)).mpr (oP.i ev ⟨r.1.trans (AS es).symm,r.2⟩)
end
section
variable{d:Nat}{P:Str->Prop}{W:Addr->Prop}
abbrev Ij(C:Calls)(rec:CE)(σ':Sc)(t:aB)(ifs:List aB)(elt:aB)(l:Loc):V->Hp->(Option V->Hp->Prop)->Prop:=vd (targets σ' t) l (λl' h2 K=>jf G C (aU rec σ' ifs) l' h2 K) λl' h2 K=>aH G C (rec σ' elt) l' h2 K
theorem Ik{X:Addr->Prop}(l:IsL h D xs n)(k:Kp X ρ ρ' h h')(n1:¬X D)(n2:¬Mu ρ D):IsL h' D xs n:=k.keep _ _ l n2 n1
theorem ER.vT{X:Addr->Prop}(e:ER σ l ρ h env)(k:Kp X ρ ρ' h h')(nx:eX X h)(x1:¬X env.locals)(x2:∀b o v,X b->h.get? b=some o->o.data≠ .cell v):ER σ l ρ' h' env:=
 e.loc.elim λm r=>⟨e.fn,e.gl,e.bi,e.kind,(Ns.kp k r.1 e.mu x1).2,⟨m,(Ns.kp k r.1 e.mu x1).1,λx i a b=>(r.2 x i a b).kp k nx⟩,
  λx i a b=>(e.iN x i a b).imp λc r=>r.imp λvo r=>r.2.1.elim λo w=>have z:=IsCell.kp k r.2.1 r.2.2.1 λq=>x2 c o vo q w.1 w.2;⟨r.1,z.1,z.2,r.2.2.2.kp k nx⟩,e.hi,e.cd⟩
theorem get_eq{o':Obj}{d:Data}(e:h.get? a=some o)(e':h.get? a=some o')(hd:o'.data=d):o.data=d:=(agX Ou (av<|e.symm.trans e')).trans hd
theorem dm.n6(r:dm ρ h iv i I)(e:h.get? I=some o)(w:o.data= .cell v):False:=by
 induction iv with
 |vals vs=>exact r.elim λt r=>r.elim λxs r=>r.1.elim λo' r=>nomatch (get_eq e r.1 r.2.2).symm.trans w
 |lst a=>exact r.elim λp r=>r.2.elim λo' r=>nomatch (get_eq e r.1 r.2.2).symm.trans w
 |aN lo n=>exact nomatch (get_eq e r.2.2 ag0).symm.trans w
theorem Il(n:h.Ns a m)(e:h.get? a=some o)(w:o.data= .cell v):False:=
 n.elim λo' r=>r.elim λes r=>r.elim λep r=>nomatch (get_eq e r.1 r.2.1).symm.trans w
structure CK where
 (c:Cx) (σ:Sc) (l:Loc) (env:Env) (iv:IV) (I D Cc:Addr) (fv:aK) (s0:ah) (C:Calls) (rc:CE) (sc:cC) (t elt:aB) (ifs:List aB) (Qa:bA) (A:bj)
def CK.to(k:CK):Sc:=cX k.σ k.sc<|cj k.σ
def CK.en(k:CK):Env:=compEnvC k.sc (gO k.env k.sc.names []) k.Cc k.env
noncomputable abbrev CK.tr(k:CK):V->Hp->(Option V->Hp->Prop)->Prop:=Ij k.C k.rc k.to k.t k.ifs k.elt k.l
def CK.X(k:CK)(b:Addr):Prop:=b=k.I\/b=k.D\/b=k.Cc
structure CK.Ok(d:Nat)(k:CK):Prop where
 ID:k.I≠k.D
 IC:k.I≠k.Cc
 DC:k.D≠k.Cc
 d0:k.s0.heap.get? k.D=none
 lI:k.env.locals≠k.I
 lD:k.env.locals≠k.D
 lC:k.env.locals≠k.Cc
 f:gw k.σ k.sc k.t
 tg:TG k.c d k.C k.to (λx=>k.to.kinds.lookup x=some .local) (· = k.Cc) k.t (eM k.to k.t)
 hi:∀e∈k.ifs,SB k.c d k.C k.to e (k.rc k.to e)
 he:SE k.c d k.C k.to k.elt (k.rc k.to k.elt)
 ro:Ro d k.A
def DL(D:Addr)(ρ:aK)(s:ah)(acc:List V):Prop:=∃ys en,IsL s.heap D ys.toArray en/\aA ρ s.heap acc ys
structure CJ(k:CK)(acc:List V)(H:Hp)(ρ:aK)(s:ah):Prop where
 ax:Ax k.X k.c k.fv k.s0 ρ H s
 dl:DL k.D ρ s acc
 er:ER k.σ k.l ρ s.heap k.env
 ns:∃m,s.heap.Ns k.Cc m
 fe:FE k.c ρ s.heap k.X
def eQ(k:CK)(i:Nat)(acc:List V)(H:Hp)(ρ:aK)(s:ah):Prop:=CJ k acc H ρ s/\dm ρ s.heap k.iv i k.I
section
variable{k:CK}{X:Addr->Prop}
theorem DL.on(r:DL k.D ρ s acc)(a:Ax X k.c ρ s ρ' H' s')(fe:FE k.c ρ s.heap k.X)(n:eX X s.heap)(hX:¬X k.D):DL k.D ρ' s' acc:=
 r.elim λys w=>w.elim λen w=>⟨ys,en,Ik w.1 a.k hX<|fe.mu (.inr<|.inl ag0),aA.kp a.k n w.2⟩
theorem A2(r:∃m,s.heap.Ns k.Cc m)(a:Ax X k.c ρ s ρ' H' s')(fe:FE k.c ρ s.heap k.X)(hX:¬X k.Cc):∃m,s'.heap.Ns k.Cc m:=r.elim λm hn=>⟨m,(Ns.kp a.k hn (fe.mu (.inr<|.inr ag0)) hX).1⟩
theorem CJ.on(r:CJ k acc H ρ s)(a:Ax X k.c ρ s ρ' H' s')(i:∀b,X b->k.X b)(n:eX X s.heap)(e:ER k.σ k.l ρ' s'.heap k.env)(hD:¬X k.D)(ns:∃m,s'.heap.Ns k.Cc m):CJ k acc H' ρ' s':=
 ⟨r.ax.trans<|a.weak λb o _ q=>i b q,r.dl.on a r.fe n hD,e,ns,r.fe.kp a.k⟩
theorem eQ.af(r:eQ k i acc H ρ s)(a:Af k.c ρ s ρ' H' s'):eQ k i acc H' ρ' s':=
 ⟨r.1.on (X:=dX) a.ax (λ_ q=>q.elim) (hW _) (r.1.er.on a.k) id<|A2 (X:=dX) r.1.ns a.ax r.1.fe id,r.2.kp a.k (hW _) id (r.1.fe.mu<|.inl ag0)⟩
theorem eQ.step(K:k.Ok d)(r:eQ k i acc H ρ s)(a:Ax (· = k.I) k.c ρ s ρ' H' s'):CJ k acc H' ρ' s':=
 have f:eX (· = k.I) s.heap:=(r.1.fe.mono λb hb=>.inl hb).noSeq
 r.1.on a (λb q=>.inl q) f (r.1.er.vT a.k f K.lI λb o v q eb=>r.2.n6<|(show b=k.I from q)▸eb) (λq=>K.ID q.symm) (A2 r.1.ns a r.1.fe λq=>K.IC q.symm)
theorem eQ.Wq(K:k.Ok d)(r:eQ k i acc H ρ s)(a:Ax (· = k.Cc) k.c ρ s ρ' H' s')(ns:∃m,s'.heap.Ns k.Cc m):eQ k i acc H' ρ' s':=
 have f:eX (· = k.Cc) s.heap:=(r.1.fe.mono λb hb=>.inr<|.inr hb).noSeq
 ⟨r.1.on a (λb q=>.inr<|.inr q) f (r.1.er.vT a.k f K.lC λb o v q eb=>r.1.ns.elim λm hn=>Il hn<|(show b=k.Cc from q)▸eb) K.DC ns,r.2.kp a.k f K.IC (r.1.fe.mu<|.inl ag0)⟩
theorem DL.app(r:DL k.D ρ s acc)(h:HR k.c.w k.c.hb ρ H s.heap)(f:FE k.c ρ s.heap (· = k.D))(hl:acc.length<=lim)(ry:VR ρ s.heap u y)(g:∀s',Ax (· = k.D) k.c ρ s ρ H s'->DL k.D ρ s' (acc++ [u])->Q .none s'):ao (Md k.c) A (call (.builtin "list.append") [.ref k.D,y]) Q E' s:=
 r.elim λys w=>w.elim λen w=>by have hL:=w.1;refine qU N' hL.isList.typeIs Oa (Ob _ _) (Oc k.D ys.toArray en y (ae (aF<|fg ..)<|w.2.len▸mE hl)) ⟨hL, ?_⟩;have h5:=(DZ .. : ys.toArray.push y=(ys++ [y]).toArray)▸hL.update (λx_1=>x_1.push y);have a:Ax (· = k.D) k.c ρ s ρ H {s with heap:=s.heap.update k.D<|ja λx_1=>x_1.push y}:=sB (tk:=s.toks) h f ag0 ⟨_,h5,gN rfl<|by decide⟩ (jG _ _ _).extBut;exact g _ a ⟨_,_,h5,(w.2.append<|show aA ρ s.heap [u] [y] from ⟨ry,ag0⟩).ax a f⟩
theorem DL.n6(r:DL k.D ρ s acc)(e:s.heap.get? k.D=some o)(w:o.data= .cell v):False:=r.elim λys r=>r.elim λn r=>nomatch (get_eq e r.1 ag0).symm.trans w
theorem eQ.app(K:k.Ok d)(r:eQ k i acc H ρ s)(hl:acc.length<=lim)(ry:VR ρ s.heap u y)(g:∀s',eQ k i (acc++ [u]) H ρ s'->Q .none s'):ao (Md k.c) A (call (.builtin "list.append") [.ref k.D,y]) Q E' s:=
 have f:FE k.c ρ s.heap (· = k.D):=r.1.fe.mono λb hb=>.inr<|.inl hb
 r.1.dl.app r.1.ax.r f hl ry λs' a dl=>g s' ⟨⟨r.1.ax.trans (a.weak λb o _ q=>.inr<|.inl q),dl,r.1.er.vT a.k f.noSeq K.lD λb o v q eb=>r.1.dl.n6<|(show b=k.D from q)▸eb,A2 r.1.ns a r.1.fe λq=>K.DC q.symm,r.1.fe.kp a.k⟩,r.2.kp a.k f.noSeq K.ID (r.1.fe.mu<|.inl ag0)⟩
end
theorem CJ.fin{k:CK}(K:k.Ok d)(r:CJ k acc H ρ s)(g:acc.length<=lim):
 Ax k.X k.c k.fv k.s0 (ρ++ [(k.D,k.D)]) (H++ [.list acc]) s/\VR (ρ++ [(k.D,k.D)]) s.heap (.ref H.length) (.ref k.D)/\FE k.c (ρ++ [(k.D,k.D)]) s.heap (· = k.Cc):=
 r.dl.elim λys w=>w.elim λen w=>
  have z:=r.fe k.D (.inr<|.inl ag0);have a:=adopt r.ax.r w.1 w.2 g z.1 z.2.1
  ⟨⟨a.1,r.ax.k.adopt K.d0,r.ax.g,r.ax.o⟩,a.2.2,λb hb=>
   have z:=r.fe b (.inr<|.inr hb)
   ⟨z.1,λp hp=>(b9.mp hp).elim (z.2.1 p) λq=>cr.mp q▸(hb:b=k.Cc)▸⟨K.DC,K.DC⟩,z.2.2⟩⟩
def sF(k:CK)(n:Nat)(s:ah):Prop:=∃i acc H ρ,iK k.iv k.tr (jW k.Qa) n i acc H/\acc.length<=i/\eQ k i acc H ρ s
def vU(k:CK)(n:Nat)(s:ah):Prop:=∃m,m<n/\sF k m s
section
variable{k:CK}{E:Value->ah->Prop}{v:V}
def CK.wp(k:CK){α:Type}(m:Sem α)(Q:α->ah->Prop)(E:Value->ah->Prop):ah->Prop:=ao (Md k.c) k.A m Q E
def Ws(k:CK)(n:Nat)(E:Value->ah->Prop)(x:Value):ah->Prop:=k.wp (call (.builtin "list.append") [.ref k.D,x]) (λ_=>vU k n) E
def Im(k:CK)(n:Nat)(E:Value->ah->Prop)(ok:Bool):ah->Prop:=λs=>cond ok (k.wp (eval k.elt k.en) (Ws k n E) E s)<|vU k n s
def Wu(k:CK)(n:Nat)(E:Value->ah->Prop)(_:Unit):ah->Prop:=k.wp (forIn k.ifs true<|vR k.en) (Im k n E) E
def Io(k:CK)(n:Nat)(E:Value->ah->Prop)(v:Value)(_:Unit):ah->Prop:=k.wp (kE k.t k.en v) (Wu k n E) E
def Wv(k:CK)(n:Nat)(R:oN->ah->Prop)(E:Value->ah->Prop)(r:Option Value)(s:ah):Prop:=match r with
 |none=>R (.ok .next) s
 |some v=>k.wp (D8 k.t (.ref k.I) v) (Io k n E v) E s
def CK.nE(k:CK)(R:oN->ah->Prop):Value->ah->Prop:=notedBy (Md k.c) k.A k.en λe s'=>R (.error e) s'
theorem Ww(turn:∀n s,sF k n s->k.wp (lV<|.ref k.I) (Wv k n R<|k.nE R) (k.nE R) s)(n:Nat)(h:sF k n s):oO (Md k.c) k.A (.compLoop (.ListComp k.elt [⟨k.t,iter,k.ifs,0⟩] k.sc pos) 0 (.ref k.I) (.ref k.D) k.en) R s:=by
 refine codeAny_loop rfl (λn=>sF k n) (λn s hI=> ?_) n h;show ao _ _ ((compTurn (.ListComp k.elt [⟨k.t,iter,k.ifs,0⟩] k.sc pos) 0 (.ref k.I) (.ref k.D) k.en).onRaise (λx=>do noteFrame x k.en;theTreesLotGoes x)) _ _ s;refine wpAny_noted ?_;rw [compTurn_list];have f:∀{x s},k.nE R x s->k.nE R x s:=id;refine aj (jC (aj (gh (turn n s hI) (λr s₁ h₁=> ?_) λ_ _=>f)));rcases r with _|v
 ·exact aE h₁
 ·refine aj (gh h₁ (λ_ s₀ h₀=> ?_) λ_ _=>f);refine aj (gh h₀ (λ_ s₂ h₂=>aj (gh h₂ (λok s₃ h₃=> ?_) λ_ _=>f)) λ_ _=>f);rcases ok with _|_
  ·exact aE ⟨ag0,h₃⟩
  ·exact aj (aj<|gh h₃ (λx s₄ h₄=>aj<|gh h₄ (λ_ s₅ h₅=>aE<|aE ⟨ag0,h₅⟩) λ_ _=>f) λ_ _=>f)
theorem vU.mk(i:Nat)(w:iK k.iv k.tr (jW k.Qa) n i acc H)(l:acc.length<=i)(h:eQ k i acc H ρ s):vU k (n+1) s:=⟨n,eV n,i,acc,H,ρ,w,l,h⟩
theorem Wx(K:k.Ok d)(le:acc.length<=i)(lt:i<lim)(h:eQ k (i+1) acc H ρ s)(er:ER k.to l ρ s.heap k.en)(w:aH G k.C (k.rc k.to k.elt) l H λx h4=>iK k.iv k.tr (jW k.Qa) n (i+1) (acc++ [x]) h4):Im k (n+1) E true s:=
 K.he k.A _ l H ρ s _ _ _ K.ro er h.1.ax.r w λu y H4 ρ4 s4 q4 a4 r4=>(h.af a4).app K (ae le<|cV lt) r4 λs5 h5=>.mk (i+1) q4 (aX▸i9 le) h5
theorem Wy(K:k.Ok d)(le:acc.length<=i)(lt:i<lim)(h:eQ k (i+1) acc H ρ s)(rx:VR ρ s.heap v x)(w:k.tr v H λr h'=>oE r (iK k.iv k.tr (jW k.Qa) n (i+1) acc h') λx=>iK k.iv k.tr (jW k.Qa) n (i+1) (acc++ [x]) h'):Io k (n+1) E x () s:=
 oP.k w λl' hb w=>h.1.ns.elim λm1 hn1=>K.tg k.A _ k.l H ρ s v x (λl1 h1=>l1=l'/\h1=H) _ _ K.ro (ER.comp K.f h.1.er hn1<|h.1.fe.mu (.inr<|.inr ag0)) ⟨ag0,h.1.fe.mono λb hb=>.inr<|.inr hb,λy py hc=>nomatch py.symm.trans hc⟩ h.1.ax.r rx (Ii K.f.tg hb ⟨ag0,ag0⟩) λl2 H2 ρ2 s2 q2 a2 ec2=>by
  have z1:=q2.1;have z2:=q2.2;subst z1 z2;refine V5 (rec:=k.rc) K.hi k.A _ l2 H2 ρ2 s2 _ _ _ K.ro ec2 a2.r w λb H3 ρ3 s3 q3 a3=> ?_;have h3:=(h.Wq K a2 (ec2.loc.elim λm2 w=>⟨m2,w.1⟩)).af a3;rcases b with _|_
  ·exact .mk (i+1) q3 (kD le) h3
  ·exact Wx K le lt h3 (ec2.on a3.k) q3
theorem Wz(K:k.Ok d)(hR:∀v H' ρ' s',k.Qa v H'->Ax k.X k.c k.fv k.s0 ρ' H' s'->VR ρ' s'.heap v (.ref k.D)->(∃m,s'.heap.Ns k.Cc m)->FE k.c ρ' s'.heap (· = k.Cc)->R (.ok .next) s')(w:sF k n s):oO (Md k.c) k.A (.compLoop (.ListComp k.elt [⟨k.t,iter,k.ifs,0⟩] k.sc pos) 0 (.ref k.I) (.ref k.D) k.en) R s:=
 Ww (λn s e=>e.elim λi e=>e.elim λacc e=>e.elim λH e=>e.elim λρ e=>by
  have h:=e.2.2;rcases n with _|n
  ·exact e.1.elim
  refine oP.k e.1 λr er w=>HY (X:=(· = k.I)) K.ro.1 h.1.ax.r h.2 (h.1.fe.mono λb hb=>.inl hb) ag0 er (λz s1 a1=> ?_) λv x s1 z a1 r1 iP=> ?_
  ·subst z;have h1:=h.step K a1;exact oP.k w λp ep w=>pX ep λg z1 z2=>by have z:=h1.fin K g;exact hR _ _ _ _ w (eq2 (R:=λv H=>Ax k.X k.c k.fv k.s0 (ρ++ [(k.D,k.D)]) H s1) z1 z2 z.1) (z1▸z.2.1) h1.ns z.2.2
  ·subst z;exact HX iP (Wy K e.2.1 (h.2.lt h.1.ax.r er) ⟨h.step K a1,iP⟩ r1 w)) n w
end
end
variable{d:Nat}{k:CK}{use:Option (Value->Sem Unit)}{it:It}{Qa:bA}{H2:Hp}
section
variable{b:Addr}
theorem Ns.HW(n:h.Ns a m)(e:h.get? a=some o):db o:=λ_ xs k w=>n.elim λo' r=>r.elim λes r=>r.elim λep r=>nomatch (get_eq e r.1 r.2.1).symm.trans w
theorem eY(e:∃o,h.get? a=some o)(n:h.get? b=none):a≠b:=λq=>e.elim λo e=>cQ n<|q▸e
theorem Ns.live(n:h.Ns a m):∃o,h.get? a=some o:=n.imp λo r=>r.elim λes r=>r.elim λep r=>r.1
theorem Af.at(x:Af c ρ s ρ' H' s')(e:∃o,s.heap.get? a=some o):∃o,s'.heap.get? a=some o:=e.elim λo e=>(x.k.live a o e).imp λ_=>tW
def A3(c:Cx)(ρ:aK)(s:ah)(A:bj)(E':Value->ah->Prop)(use:Option (Value->Sem Unit))(Q:Value->ah->Prop)(Qa:bA):Prop:=
 ∀v D Cc m H' ρ' s',Qa v H'->Af c ρ s ρ' H' s'->VR ρ' s'.heap v (.ref D)->s'.heap.Ns Cc m->FE c ρ' s'.heap (· = Cc)->s.heap.get? Cc=none->yC (Md c) A E' use Q (.ref D) Cc (.ok .next) s'
section
variable{s2 s3 s4:ah}
theorem eQ.start(er:ER k.σ k.l k.fv k.s0.heap k.env)(a1:Af k.c k.fv k.s0 ρ H s2)(it:dm ρ s2.heap k.iv 0 k.I)(feI:FE k.c ρ s2.heap (· = k.I))(a2:Af k.c ρ s2 ρ H s3)(gD:IsL s3.heap k.D ([]:List Value).toArray 0)(feD:FE k.c ρ s3.heap (· = k.D))(a3:Af k.c ρ s3 ρ H s4)(nC:s3.heap.get? k.Cc=none)(hn:s4.heap.Ns k.Cc m):eQ k 0 [] H ρ s4:=
 have feI:=feI.kp a2.k
 ⟨⟨((a1.trans a2).trans a3).ax,⟨[],0,Ik gD a3.k id<|feD.mu ag0,ag0⟩,er.on ((a1.trans a2).trans a3).k,⟨m,hn⟩,λb hb=>hb.elim (feI.kp a3.k b) λhb=>hb.elim (feD.kp a3.k b) λhb=>
  ⟨a2.r.fresh<|(hb:b=k.Cc)▸nC,λp hp=>⟨eY (a2.r.alive hp).1<|(hb:b=k.Cc)▸nC,eY (a2.r.alive hp).2<|(hb:b=k.Cc)▸nC⟩,(Ns.live hn).imp λo e=>⟨(hb:b=k.Cc)▸e,Ns.HW hn e⟩⟩⟩,
  dm.kp (dm.kp it a2.k (hW _) id λq=>q.elim λp q=>(feI k.I ag0).2.1 p q.1 |>.2 q.2) a3.k (hW _) id (feI.mu ag0)⟩
theorem WA(K:k.Ok d)(fI:k.s0.heap.get? k.I=none)(nC:k.s0.heap.get? k.Cc=none)(ci:eQ k 0 [] H ρ s4)(w:iK k.iv k.tr (jW k.Qa) n 0 [] H)(hF:A3 k.c k.fv k.s0 k.A E' use Q k.Qa):
 oO (Md k.c) k.A (.compStart (.ListComp k.elt [⟨k.t,iter,k.ifs,0⟩] k.sc pos) 0 (.ref k.I) (.ref k.D) k.en) (yC (Md k.c) k.A E' use Q (.ref k.D) k.Cc) s4:=
 have loop:=Wz (iter:=iter) (pos:=pos) (R:=yC (Md k.c) k.A E' use Q (.ref k.D) k.Cc) K (λv H' ρ' s' q ax vr hm fe=>hm.elim λm hm=>hF v _ _ m H' ρ' s' q (ax.af λb hb=>hb.elim (λz=>z▸fI) λhb=>hb.elim (λz=>z▸K.d0) λz=>z▸nC) vr hm fe nC) ⟨0,[],H,ρ,w,cf _,ci⟩
 codeAny_compStart_list loop (V3 ci.2 loop)
end
variable{elt:aB}{pos':Pos}
def sG(c:Cx)(d:Nat)(C:Calls)(σ:Sc)(rec:CE)(sc:cC)(t elt:aB)(ifs:List aB):Prop:=gw σ sc t/\
 (∀W,TG c d C (cX σ sc<|cj σ) (λx=>(cX σ sc<|cj σ).kinds.lookup x=some .local) W t<|eM (cX σ sc<|cj σ) t)/\
 (∀e∈ifs,SB c d C (cX σ sc<|cj σ) e<|rec (cX σ sc<|cj σ) e)/\SE c d C (cX σ sc<|cj σ) elt (rec (cX σ sc<|cj σ) elt)
noncomputable abbrev A6(σ:Sc)(rec:CE)(sc:cC)(t elt:aB)(ifs:List aB)(it:It):E:=.comp (targets (cX σ sc<|cj σ) t) it (aU rec (cX σ sc<|cj σ) ifs)<|rec (cX σ sc<|cj σ) elt
theorem WB{ρ2:aK}{s2 s3:ah}(f:sG c d C σ rec sc t elt ifs)(ro:Ro d A)(er:ER σ l ρ s.heap env)(a1:Af c ρ s ρ2 H2 s2)(iP:dm ρ2 s2.heap iv 0 I)(fI:s.heap.get? I=none)(feI:FE c ρ2 s2.heap (· = I))(nD:s2.heap.get? D=none)(a2:Af c ρ2 s2 ρ2 H2 s3)(gD:IsL s3.heap D ([]:List Value).toArray 0)(feD:FE c ρ2 s3.heap (· = D))(w:iK iv (Ij C rec (cX σ sc<|cj σ) t ifs elt l) (jW Qa) n 0 [] H2)(hF:A3 c ρ s A E' use Q Qa):
 ao (Md c) A (newFunctionEnv sc env.globals (gO env sc.names []) [] env.qual none .none<|some env) (λcenv s₄=>
  oO (Md c) A (.compStart (.ListComp elt [⟨t,iter,ifs,0⟩] sc pos) 0 (.ref I) (.ref D) {cenv with scope:=relabel sc env}) (yC (Md c) A E' use Q (.ref D) cenv.locals) s₄) E' s3:=
 wpAny_newFunctionEnv f.1.n6 (λx h=>absurd h du) (λh4 hn4 sb4=>
  have a3:=jm a2.r λb x e=>(sb4.2 b (lP<|yx e)).trans<|dG _ e;have nC:=eO s3.heap;have e0:=er.loc.elim λm r=>Ns.live r.1;have eI:=iP.cls.imp λo e=>e.1;have nC0:=(a1.trans a2).ab nC
  WA (d:=d) (k:=⟨c,σ,l,env,iv,I,D,s3.heap.objs.size,ρ,s,C,rec,sc,t,elt,ifs,Qa,A⟩) ⟨eY eI nD,eY (a2.at eI) nC,eY ⟨_,gD⟩ nC,a1.ab nD,eY e0 fI,eY e0<|a1.ab nD,eY e0 nC0,f.1,f.2.1 _,f.2.2.1,f.2.2.2,ro⟩ fI nC0
   (eQ.start er a1 iP feI a2 gD feD a3 nC hn4) w hF) f.1.fn
theorem Ip(f:sG c d C σ rec sc t elt ifs)(xi:SI c d C σ iter it)(hs:∀x,ug iter env x=pure x)(ro:Ro d A)(er:ER σ l ρ s.heap env)(hr:HR c.w c.hb ρ H s.heap)(w:aH G C (A6 σ rec sc t elt ifs it) l H Qa)(hF:A3 c ρ s A E' use Q Qa):
 ao (Md c) A (OS (.ListComp elt [⟨t,iter,ifs,0⟩] sc pos) sc env pos' (yD []) false (eval iter env) use) Q E' s:=
 wpAny_comprehension_free (cl:=gO env sc.names []) ag0 hs (Wk f.1 er) f.1.fn f.1.loc (xi A env l H ρ s _ _ E' ro er hr w λiv I H2 ρ2 s2 q2 a1 iP fI feI=>q2.elim λn q2=>yE (
  have p:=sD (T:="list") (dt:=.seq ([]:List Value).toArray 0) a1.r ag0 (by decide)
  WB f ro er a1 iP fI feI (eO _) p.1 p.2.1 p.2.2 q2 hF) (bq _))
theorem Iq(f:sG c d C σ rec sc t elt ifs)(xi:SI c d C σ iter it)(hs:∀env x,ug iter env x=pure x):SE c d C σ (.ListComp elt [⟨t,iter,ifs,0⟩] sc pos) (A6 σ rec sc t elt ifs it):=λA env l H ρ s Qa Q E' ro er hr w k=>
 cZ (eval_ListComp ..) (Ip (use:=none) f xi (hs env) ro er hr w λv D Cc m H' ρ' s' q a vr hn fe nC=>⟨m,hn,λh' sb=>k _ _ _ _ _ q (jp a nC fe sb)<|VR.jp fe sb vr⟩)
end
variable{X:Prop}{i:Int}{o:Option aB}{ks:List (Option aB)}{vs:List aB}
section
variable{P:Str->Prop}{W:Addr->Prop}
theorem vV{α:Type}{a:Option α}{r:List (Option α)}{l:List α}(e:jh (a::r)=some l)(k:∀x l',a=some x->jh r=some l'->l=x::l'->X):X:=by
 rcases a with _|x
 ·exact nn e
 ·exact (bF.mp e).elim λl' h=>k x l' ag0 h.1 h.2.symm
theorem vW(e:constInt o=some i)(k:∀u p,o=some (.Constant (.int i) u p)->X):X:=
 (oI.k (k:=λi=>∃u p,o=some (.Constant (.int i) u p)) (by
  clear e k;rcases o with _|e
  ·exact trivial
  ·rcases e<;>first|exact trivial|(rename_i v _ _;rcases v<;>first|exact trivial|exact ⟨_,_,rfl⟩)) e).elim λu w=>w.elim (k u)
theorem WC:∀{vs:List aB} {is js:List Int} {s:ah} {Q:List (Value×Value)->ah->Prop},
 jh (ks.map constInt)=some is->jh (vs.map λv=>constInt<|some v)=some js->is.length=vs.length->
 (∀(ps:List (Value×Value)) (kvs:List (Int×Value)) tk,Carries (kq pw c.w) ps kvs->(∀ρ h,PR ρ h (is.zip<|js.map V.int) kvs)->Q ps {s with toks:=tk})->ao (Md c) A (evalPairs<|pairTrees ks vs env pos) Q E' s:=by
 induction ks with
 |nil=>
  intro vs is js s Q h1 h2 h3 k;have h1:=av h1;subst h1;rcases vs with _|⟨v,vs⟩
  ·exact pairTrees_nil_walk<|k [] [] s.toks trivial λρ h=>ag0
  ·exact absurd h3<|D9 _
 |cons kk ks ih=>
  intro vs is js s Q h1 h2 h3 k;refine vV h1 λi is' e1 e2 e=> ?_;subst e;rcases vs with _|⟨v,vs⟩
  ·exact absurd h3.symm<|D9 _
  ·refine vV h2 λj js' e3 e4 e=> ?_;subst e;refine vW e1 λu p e=>vW e3 λu2 p2 e5=> ?_;have e5:=av e5;subst e e5
   exact pairTrees_cons_walk (xX (xX (ih e2 e4 (qX h3) λps kvs tk hc hp=>
    k ((.int i s.toks,.int j<|s.toks+1)::ps) ((i,.int j<|s.toks+1)::kvs) tk ⟨agZ ag0,ag0,hc⟩ λρ h=>⟨ag0,fz _ _,hp ρ h⟩)))
theorem WD(hrec:∀i u p,rec σ (.Constant (.int i) u p)= .cst (.int i)):∀{js:List Int} {Q:List V->Hp->Prop},jh (vs.map λv=>constInt<|some v)=some js->cM G C (aU rec σ vs) l H Q->Q (js.map V.int) H:=by
 induction vs with
 |nil=>intro js Q h w;have h:=av h;subst h;exact w
 |cons v vs ih=>intro js Q h w;refine vV h λj js' e3 e4 e=>vW e3 λu2 p2 e5=> ?_;have e5:=av e5;subst e e5;exact ih (Q:=λvs h=>Q (V.int j::vs) h) e4<|(agX (λe=>aH G C e l H λv h1=>cM G C (aU rec σ vs) l h1 λvs h2=>Q (v::vs) h2)<|hrec j u2 p2).mp w
theorem WE:∀{is:List Int},jh (ks.map constInt)=some is->ks.length=is.length/\ks.all (·.isSome):=by
 induction ks with
 |nil=>exact λh=>⟨agX cu<|av h,ag0⟩
 |cons a ks ih=>exact λh=>vV h λi is' e1 e2 e=>vW e1 λu p q=>⟨(agX (· + 1) (ih e2).1).trans (agX cu e).symm,q▸(ih e2).2⟩
theorem Ir{is js:List Int}(hrec:∀i u p,rec σ (.Constant (.int i) u p)= .cst (.int i))(h1:jh (ks.map constInt)=some is)(h2:jh (vs.map λv=>constInt<|some v)=some js)(h3:is.length=vs.length):SE c d C σ (.Dict ks vs pos) (.prim (.dict is)<|aU rec σ vs):=λA env l H ρ s Qa Q E' ro er hr w k=>
 oP.k (WD hrec h2 w) λp e w=>by
  have z:=dA.mp e;have e:=av z.2;subst e
  have fin:∀{hp:Heap} {tk:Nat} {kvs:List (Int×Value)},hp.DictOf (kq pw c.w) s.heap.objs.size kvs->(∀b x,s.heap.get? b=some x->hp.get? b=some x)->(∀ρ h,PR ρ h (is.zip<|js.map V.int) kvs)->Q (.ref s.heap.objs.size) {s with heap:=hp,toks:=tk}:=λhd hk pr=>
   have a:=hr.add (p:=(s.heap.objs.size,s.heap.objs.size)) (o:=.dict (is.zip<|js.map V.int)) hk (eO _) (eO _) ⟨ag0,_,hd,pr _ _⟩
   k _ _ _ _ _ w ⟨a.1,a.2,ag0,ag0⟩ ⟨_,r8 hr _,ag0⟩
  rcases ks with _|⟨kk,ks⟩
  ·have h1:=av h1;subst h1;rcases vs with _|⟨v,vs⟩
   ·exact wpAny_Dict_empty<|fin (tk:=s.toks) (Heap.DictOf.new _) (λb x e=>dG _ e) λρ h=>ag0
   ·exact absurd h3<|D9 _
  ·have l:=WE h1;refine wpAny_Dict_walk (knd:=kq pw c.w) l.2 (l.1.trans h3) (List.cons_ne_nil _ _) (l.1▸ae z.1.2.2 (by decide)) ?_;refine WC (c:=c) h1 h2 h3 λps kvs tk hc hp=>⟨kvs,hc,Heap.DictOf.new _,λh' hd sb=> ?_⟩;have nd:(kvs.map (·.1)).Nodup:=((tL<|aF z.1.1).symm.trans (hp [] s.heap).keys:is=kvs.map (·.1))▸z.1.2.1;exact fin (merged_nil_of_nodup _ nd▸hd) (λb x e=>(sb.2 b (lP<|yx e)).trans<|dG _ e) hp
end
variable{lt:Nat->Nat->Bool}{cmp:Nat->Nat->(Bool->ah->Prop)->ah->Prop}{p:Array Nat}{i j l a b r:Nat}{Q:Nat×Array Nat->ah->Prop}
section
structure Ord(n:Nat)(lt:Nat->Nat->Bool):Prop where
 tr:∀a b c,lt a b=true->lt b c=true->lt a c=true
 as:∀a b,lt a b=true->lt b a=false
 A7:∀a b,a<n->b<n->a≠b->lt a b=true\/lt b a=true
abbrev bW(p:Array Nat)(i:Nat):Nat:=p.getD i 0
def Pm(n:Nat)(p:Array Nat):Prop:=p.Perm (oQ<|aT n)
def Up(lt:Nat->Nat->Bool)(p:Array Nat)(k:Nat):Prop:=∀i j,i<j->j<k->lt (bW p i) (bW p j)=true
noncomputable abbrev Dn(lt:Nat->Nat->Bool)(p:Array Nat)(k:Nat):Prop:=Up (λa b=>lt b a) p k
theorem Pm.size(h:Pm n p):p.size=n:=h.size_eq.trans c5
theorem sH(h:i<p.size):bW p i=p[i]:=dif_pos h
theorem Pm.bd(h:Pm n p)(hi:i<n):bW p i<n:=by have hs:i<p.size:=h.size.symm▸hi;rw [sH hs];exact iB.mp<|Os.mp (h.mem_iff.mp<|Array.getElem_mem hs)
theorem Pm.ne(h:Pm n p)(hi:i<n)(hj:j<n)(ne:i≠j):bW p i≠bW p j:=by have hs:i<p.size:=h.size.symm▸hi;have hs2:j<p.size:=h.size.symm▸hj;rw [sH hs,sH hs2];exact λe=>ne<|(DD (xs:=p.toList) ((OU.mp h).nodup_iff.mpr Ea) (i:=i) (j:=j) (h₀:=hs) (h₁:=hs2)).mp e
def j6(n:Nat)(lt:Nat->Nat->Bool)(cmp:Nat->Nat->(Bool->ah->Prop)->ah->Prop)(s:ah):Prop:=∀(i j:Nat) (C:Bool->ah->Prop),i<n->j<n->i≠j->C (lt i j) s->cmp i j C s
variable{α:Type}{k m f:Nat}
theorem Ord.flip(O:Ord n lt)(ha:a<n)(hb:b<n)(ne:a≠b)(h:lt a b=false):lt b a:=
 (O.A7 a b ha hb ne).elim (λq=>nomatch h.symm.trans q) id
theorem sI(O:Ord n lt)(hc:j6 n lt cmp s)(hp:Pm n p)(hi:i<n)(hj:j<n)(ne:i≠j){T:Bool->KasT α}{Q:α->ah->Prop}(h1:lt (bW p i) (bW p j)->(T true).kasWp cmp Q s)(h2:lt (bW p j) (bW p i)->(T false).kasWp cmp Q s):(KasT.ask (bW p i) (bW p j) T).kasWp cmp Q s:=
 hc _ _ _ (hp.bd hi) (hp.bd hj) (hp.ne hi hj ne) (by
  cases e:lt (bW p i) (bW p j) with
  |true=>exact h1 e
  |false=>exact h2<|O.flip (hp.bd hi) (hp.bd hj) (hp.ne hi hj ne) e)
theorem qa(h:m+(f+1)=n):m<n:=h▸nq (eD f)
theorem Up.snoc(tr:∀a b c,lt a b->lt b c->lt a c)(u:Up lt p (k+1))(e:lt (bW p k) (bW p<|k+1)):Up lt p (k+2):=λi j hij hj=>
 (Eb.mp hj).elim (u i j hij) λz=>by subst z;exact (Eb.mp hij).elim (λh=>tr _ _ _ (u i k h<|eV _) e) λz=>z▸e
theorem Up.one:Up lt p 1:=λi j h1 h2=>absurd (bC h1<|o8 h2)<|m8 i
theorem A8(O:Ord n lt)(hc:j6 n lt cmp s)(hp:Pm n p){Q:Nat->ah->Prop}:∀(f k:Nat),k+1+f=n->Up lt p (k+1)->
 (∀m,k+1<=m->m<=n->Up lt p m->(m<n->lt (bW p m) (bW p<|m-1)=true)->Q m s)->(kas_asc p f<|k+1).kasWp cmp Q s
 |0,k,h,u,q=>q (k+1) (cf _) (aF h) u λw=>absurd (h▸w)<|m6 _
 |f+1,k,h,u,q=>sI O hc hp (qa h) (OX<|qa h) (Ec k) (λe=>q (k+1) (cf _) (cV<|qa h) u λ_=>e) λe=>
  A8 O hc hp f (k+1) ((yF _ _).trans h) (u.snoc O.tr e) λm a b=>q m (yG a) b
theorem Iu(O:Ord n lt)(hc:j6 n lt cmp s)(hp:Pm n p){Q:Array Nat×Nat×Nat->ah->Prop}:∀(f k:Nat),k+1+f=n->Dn lt p (k+1)->
 (∀m,k+1<=m->m<=n->Dn lt p m->Q (p,m,0) s)->(kas_desc f p (k+1) 0).kasWp cmp Q s
 |0,k,h,u,q=>q (k+1) (cf _) (aF h) u
 |f+1,k,h,u,q=>
  have hk:=qa h;have hk':=OX hk
  sI O hc hp hk hk' (Ec k) (λe=>Iu O hc hp f (k+1) ((yF _ _).trans h) (u.snoc (λa b c h1 h2=>O.tr _ _ _ h2 h1) e) λm a b=>q m (yG a) b) λe=>
   sI O hc hp hk' hk (Ec k).symm (λ_=>q (k+1) (cf _) (cV hk) u) λe'=>nomatch (O.as _ _ e').symm.trans e
theorem WF(hp:Pm n p)(i j:Nat):Pm n (Ed p i j):=(mirror_perm _ _ _ _).trans hp
theorem WG(hp:Pm n p)(hk:k<=n)(h:Dn lt p k):Up lt (Ed p 0 k) k:=by
 have g:∀i,i<k->bW (Ed p 0 k) i=bW p (k-1-i):=λi hi=>by have e:=getElem?_mirror_all (xs:=p) (i:=0) (j:=k) (hp.size.symm▸hk) i;rw [if_pos ⟨bq _,hi⟩,jF] at e;exact (uh).trans<|(agX (o7 · 0) e).trans (uh).symm
 intro i j hij hj;rw [g i (o9 hij hj),g j hj];exact h _ _ (Nat.sub_lt_sub_left (bC hij (Ee hj)) hij) (bx (lQ _ _) (Ef hj))
theorem WH(O:Ord n lt)(hc:j6 n lt cmp s)(hp:Pm n p)(hk:k+1<=n)(h:Dn lt p (k+1))(q:∀m p',1<=m->m<=n->Pm n p'->Up lt p' m->Q (m,p') s):(Eg (k+1) n p).kasWp cmp Q s:=by unfold Eg;rw [ui];have hp':=WF hp 0<|k+1;exact A8 O hc hp' (n-(k+1)) k (yq hk) (WG hp hk h) λm a b u _=>q m _ (ae (dy 1 k) a) b hp' u
theorem WJ(O:Ord n lt)(hc:j6 n lt cmp s)(hp:Pm n p)(hk:1<=m)(hm:m<=n)(h:Dn lt p m)(q:∀m p',1<=m->m<=n->Pm n p'->Up lt p' m->Q (m,p') s):(Eg m n p).kasWp cmp Q s:=by
 cases m with
 |zero=>exact absurd hk<|yB 0
 |succ k=>exact WH O hc hp hm h q
theorem WK(O:Ord (n+2) lt)(hc:j6 (n+2) lt cmp s)(hp:Pm (n+2) p)(q:∀m p',1<=m->m<=n+2->Pm (n+2) p'->Up lt p' m->Q (m,p') s):(kas_count (n+2) p).kasWp cmp Q s:=by
 unfold kas_count;rw [ui];refine A8 O hc hp (n+1) 0 (iZ _ _) .one λm a b u nx=> ?_
 by_cases e1:(m == n+2)=true
 ·rw [if_pos e1];exact q m p a b hp u
 ·rw [if_neg e1];have hm:m<n+2:=Eh b λw=>e1 (beq_iff_eq.mpr w)
  by_cases e2:m>1
  ·rw [if_pos e2];have h1:m-1<n+2:=bx (lQ _ _) hm;have h2:0<m-1:=Nat.sub_pos_of_lt e2;refine sI O hc hp (eD _) h1 (lP h2) (λ_=>q m p a b hp u) λe=> ?_;exact nomatch (O.as _ _ (u 0 (m-1) h2 (Ef e2))).symm.trans e
  ·rw [if_neg e2];cases tQ (mZ.mp e2) a;unfold kas_descPart;rw [ui];exact Iu O hc hp n 1 (iZ _ _) ((Up.one (lt:=λa b=>lt b a)).snoc (λa b c h1 h2=>O.tr _ _ _ h2 h1) (nx hm)) λm a b u=>WJ O hc hp (yG a) b u q
theorem WL(h:l<r):l<=(l+r) / 2:=(Nat.le_div_iff_mul_le<|eD 1).mpr<|OY l▸eB (cV h) l
theorem WM(h:l<r):(l+r) / 2<r:=(Nat.div_lt_iff_lt_mul<|eD 1).mpr<|OY r▸Ei h r
def Lw(lt:Nat->Nat->Bool)(p:Array Nat)(k l:Nat):Prop:=∀i,i<l->lt (bW p i) (bW p k)=true
def Hw(lt:Nat->Nat->Bool)(p:Array Nat)(k l:Nat):Prop:=∀i,l<=i->i<k->lt (bW p k) (bW p i)=true
theorem A9(O:Ord n lt)(hc:j6 n lt cmp s)(hp:Pm n p)(hk:k<n)(u:Up lt p k){Q:Nat->ah->Prop}(q:∀l,l<=k->Lw lt p k l->Hw lt p k l->Q l s):∀(f l r:Nat),r<=l+f->l<=r->r<=k->Lw lt p k l->Hw lt p k r->(Ej p k f l r).kasWp cmp Q s
 |0,l,r,h1,h2,h3,a,b=>q l (ae h2 h3) a<|tQ h2 h1▸b
 |f+1,l,r,h1,h2,h3,a,b=>by
  unfold Ej
  by_cases e:l>=r
  ·rw [if_pos e];exact q l (ae h2 h3) a (tQ h2 e▸b)
  ·rw [if_neg e];have e:=Nat.lt_of_not_le e;have m1:=WL e;have m2:=WM e;generalize (l+r) / 2=m at m1 m2;have hm:=bC m2 h3;refine sI O hc hp hk (o9 hm hk) (Ek hm) (λe=> ?_) λe=> ?_
   ·exact A9 O hc hp hk u q f l m (o8<|bC m2 h1) m1 (cV hm) a λi h4 h5=>(Nat.eq_or_lt_of_le h4).elim (λz=>z▸e) λh=>O.tr _ _ _ e<|u _ i h h5
   ·exact A9 O hc hp hk u q f (m+1) r (ae h1 (ae (jA m1<|f+1)<|aF (yF m f).symm)) m2 h3
     (λi h4=>(Eb.mp h4).elim (λh=>O.tr _ _ _ (u i m h hm) e) λz=>z▸e) b
theorem Ba(hp:Pm n p)(hk:k<n)(hl:l<=k)(i:Nat):bW (rm p k<|k-l) i=if i=l then bW p k else if l<i/\i<=k then bW p (i-1) else bW p i:=by
 have e:=getElem?_bubble (xs:=p) (src:=k) (hp.size.symm▸hk) (k-l) (lQ _ _) i;rw [El hl] at e;have e:=(uh (d:=0)).trans<|agX (o7 · 0) e;refine e.trans ?_
 split
 ·exact (uh).symm
 ·split<;>exact (uh).symm
theorem vX(hp:Pm n p)(hk:k<n)(hl:l<=k)(h:i<l):bW (rm p k<|k-l) i=bW p i:=
 (Ba hp hk hl i).trans ((if_neg<|lP h).trans<|if_neg λw=>Nat.lt_asymm h w.1)
theorem Iw(hp:Pm n p)(hk:k<n)(hl:l<=k):bW (rm p k<|k-l) l=bW p k:=(Ba hp hk hl l).trans<|if_pos ag0
theorem Ix(hp:Pm n p)(hk:k<n)(hl:l<=k)(h:l<=i)(h2:i<k):bW (rm p k<|k-l) (i+1)=bW p i:=
 (Ba hp hk hl<|i+1).trans ((if_neg (Ek<|yH h)).trans<|if_pos ⟨yH h,h2⟩)
theorem Iy(i l:Nat){P:Prop}(h1:i<l->P)(h2:i=l->P)(h3:∀j,i=j+1->l<=j->P):P:=by
 rcases Nat.lt_trichotomy i l with h|h|h
 ·exact h1 h
 ·exact h2 h
 ·cases i with
  |zero=>exact absurd h<|m8 l
  |succ j=>exact h3 j rfl<|o8 h
theorem WN(hp:Pm n p)(hk:k<n)(hl:l<=k)(u:Up lt p k)(a:Lw lt p k l)(b:Hw lt p k l):Up lt (rm p k<|k-l) (k+1):=λi j hij hj=>
 Iy j l (λh=>by
  rw [vX hp hk hl h,vX hp hk hl (o9 hij h)];exact u i j hij (bC h hl)) (λh=>by
  subst h;rw [Iw hp hk hl,vX hp hk hl hij];exact a i hij) λj' e h=>by
  subst e;have hj:=q6 hj;rw [Ix hp hk hl h hj]
  exact Iy i l (λh1=>by
   rw [vX hp hk hl h1];exact u i j' (bC h1 h) hj) (λh1=>by
   subst h1;rw [Iw hp hk hl];exact b j' h hj) λi' e h1=>by
   subst e;have hij:=q6 hij;rw [Ix hp hk hl h1 (o9 hij hj)];exact u i' j' hij hj
theorem Iz(O:Ord n lt)(hc:j6 n lt cmp s){Q:Array Nat->ah->Prop}(q:∀p',Pm n p'->Up lt p' n->Q p' s):∀(f k:Nat) (p:Array Nat),k+f=n->Pm n p->Up lt p k->(kas_bin f p k).kasWp cmp Q s
 |0,k,p,h,hp,u=>q p hp<|(h:k=n)▸u
 |f+1,k,p,h,hp,u=>by show ((Ej p k k 0 k).bind λl=>kas_bin f (rm p k<|k-l)<|k+1).kasWp cmp Q s;rw [ui];exact A9 O hc hp (qa h) u (λl hl a b=>Iz O hc q f (k+1) _ ((yF _ _).trans h) ((bubble_perm _ _ _).trans hp)<|WN hp (qa h) hl u a b) k 0 k (dy _ _) (bq _) (cf _) (λi h=>absurd h<|m8 i) λi h1 h2=>absurd (bx h1 h2)<|m6 _
theorem WO(O:Ord n lt)(hc:j6 n lt cmp s)(h2:2<=n){Q:Array Nat->ah->Prop}(q:∀p',Pm n p'->Up lt p' n->Q p' s):(kas_sort n).kasWp cmp Q s:=by
 unfold kas_sort;rw [ui];obtain ⟨n,rfl⟩:=Nat.exists_eq_add_of_le' h2;refine WK O hc (Array.Perm.refl _) λm p h1 h3 hp u=> ?_
 by_cases e:m<n+2
 ·refine (agX (λt:KasT (Array Nat)=>t.kasWp cmp Q s)<|(if_pos e).trans ?_).mpr<|Iz O hc q (n+2-m) m p (yq h3) hp u;rw [Nat.max_eq_left h1]
 ·exact (agX (λt:KasT (Array Nat)=>t.kasWp cmp Q s)<|if_neg e).mpr (q p hp<|tQ h3 (mZ.mp e)▸u)
end
end Mine
namespace Mine
open PySem PySem.W PyProof.Rows SeqAt
variable{as bs:List Int}{a b:Int}{w:bb}{A:bj}{s:ah}{us:List Value}{c:Option fH×PUnit}{Q:Option fH×PUnit->ah->Prop}
theorem c8.len:∀{xs:List Value},c8 as xs->as.length=xs.length:=by
 induction as with
 |nil=>exact λh=>(agX cu (h:_= [])).symm
 |cons a as ih=>exact λh=>cE.k h λx xs e h=>(agX (· + 1)<|ih h.2).trans (agX cu e).symm
theorem lj(e:a=b):lexLt (a::as) (b::bs)=lexLt as bs:=if_pos e
theorem j7(h:a≠b):lexLt (a::as) (b::bs)=decide (a<b):=if_neg h
theorem WP(a:List Int):lexLt a a=false:=by
 induction a with
 |nil=>rfl
 |cons x r ih=>exact (lj ag0).trans ih
section
variable{prog:ck}{E:Value->ah->Prop}{l b:Addr}
theorem WQ{f:Value×Value->Option fH×PUnit->Sem (ForInStep<|Option fH×PUnit)}(hf:∀x y c,f (x,y) c=yj x y >>= λr=>if (!r)=true then rule "tuple.compare.by-the-first-pair-that-differs" >>= λ_=>ud .Lt x y >>= λr=>ret r >>= λr=>pure (.done (some r,())) else pure (.yield (none,()))):
 ∀{vs:List Value} {as bs:List Int},c8 as us->c8 bs vs->as.length=bs.length->c=(none,())->(∀o,(o=none->lexLt as bs=false)->(∀r,o=some r->r= .done (.ret (.bool<|lexLt as bs)))->Q (o,()) s)->ao (jB prog w) A (forIn (us.zip vs) c f) Q E s:=by
 induction us generalizing c with
 |nil=>intro vs as bs va vb hn hc q;have e1:as= []:=kA va.len;have e2:bs= []:=kA (e1▸hn).symm;subst e1 e2 hc;exact cZ (qN ..) (aE<|q none (λ_=>ag0) λ_=>nn)
 |cons x us ih=>
  intro vs as bs va vb hn hc q;rcases as with _|⟨a,as⟩
  ·exact absurd va.len.symm<|uj _
  rcases bs with _|⟨b,bs⟩
  ·exact absurd hn<|uj _
  refine cE.k va λx' us' e va=>cE.k vb λy vs' e' vb=> ?_;have z:=bt e;have z1:=z.1;have z2:=z.2;subst z1 z2 e';refine va.1.elim λt e=>vb.1.elim λu e'=> ?_;subst e e';refine cZ (mY ..) (aj (cZ (hf _ _ _) (aj (EqAt.int_int _ _ _ _ prog w _ _ ?_))));rcases dz (a=b) with e|e
  ·subst e;exact jo (λq=>nb ((agX (!·) (beq_self_eq_true a)).symm.trans q)) (aE (ih va.2 vb.2 (qX hn) ag0 λo h1 h2=>q o (λz=>(lj ag0).trans (h1 z)) λr z=>(h2 r z).trans (agX (λb=>PySem.Fin.done (.ret (.bool b))) (lj ag0).symm)))
  ·exact p8 (agX (!·)<|beq_eq_false_iff_ne.mpr e) (aj<|nh (aj<|O0 (aj<|aE (aE<|aE (q _ (λz=>nn z.symm) λr z=>(av z).symm.trans<|agX (λb=>PySem.Fin.done (.ret<|.bool b)) (j7 e).symm)))))
theorem WR(items items2:Array Value)(n n2:Nat)(dd dd2:Option Addr)(sl sl2:Array (Option Value))(as bs:List Int):
 Meets (iz.«tuple.__lt__» ⟨[.ref l,.ref b],[]⟩)
  (λA R s=>s.heap.get? l=some {cls:=.type "tuple",dict:=dd,data:=.seq items n,slots:=sl}/\s.heap.get? b=some {cls:=.type "tuple",dict:=dd2,data:=.seq items2 n2,slots:=sl2}/\
   c8 as items.toList/\c8 bs items2.toList/\as.length=bs.length/\R (.ok<|.ret (.bool<|lexLt as bs)) s):=
 .of_wp λprog w A R s h=>by
  obtain ⟨hp,g,d,tk,os⟩:=s;obtain ⟨hl,hb,va,vb,hlen,h⟩:=h;have f2:=AutoSeq1.sub_tuple_tuple
  wp_walk using O2 hl,O2 hb
  refine WQ (λx y c=>rfl) va vb hlen rfl λo h1 h2=> ?_;rcases o with _|r
  ·have e:O3 CmpOp.Lt items.size items2.size= .bool (lexLt as bs):=(agX (O3 CmpOp.Lt · items2.size) (Em.symm.trans<|va.len.symm.trans (hlen.trans<|vb.len.trans Em))).trans
    (agX O5<|(decide_eq_false<|m6 _).trans (h1 ag0).symm)
   exact aE ⟨_,ag0,e▸h⟩
  ·exact aE ⟨_,h2 r ag0,h⟩
variable{vs:List Value}{Q:Value->ah->Prop}
theorem WS(hl:cq s.heap l us.toArray)(hb:cq s.heap b vs.toArray)(va:c8 as us)(vb:c8 bs vs)(hn:as.length=bs.length)(hu:A.units<cK)(h:Q (.bool<|lexLt as bs) s):ao (jB prog w) A (DB .Lt (.ref l)<|.ref b) Q E s:=
 hl.elim λo r=>r.2.2.elim λn hd=>hb.elim λo2 r2=>r2.2.2.elim λn2 hd2=>by
  obtain ⟨cls,dd,data,sl⟩:=o;obtain ⟨cls2,dd2,data2,sl2⟩:=o2;have hc:cls=_:=r.2.1;have hc2:cls2=_:=r2.2.1;have hd:data=_:=hd;have hd2:data2=_:=hd2;subst hc hd hc2 hd2
  exact richCompare_meets_room (op:=.Lt) ⟨_,r.1,ag0⟩ ⟨_,r2.1,ag0⟩ F.slot_tuple_lt F.entry_tuple_lt (F.args_tuple_lt_2 _ _) (WR us.toArray vs.toArray n n2 dd dd2 sl sl2 as bs)
   ⟨r.1,r2.1,va,vb,hn,show O5 (lexLt as bs)≠Value.notImplemented/\Q (.bool<|lexLt as bs) s from ⟨(λx=>nomatch x),h⟩⟩ hu
end
end Mine
namespace Mine
open PySem PySem.W PyProof.Rows
variable{c:Cx}{ρ:aK}{h:Heap}{v:V}{x:Value}{xs:List Value}{ks us:List V}{ns k:List Int}{kl:List (List Int)}{n m i:Nat}{a b:Int}{H:Hp}{s:ah}{Q:Bool->ah->Prop}{A:bj}{w:bb}
section
variable{vs:List V}{P:Prop}
theorem vY(r:c8 ns []):ns= []:=by
 rcases ns with _|⟨a,ns⟩
 ·rfl
 ·exact r.elim
theorem Bb(r:c8 ns (x::xs))(g:∀i ms t,ns=i::ms->x= .int i t->c8 ms xs->P):P:=by
 rcases ns with _|⟨a,ns⟩
 ·exact nomatch (r:_::_= [])
 ·exact r.1.elim λt q=>g _ _ t ag0 q r.2
theorem qb(e:allInts (v::vs)=some ns)(g:∀i ms,v= .int i->allInts vs=some ms->ns=i::ms->P):P:=
 ob e λi e w=>(bF.mp w).elim λms z=>g i ms (nN e) z.1 z.2.symm
theorem IA:∀{ns:List Int} {xs:List Value},allInts vs=some ns->aA ρ h vs xs->c8 ns xs:=by
 induction vs with
 |nil=>exact λe r=>(av e: []=_)▸r
 |cons v vs ih=>exact λe r=>cE.k r λx ys q r=>qb e λi ms q1 e2 q2=>q2▸cE.of q ⟨(q1▸r.1:VR ρ h (.int i) x),ih e2 r.2⟩
theorem IB:∀{ns:List Int},allInts vs=some ns->ns.length=vs.length:=by
 induction vs with
 |nil=>exact λe=>(av e: []=_)▸rfl
 |cons v vs ih=>exact λe=>qb e λi ms _ e2 q2=>q2▸agX (· + 1) (ih e2)
theorem WT{as bs:List Int}:nI (some (decide<|a=b)) (some (decide<|as=bs))=some (decide (a::as=b::bs)):=
 agX some (oX.mpr ((gC.trans<|and_congr decide_eq_true_iff decide_eq_true_iff).trans<|List.cons_eq_cons.symm.trans decide_eq_true_iff.symm))
theorem WU:∀{vs:List V} {as bs:List Int},allInts us=some as->allInts vs=some bs->fO (eJ H<|n+1) us vs=some (decide<|as=bs):=by
 induction us with
 |nil=>
  intro vs as bs e1 e2;have e1:=av e1;subst e1;rcases vs with _|⟨v,vs⟩
  ·exact (av e2: []=_)▸rfl
  ·exact qb e2 λi ms _ _ q=>q▸rfl
 |cons u us ih=>
  intro vs as bs e1 e2;rcases vs with _|⟨v,vs⟩
  ·exact qb e1 λi ms _ _ q=>q▸(av e2: []=_)▸rfl
  ·exact qb e1 λa bS q1 h1 q2=>qb e2 λb bs' q3 h2 q4=>by subst q1 q2 q3 q4;exact (agX (nI<|some (decide<|a=b))<|ih h1 h2).trans WT
theorem WV{prog:ck}{fin b0:Bool}{us:List Value}:∀{vs:List Value} {as bs:List Int} (i:Nat),c8 as us->c8 bs vs->as.length=bs.length->as≠bs->Q (lexLt as bs) s->
 KatLex prog w A b0 fin Q (us.zip vs) i s:=by
 induction us with
 |nil=>exact λi h1 h2 h3 h4 _=>absurd ((vY h1).trans (kA<|h3.symm.trans (agX cu<|vY h1)).symm) h4
 |cons x us ih=>
  intro vs as bs i h1 h2 h3 h4 q;refine Bb h1 λa bS t q1 q2 h6=> ?_;rcases vs with _|⟨y,vs⟩
  ·exact absurd ((agX cu q1).symm.trans<|h3.trans (agX cu<|vY h2))<|uj _
  ·exact Bb h2 λb bs' u q3 q4 h5=>by
    subst q1 q2 q3 q4;refine kat_cons (SeqAt.EqAt.int_int _ _ _ _ prog w _ _ ?_);rcases dz (a=b) with e|e
    ·exact (beq_iff_eq.mpr e).symm▸kat_yes (ih (i+1) h6 h5 (qX h3) (λw=>h4<|e▸w▸rfl)<|(lj e:lexLt (a::bS) (b::bs')=_)▸q)
    ·have q:Q (decide (a<b)) s:=j7 e▸q;refine (beq_eq_false_iff_ne.mpr e).symm▸kat_no ?_;cases b0&&i == 0 with
     |true=>exact oneLt_int q
     |false=>exact kat_one _ _<|O0 q
def KI(x:Value)(k:List Int):Prop:=∃a t,x= .int a t/\k= [a]
def KT(h:Heap)(m:Nat)(x:Value)(k:List Int):Prop:=∃p us,x= .ref p/\cq h p us.toArray/\c8 k us/\k.length=m
def K2(ρ:aK)(h:Heap)(m:Nat)(x:Value)(k:List Int):Prop:=∃p q us r vs,x= .ref p/\cq h p (.ref q::r).toArray/\cq h q us.toArray/\VR ρ h (.tup vs) (.ref q)/\c8 k us/\allInts vs=some k/\k.length=m
theorem qc(r:VR ρ h (.tup vs) x)(e:allInts vs=some k):KT h vs.length x k:=r.imp λp r=>r.imp λus r=>⟨r.1,r.2.1,IA e r.2.2.2.1,IB e⟩
theorem WW(r:VR ρ h (.tup (.tup us::vs)) x)(e:allInts us=some k):K2 ρ h us.length x k:=r.elim λp r=>r.elim λxs r=>cE.k r.2.2.2.1 λy ys q w=>by subst q;exact w.1.elim λp' r'=>r'.elim λus' r'=>by have q:=r'.1;subst q;exact ⟨p,p',us',ys,us,r.1,r.2.1,r'.2.1,w.1,IA e r'.2.2.2.1,e,IB e⟩
theorem vZ(r:VR ρ h v x)(e:keyOf v=some k)(g0:kindOf v=(0,0)->KI x k->P)(g1:∀m,kindOf v=(2,m)->KT h m x k->P)(g2:∀m,kindOf v=(1,m)->K2 ρ h m x k->P):P:=by
 rcases v with _|_|i|_|_|vs
 ·exact nn e
 ·exact nn e
 ·exact g0 rfl<|r.elim λt q=>⟨i,t,q,(av e).symm⟩
 ·exact nn e
 ·exact nn e
 ·rcases vs with _|⟨a,rv⟩
  ·exact g1 0 rfl<|qc r e
  ·rcases a with _|_|_|_|_|us
   iterate 5 exact g1 _ rfl<|qc r e
   ·exact g2 us.length rfl<|WW r e
theorem IE{a:V}(e:keysOf (a::ks)=some kl)(g:∀k ks',keyOf a=some k->keysOf ks=some ks'->kl=k::ks'->P):P:=
 ob e λk e w=>(bF.mp w).elim λks' z=>g k ks' e z.1 z.2.symm
theorem IF:∀{kl:List (List Int)} (i:Nat) {v:V},keysOf ks=some kl->ks[i]? = some v->∃k,kl[i]? = some k/\keyOf v=some k:=by
 induction ks with
 |nil=>exact λi _ _ h=>nn h
 |cons a ks ih=>
  intro kl i v e h;refine IE e λk ks' h1 h2 q=> ?_;subst q;rcases i with _|i
  ·exact ⟨k,ag0,(av h:a=v)▸h1⟩
  ·exact ih i h2 h
theorem qd:∀{kl:List (List Int)},keysOf ks=some kl->kl.length=ks.length:=by
 induction ks with
 |nil=>exact λe=>(av e: []=_)▸rfl
 |cons a ks ih=>exact λe=>IE e λk ks' h1 h2 q=>q▸agX (· + 1) (ih h2)
theorem WX{v0:V}(h:jU ks)(h0:ks[0]? = some v0)(hv:ks[i]? = some v):kindOf v=kindOf v0:=by
 rcases ks with _|⟨a,r⟩
 ·exact nn h0
 ·have e:a=v0:=av h0;subst e;rcases i with _|i
  ·exact (agX kindOf (av hv:a=v)).symm
  ·exact beq_iff_eq.mp (bU.mp h v<|cG (i:=i) hv)
end
variable{a:Addr}{y:Value}
section
variable{xs:List Value}
theorem IG{M:mX}{T:Value}:(∀x∈xs,∃p f r,x= .ref p/\cq h p (f::r:List Value).toArray/\Looks M h (uc f) T)->∃fs,KatTups h xs fs/\(∀v∈fs,Looks M h (uc v) T)/\fs.length=xs.length:=by
 induction xs with
 |nil=>exact λ_=>⟨[],.nil,λ_ w=>absurd w du,ag0⟩
 |cons x xs ih=>exact λhx=>(ih λy hy=>hx y<|.tail _ hy).elim λfs t=>(hx x<|.head _).elim λp w=>w.elim λf w=>w.elim λr w=>w.2.1.elim λo z=>z.2.2.elim λn hd=>⟨f::fs,w.1▸ .cons z.1 z.2.1 hd ag0 t.1,λv hv=>(aO.mp hv).elim (λq=>q▸w.2.2)<|t.2.1 v,agX (· + 1) t.2.2⟩
def v5(n:Nat)(xs:List Value)(kl:List (List Int))(P:Value->List Int->Prop):Prop:=∀i,i<n->P (xs.getD i .none) (kl.getD i [])
def sJ(n:Nat)(kl:List (List Int)):Prop:=∀i j,i<n->j<n->i≠j->kl.getD i []≠kl.getD j []
def v6(c:Cx)(A:bj)(s:ah)(n:Nat)(xs:List Value)(kl:List (List Int))(κ:Ep):Prop:=
 (∀(Q:Ep->ah->Prop) (E':Value->ah->Prop),Q κ s->ao (Md c) A (Er xs.toArray) Q E' s)/\
  ∀(i j:Nat) (Q:Bool->ah->Prop),i<n->j<n->i≠j->Q (lexLt (kl.getD i [])<|kl.getD j []) s->ao (Md c) A (keyLt' κ (xs.getD i .none)<|xs.getD j .none) Q (λ_ _=>False) s
theorem KT.use(w:KT h m x k){P:Prop}(g:∀p us,x= .ref p->cq h p us.toArray->c8 k us->k.length=m->P):P:=bQ w λp w=>bQ w λus w=>g p us w.1 w.2.1 w.2.2.1 w.2.2.2
theorem K2.use(w:K2 ρ h m x k){P:Prop}(g:∀p q us r vs,x= .ref p->cq h p (.ref q::r).toArray->cq h q us.toArray->VR ρ h (.tup vs) (.ref q)->c8 k us->allInts vs=some k->k.length=m->P):P:=
 bQ w λp w=>bQ w λq w=>bQ w λus w=>bQ w λr w=>bQ w λvs w=>g p q us r vs w.1 w.2.1 w.2.2.1 w.2.2.2.1 w.2.2.2.2.1 w.2.2.2.2.2.1 w.2.2.2.2.2.2
theorem sK{xs:Array Value}(w:cq h a xs){P:Prop}(g:∀o n,h.get? a=some o->o.cls= .type "tuple"->o.data= .seq xs n->P):P:=bQ w λo w=>bQ w.2.2 λn z=>g o n w.1 w.2.1 z
theorem getD_some{α:Type}{l:List α}{d a:α}(e:l[i]? = some a):l.getD i d=a:=(xY).trans<|agX (o7 · d) e
theorem mem_getD(hx:x∈xs)(hn:xs.length=n){P:Prop}(g:∀i,i<n->xs.getD i .none=x->P):P:=
 (Et hx).elim λi w=>w.elim λhi e=>g i (hn▸hi)<|getD_some ((de hi).trans<|agX some e)
theorem WY(h2:2<=n)(d:sJ n kl)(f:∀i,i<n->(kl.getD i []).length=m):m≠0:=λz=>
 d 0 1 (bC (eD 1) h2) h2 (λw=>nomatch w) ((kA<|(f 0<|bC (eD 1) h2).trans z).trans (kA<|(f 1 h2).trans z).symm)
theorem int_lt{k':List Int}(a1:KI x k)(a2:KI y k')(ne:k≠k'){E:Value->ah->Prop}(q:Q (lexLt k k') s):ao (Md c) A (keyLt' oneType' x y) Q E s:=a1.elim λn a1=>a1.elim λt a1=>a2.elim λm a2=>a2.elim λu a2=>by have z1:=a1.1;have z2:=a1.2;have z3:=a2.1;have z4:=a2.2;subst z1 z2 z3 z4;exact cZ (keyLt'_oneType _ _) (oneLt_int<|(j7 λw=>ne (agX (λa=>[a]) w):lexLt [n] [m]=_)▸q)
theorem WZ(hn:xs.length=n)(h2:2<=n)(d:sJ n kl)(a:v5 n xs kl KI):v6 c A s n xs kl oneType':=
 ⟨λQ E' q=>kas_kind (T:=.type "int") (hn▸h2) (λx hx=>mem_getD hx hn λi hi e=>(a i hi).elim λb w=>w.elim λt w=>e▸w.1▸Looks.of_pure ag0) (by decide) (by decide) q,λi j Q hi hj ne q=>int_lt (a i hi) (a j hj) (d i j hi hj ne) q⟩
theorem W0(hn:xs.length=n)(h2:2<=n)(d:sJ n kl)(a:v5 n xs kl (KT s.heap m)):v6 c A s n xs kl (tuples' true):=by
 have hm:=WY h2 d λi hi=>(a i hi).use λ_ _ _ _ _ w=>w
 obtain ⟨fs,kt,lf,lenf⟩:=IG (M:=Md c) (h:=s.heap) (T:=.type "int") (xs:=xs) λx hx=>mem_getD hx hn λi hi e=>(a i hi).use λp us e1 t vi hl=>by
  cases us with
  |nil=>exact absurd (hl.symm.trans (agX cu<|vY vi)) hm
  |cons f r=>exact Bb vi λz ms t' _ q _=>⟨p,f,r,e.symm.trans e1,t,q▸Looks.of_pure ag0⟩
 refine ⟨λQ E' q=>kat_kind (T:=.type "int") kt (lenf.symm▸hn.symm▸bC (eD 1) h2) lf (by decide) q,λi j Q hi hj ne q=> ?_⟩;exact (a i hi).use λp us e1 t vi hl=>(a j hj).use λp' us' e1' t' vi' hl'=>e1▸e1'▸sK t λo n ho _ hd=>sK t' λo' n' ho' _ hd'=>kat_lt ho hd ho' hd'<|WV 0 vi vi' (hl.trans hl'.symm) (d i j hi hj ne) q
theorem W1(hr:HR c.w c.hb ρ H s.heap)(hu:A.units+3<cK)(hn:xs.length=n)(h2:2<=n)(d:sJ n kl)(a:v5 n xs kl (K2 ρ s.heap m)):v6 c A s n xs kl (tuples' false):=by
 obtain ⟨fs,kt,lf,lenf⟩:=IG (M:=Md c) (h:=s.heap) (T:=.type "tuple") (xs:=xs) λx hx=>mem_getD hx hn λi hi e=>(a i hi).use λp q us r vs e1 t t1 _ _ _ _=>
  sK t1 λo n ho hc _=>⟨p,.ref q,r,e.symm.trans e1,t,hc▸(Looks.ld ho).andThen .now⟩
 refine ⟨λQ E' q=>kat_kind (T:=.type "tuple") kt (lenf.symm▸hn.symm▸bC (eD 1) h2) lf (by decide) q,λi j Q hi hj ne q=> ?_⟩
 exact (a i hi).use λp q1 us r1 vs e1 t t1 vr1 vi ai hl=>(a j hj).use λp' q2 us' r2 vs' e1' t' t2 vr2 vi' ai' hl'=>e1▸e1'▸sK t λo n ho _ hd=>sK t' λo' n' ho' _ hd'=>
  kat_lt ho hd ho' hd' (kat_cons ((AP hr 3 _ _ _ _ _ A vr1 vr2 ((WU (H:=H) (n:=1) ai ai').trans<|agX some (decide_eq_false<|d i j hi hj ne)) hu).1 pw c.w _ _<|kat_no (kat_one _ _<|WS t1 t2 vi vi' (hl.trans hl'.symm) (bx (fh _ 3) hu) q)))
theorem IH(nd:kl.Nodup)(hl:kl.length=n):sJ n kl:=λi j hi hj ne e=>
 ne ((DD (h₀:=hl.symm▸hi) (h₁:=hl.symm▸hj) nd).mp ((getD_some<|de _).symm.trans<|e.trans (getD_some<|de _)))
theorem II(hr:HR c.w c.hb ρ H s.heap)(r:aA ρ s.heap ks xs)(hk:keysOf ks=some kl)(nd:kl.Nodup)(sk:jU ks)(h2:2<=ks.length)(hu:A.units+20<cK):∃κ,v6 c A s ks.length xs kl κ:=by
 have d:=IH nd<|qd hk;have h0:ks[0]? = some ks[0]:=de<|bC (eD 1) h2
 have key:∀{P:Value->List Int->Prop},(∀v x k,VR ρ s.heap v x->keyOf v=some k->kindOf v=kindOf ks[0]->P x k)->v5 ks.length xs kl P:=λ{P} g i hi=>
  have hv:=de hi
  (IF i hk hv).elim λk w=>(r.at hv).elim λx z=>(getD_some w.1:kl.getD i []=k).symm▸(getD_some z.1:xs.getD i .none=x).symm▸g ks[i] x k z.2 w.2 (WX sk h0 hv)
 obtain ⟨k0,_,e0⟩:=IF 0 hk h0;obtain ⟨x0,_,r0⟩:=r.at h0;refine vZ r0 e0 (λz _=> ?_) (λm z _=> ?_) λm z _=> ?_
 ·exact ⟨_,WZ r.len.symm h2 d (key λv x k r e q=>vZ r e (λ_ w=>w) (λm z' _=>nomatch (z'.symm.trans q).trans z) λm z' _=>nomatch (z'.symm.trans q).trans z)⟩
 ·exact ⟨_,W0 (m:=m) r.len.symm h2 d (key λv x k r e q=>vZ r e (λz' _=>nomatch (z'.symm.trans q).trans z) (λm' z' w=>(t6<|(z'.symm.trans q).trans z).2▸w) λm z' _=>nomatch (z'.symm.trans q).trans z)⟩
 ·exact ⟨_,W1 (m:=m) hr (bx (eB (au ag0) _) hu) r.len.symm h2 d (key λv x k r e q=>vZ r e (λz' _=>nomatch (z'.symm.trans q).trans z) (λm' z' w=>nomatch (z'.symm.trans q).trans z) λm' z' w=>(t6<|(z'.symm.trans q).trans z).2▸w)⟩
end
variable{a:List Int}{lt:List Int->List Int->Bool}
theorem v7:∀{b c:List Int},lexLt a b->lexLt b c->lexLt a c:=by
 induction a with
 |nil=>
  intro b c h1 h2;rcases c with _|⟨z,c⟩
  ·rcases b with _|⟨y,b⟩
   ·exact nb h1
   ·exact nb h2
  ·rfl
 |cons x a ih=>
  intro b c h1 h2;rcases b with _|⟨y,b⟩
  ·exact nb h1
  rcases c with _|⟨z,c⟩
  ·exact nb h2
  rcases dz (x=y) with e1|e1
  ·rcases dz (y=z) with e2|e2
   ·exact (lj<|e1.trans e2).trans (ih ((lj e1).symm.trans h1)<|(lj e2).symm.trans h2)
   ·exact e1▸(j7 e2).trans ((j7 e2).symm.trans h2)
  ·have h1:=agY<|(j7 e1).symm.trans h1;have h3:x<z:=(dz<|y=z).elim (λe=>e▸h1) λe=>gY h1 (agY<|(j7 e).symm.trans h2);exact (j7<|Int.ne_of_lt h3).trans<|agZ h3
theorem Bc{b:List Int}(h:lexLt a b):lexLt b a=false:=uk.mpr λq=>nb ((WP a).symm.trans<|v7 h q)
theorem Be:∀{b:List Int},a≠b->lexLt a b=true\/lexLt b a=true:=by
 induction a with
 |nil=>
  intro b h;rcases b with _|⟨y,b⟩
  ·exact absurd ag0 h
  ·exact .inl ag0
 |cons x a ih=>
  intro b h;rcases b with _|⟨y,b⟩
  ·exact .inr ag0
  rcases dz (x=y) with e|e
  ·exact (ih λw=>h<|e▸w▸rfl).imp (λq=>(lj e).trans q) λq=>(lj e.symm).trans q
  ·exact (Int.lt_or_gt_of_ne e).imp (λq=>(j7 e).trans<|agZ q) λq=>(j7 λw=>e w.symm).trans<|agZ q
structure v8(lt:List Int->List Int->Bool):Prop where
 tr:∀a b c,lt a b=true->lt b c=true->lt a c=true
 as:∀a b,lt a b=true->lt b a=false
 A7:∀a b,a≠b->lt a b=true\/lt b a=true
theorem qe(rev:Bool):v8 (λa b=>if rev=true then lexLt b a else lexLt a b):=by
 rcases rev with _|_
 ·exact ⟨λa b c h1 h2=>v7 (a:=a) h1 h2,λa b h=>Bc (a:=a) h,λa b h=>Be h⟩
 ·exact ⟨λa b c h1 h2=>v7 (a:=c) h2 h1,λa b h=>Bc (a:=b) h,λa b h=>(Be h).symm⟩
section
variable{α:Type}{v:α}{l:List (List Int×α)}
theorem IJ:(kU lt k v l).Perm ((k,v)::l):=by
 induction l with
 |nil=>exact .refl _
 |cons p r ih=>exact aW (P:=λl=>List.Perm l ((k,v)::p::r)) (λ_=>.refl _) λ_=>(ih.cons _).trans<|.swap _ _ _
theorem qf:(gp lt l).Perm l:=by
 induction l with
 |nil=>exact .refl _
 |cons p r ih=>exact IJ.trans<|ih.cons _
noncomputable abbrev sL(lt:List Int->List Int->Bool)(l:List (List Int×α)):Prop:=l.Pairwise λa b=>lt a.1 b.1=true
theorem W2(O:v8 lt):sL lt l->(∀p∈l,p.1≠k)->sL lt (kU lt k v l):=by
 induction l with
 |nil=>exact λ_ _=>Eu _ _
 |cons j r ih=>
  intro h hn;have h':=pb.mp h
  exact aW (P:=λl=>sL lt l) (λhk=>pb.mpr ⟨λp hp=>(aO.mp hp).elim (λq=>q▸hk) λhp=>O.tr _ _ _ hk<|h'.1 p hp,h⟩)
   λhk=>pb.mpr ⟨λp hp=>(aO.mp<|IJ.mem_iff.mp hp).elim (λq=>q▸(O.A7 j.1 k (hn _<|.head _)).elim id λq=>absurd q hk)<|h'.1 p,ih h'.2 λp hp=>hn p<|.tail _ hp⟩
theorem Bf(O:v8 lt):(l.map (·.1)).Nodup->sL lt (gp lt l):=by
 induction l with
 |nil=>exact λ_=>.nil
 |cons p r ih=>exact λnd=>have nd:=dF.mp nd;W2 O (ih nd.2) λq hq e=>nd.1<|bB.mpr ⟨q,qf.mem_iff.mp hq,e⟩
theorem v9(O:v8 lt){l':List (List Int×α)}(nd:(l.map (·.1)).Nodup)(hp:l'.Perm l)(h:sL lt l'):gp lt l=l':=
 List.Perm.eq_of_pairwise (le:=λa b=>lt a.1 b.1=true) (λa b _ _ h1 h2=>nb<|(O.as _ _ h1).symm.trans h2) (Bf O nd) h (qf.trans hp.symm)
end
theorem W3{β:Type}(kl:List (List Int))(vs:List β)(z:β)(h:kl.length=vs.length):(aT vs.length).map (λi=>(kl.getD i [],vs.getD i z))=kl.zip vs:=
 List.ext_getElem ((aG ..).trans (c5.trans<|((O8 ..).trans ((agX (Nat.min · _) h).trans<|yk _)).symm)) λi h1 h2=>by have hv:i<vs.length:=lU h1<|(aG ..).trans c5;have hk:i<kl.length:=h.symm▸hv;rw [List.getElem_zip,List.getElem_map,Ew];exact tK (getD_some<|de hk) (getD_some<|de hv)
theorem IK(nd:kl.Nodup)(hn:kl.length=n):Ord n (λi j=>lexLt (kl.getD i [])<|kl.getD j []):=
 ⟨λa b c h1 h2=>v7 h1 h2,λa b h=>Bc h,λa b ha hb ne=>Be<|IH nd hn a b ha hb ne⟩
variable{d e:Nat}{lt:Nat->Nat->Bool}{Q:fH->ah->Prop}{ik:Array Value}{o1:Obj}{B:Array Value->Nat->Value->Sem fH}{kw:List (Str×Value)}
section
variable{E:Value->ah->Prop}{a l:Addr}{ks vs out:List Value}
def Bg(c:Cx)(A:bj)(n:Nat)(ik:Array Value)(ks:List Value)(s:ah)(lt:Nat->Nat->Bool):Prop:=∃κ,Ord n lt/\(∀(Q:Ep->ah->Prop) (E':Value->ah->Prop),Q κ s->ao (Md c) A (Er ik) Q E' s)/\j6 n lt (kas_ask pw c.w A κ ks) s
def Bh(c:Cx)(A:bj)(ks:List Value)(s:ah)(lt:Nat->Nat->Bool):Prop:=2<=ks.length->Bg c A ks.length ks.toArray ks s lt
theorem W4(h:ks.length=vs.length):(ks.toArray.zip vs.toArray).map (·.2)=vs.toArray:=by apply Array.toList_inj.mp;rw [Array.toList_map,Array.toList_zip];exact List.map_snd_zip<|aF h.symm
theorem IL{K:Unit×SortSt->Sem fH}(hl:ks.length=vs.length)(h64:vs.length<64)(hn:n=vs.length)(hs:2<=vs.length->Bg c A vs.length ik ks s lt)(h1:vs.length<2->out=vs)(h2:∀p:Array Nat,2<=vs.length->Pm vs.length p->Up lt p vs.length->out=p.toList.map λi=>vs.getD i kB)(k:∀st,(arrOf st).map (·.2)=out.toArray->Ex st=none->ao (Md c) A (K ((),st)) Q E s):
 ao (Md c) A (if n<2 then pure general' >>= (λkind=>yI (if n<2 then pure () else sortRuns') (SortSt.mk' kind (ks.toArray.zip vs.toArray) #[] 7 none) >>= K) else Er ik >>= (λkind=>yI (if n<2 then pure () else sortRuns') (SortSt.mk' kind (ks.toArray.zip vs.toArray) #[] 7 none) >>= K)) Q E s:=by
 subst hn;rcases Dt vs.length 2 with h0|h0
 ·exact p8 h0 (aj<|aE (cZ (agX (λm=>yI m _ >>= K)<|if_pos h0)<|aj (aE<|k _ ((W4 hl).trans<|agX oQ (h1 h0).symm) ag0)))
 ·have h0':¬vs.length<2:=OQ h0
  exact (hs h0).elim λκ w=>jo h0' (aj (w.2.1 _ _ (cZ (agX (λm=>yI m _ >>= K)<|if_neg h0') (aj (gh (kat_run (prog:=pw) (w:=c.w) (κ:=κ) (Q:=λst' s'=>s'=s/\(arrOf st').map (·.2)=out.toArray/\Ex st'=none)
   (G:=λp s'=>s'=s/\out=p.toList.map λi=>vs.getD i kB) hl h0 h64 (λp st' s' a1 a2 a3 a4=>⟨a4.1,(kat_snds hl a2).trans<|agX oQ a4.2.symm,a3⟩) (WO w.1 w.2.2 h0 λp hp hu=>⟨ag0,h2 p h0 hp hu⟩)) (λr s' q=>q.1▸k r.2 q.2.1 q.2.2) λ_ _ e=>e)))))
theorem sort_k{h2:Heap}{P:Heap->Addr->Prop}(t1:h2.get? a=some o1)(keep:∀b o,b≠a->h.get? b=some o->h2.get? b=some o)(k:∀h3 kS,(∀b o,b≠a->h.get? b=some o->h3.get? b=some o)->h3.get? a=some o1->h3.get? kS=some (bL "list" ([]:List Value).toArray 0)->h.get? kS=none->kS≠a->P h3 kS):P (h2.push<|bL "list" ([]:List Value).toArray 0) h2.objs.size:=
 k _ _ (λb o ne e=>dG _<|keep b o ne e) (dG _ t1) (jD _ ag0) (gone (λo q=>(dz<|h2.objs.size=a).elim (λz=>⟨_,z▸t1⟩) λz=>⟨o,keep _ o z q⟩)<|eO h2) λq=>cQ (eO h2)<|q▸t1
theorem IM(ho:s.heap.get? a=some (bL "list" vs.toArray n))(hz:vs.length<=iD)(k:∀e1 h3 kS,(∀b o,b≠a->s.heap.get? b=some o->h3.get? b=some o)->h3.get? a=some (bL "list" #[] e1)->h3.get? kS=some (bL "list" ([]:List Value).toArray 0)->s.heap.get? kS=none->kS≠a->ao (Md c) A (B vs.toArray e1<|.ref kS) Q E {s with heap:=h3}):
 ao (Md c) A (O' (.ref a) >>= λitems=>Pa (.ref a) (λ_=> #[]) >>= λ_=>seqEpoch a >>= λbefore=>newTuple items.toList >>= λheld=>yD [] >>= λkeyStore=>Dy [held,keyStore]<|B items before keyStore) Q E s:=
 have ho1:=un ho λ_=> #[];have s1:=jG s.heap a<|ja λ_=>(#[]:Array Value)
 aj (yt ho ag0 (aj (q9 ho ag0 (aj (Ey ho1 ag0 (aj (wpAny_newTuple (aj (yE (dH
  (sort_k (P:=λh kS=>ao (Md c) A (B vs.toArray _<|.ref kS) Q E {s with heap:=h}) (dG _ ho1) (λb o ne e=>dG _<|(s1.2 b ne).trans e)<|k _)) (bq _))) hz)))) (ae (aF<|fg ..) hz) (bq _))))
theorem not_bne:¬(e !=e)=true:=λq=>nb<|(bne_self_eq_false e).symm.trans q
theorem we(h:n<64):n<=iD:=ae (cV h)<|by decide
theorem IN(ho:s.heap.get? a=some (bL "list" vs.toArray n))(h64:vs.length<64)(ol:out.length<64)(hs:∀h3,(∀b o,b≠a->s.heap.get? b=some o->h3.get? b=some o)->(∃e,h3.get? a=some (bL "list" #[] e))->Bh c A vs {s with heap:=h3} lt)(h1:vs.length<2->out=vs)(h2:∀p:Array Nat,2<=vs.length->Pm vs.length p->Up lt p vs.length->out=p.toList.map λi=>vs.getD i kB)(h:∀h' e,(∀b o,b≠a->s.heap.get? b=some o->h'.get? b=some o)->h'.get? a=some (bL "list" out.toArray e)->Q (.done<|.ret .none) {s with heap:=h'}):
 ao (Md c) A (iz.«list.sort» ⟨[.ref a],[]⟩) Q E s:=
 cZ (list_sort_plain a) (IM ho (we h64) λe1 h3 kS keep ha hk nk ne=>IL (s:={s with heap:=h3}) ag0 h64 (fg ..) (hs h3 keep ⟨e1,ha⟩) h1 h2 λst hout hf=>by refine aj (Ey ha rfl<|aj (q9 ha ag0 ?_ (bq _)<|hout▸kD (ae (aF<|fg ..)<|we ol)));rw [hf,hout];exact jo not_bne<|aE (h _ _ (λb o ne e=>(oH _ _ _ _ ne).trans<|keep b o ne e)<|un ha λ_=>out.toArray))
theorem W5{P:Heap->Addr->Prop}(k:∀h3 D,(∀b o,h.get? b=some o->h3.get? b=some o)->h.get? D=none->h3.get? D=some (bL "list" vs.toArray 0)->P h3 D):
 P (((h.push<|bL "list" #[] 0).update h.objs.size<|ja (· ++ vs.toArray)).push<|bL "list" vs.toArray 0) ((h.push<|bL "list" #[] 0).update h.objs.size<|ja (· ++ vs.toArray)).objs.size:=
 have keep:∀b o,h.get? b=some o->((h.push<|bL "list" #[] 0).update h.objs.size<|ja (· ++ vs.toArray)).get? b=some o:=λb o e=>(oH _ _ _ _ (lP<|yx e)).trans<|dG _ e
 k _ _ (λb o e=>dG _<|keep b o e) (gone (λo e=>⟨o,keep _ o e⟩)<|eO _) (jD _ ag0)
theorem W6{Q:Value->ah->Prop}(hz:vs.length<=iD)(k:∀h3 D,(∀b o,s.heap.get? b=some o->h3.get? b=some o)->s.heap.get? D=none->h3.get? D=some (bL "list" vs.toArray 0)->Q (.ref D) {s with heap:=h3}):
 ao (Md c) A (yD vs) Q E {s with heap:=(s.heap.push<|bL "list" #[] 0).update s.heap.objs.size<|ja (· ++ vs.toArray)}:=yE (W5 (P:=λh3 D=>Q (.ref D) {s with heap:=h3}) k) hz
theorem IP{Q:Value->ah->Prop}(ha1:yJ "sorted" ⟨[.ref l],kw⟩)(ha2:∀y,yJ "list.sort" ⟨[.ref y],kw⟩)(hl:s.heap.IsList l vs.toArray)(hz:vs.length<=iD)(k:∀h3 D,(∀b o,s.heap.get? b=some o->h3.get? b=some o)->s.heap.get? D=none->h3.get? D=some (bL "list" vs.toArray 0)->∀E',ao (Md c) A.in1.in1 (iz.«list.sort» ⟨[.ref D],kw⟩) (λfin s'=>fin= .done (.ret .none)/\Q (.ref D) s') E' {s with heap:=h3}):
 ao (Md c) A (call (.builtin "sorted") [.ref l] kw) Q E s:=by
 refine call_function_entry_kw kind_sorted Pb Pc ha1 ?_;unfold iz.«sorted»
 exact aj (m:=checkCount "sorted" 1 1 _) (aE (aj (collect_list hl (aj (W6 hz λh3 D keep nD hD=>
  aj (dH (wpAny_call_entry_kw Pd ⟨_,hD,ag0⟩ Pe (gh (k h3 D keep nD hD _) (λfin s' q=>q.1▸⟨_,ag0,aE ⟨_,ag0,q.2⟩⟩) λ_ _ e=>e)<|ha2 _)))) (ae (aF<|fg ..) hz))))
theorem W7{Q:Value->ah->Prop}(hl:s.heap.IsList l vs.toArray)(h64:vs.length<64)(ol:out.length<64)(hs:∀h3,(∀b o,s.heap.get? b=some o->h3.get? b=some o)->Bh c A.in1.in1 vs {s with heap:=h3} lt)(h1:vs.length<2->out=vs)(h2:∀p:Array Nat,2<=vs.length->Pm vs.length p->Up lt p vs.length->out=p.toList.map λi=>vs.getD i kB)(h:∀D h' e,s.heap.get? D=none->(∀b o,s.heap.get? b=some o->h'.get? b=some o)->h'.get? D=some (bL "list" out.toArray e)->Q (.ref D) {s with heap:=h'}):
 ao (Md c) A (call (.builtin "sorted") [.ref l]) Q E s:=
 IP (Pf _) (λy=>Pg _) hl (we h64) λh3 D keep nD hD E'=>have ne:∀{b o},s.heap.get? b=some o->b≠D:=λe q=>cQ nD (q▸e)
  IN (s:={s with heap:=h3}) hD h64 ol (λh4 k _=>hs h4 λb o e=>k b o (ne e)<|keep b o e) h1 h2 λh' e k hD=>⟨ag0,h _ h' e nD (λb o q=>k b o (ne q)<|keep b o q) hD⟩
end
variable{lt:List Int->List Int->Bool}{a:List (List Int×V)}{vs:List V}{C:Calls}{σ:Sc}{rec:CE}{H':Hp}{xs kxs:List Value}{o:O}{z:V}{p:Addr×Addr}
def KR(ρ:aK)(h:Heap):List (List Int×V)->List (List Int×Value)->Prop
 | [],s=>s= []
 |p::r,s=>cE s λq s=>p.1=q.1/\VR ρ h p.2 q.2/\KR ρ h r s
section
variable{j:List Int}
theorem IQ{α:Type}{v:α}{p:List Int×α}{r:List (List Int×α)}(e:lt k p.1):kU lt k v (p::r)=(k,v)::p::r:=if_pos e
theorem IR{α:Type}{v:α}{p:List Int×α}{r:List (List Int×α)}(e:¬lt k p.1=true):kU lt k v (p::r)=p::kU lt k v r:=if_neg e
theorem KR.ins(ek:k=j)(rv:VR ρ h v x):∀{b:List (List Int×Value)},KR ρ h a b->KR ρ h (kU lt k v a) (kU lt j x b):=by
 subst ek
 induction a with
 |nil=>exact λr=>(r:_= [])▸cE.of ag0 ⟨ag0,rv,ag0⟩
 |cons p a ih=>
  intro b r;refine cE.k r λq b e r=> ?_;subst e;rcases dz (lt k p.1=true) with z|z
  ·exact eq2 (R:=λa b=>KR ρ h a b) (IQ z) (IQ<|r.1▸z) ⟨ag0,rv,r⟩
  ·exact eq2 (R:=λa b=>KR ρ h a b) (IR z) (IR<|r.1▸z) ⟨r.1,r.2.1,ih r.2.2⟩
theorem KR.sort:∀{b:List (List Int×Value)},KR ρ h a b->KR ρ h (gp lt a) (gp lt b):=by
 induction a with
 |nil=>exact λr=>(r:_= [])▸rfl
 |cons p a ih=>exact λr=>cE.k r λq b e r=>e▸KR.ins r.1 r.2.1 (ih r.2.2)
theorem KR.Bi:∀{b:List (List Int×Value)},KR ρ h a b->aA ρ h (a.map (·.2)) (b.map (·.2)):=by
 induction a with
 |nil=>exact λr=>(r:_= [])▸rfl
 |cons p a ih=>exact λr=>cE.k r λq b e r=>e▸⟨r.2.1,ih r.2.2⟩
theorem KR.zip:∀{a:List V} {b:List Value},aA ρ h a b->KR ρ h (kl.zip a) (kl.zip b):=by
 induction kl with
 |nil=>exact λ_=>ag0
 |cons k kl ih=>
  intro a b r;rcases a with _|⟨v,a⟩
  ·exact (r:b= [])▸rfl
  ·exact cE.k r λx b e r=>e▸⟨ag0,r.1,ih r.2⟩
end
noncomputable abbrev eZ(rev:Bool):List Int->List Int->Bool:=λa b=>if rev=true then lexLt b a else lexLt a b
def ia{β:Type}(rev:Bool)(kl:List (List Int))(xs:List β):List β:=(gp (eZ rev)<|kl.zip xs).map (·.2)
theorem IS{β:Type}{rev:Bool}{xs:List β}:(ia rev kl xs).length<=xs.length:=
 ae (aF<|(aG ..).trans (qf.length_eq.trans<|O8 ..)) (Ph _ _)
theorem IT{β:Type}{xs:List β}{z:β}{rev:Bool}{p:Array Nat}(nd:kl.Nodup)(hkl:kl.length=xs.length)(hp:Pm xs.length p)(hu:Up (λi j=>eZ rev (kl.getD i [])<|kl.getD j []) p xs.length):ia rev kl xs=p.toList.map λi=>xs.getD i z:=
 have key:gp (eZ rev) (kl.zip xs)=p.toList.map λi=>(kl.getD i [],xs.getD i z):=v9 (qe rev) ((tL<|aF hkl).symm▸nd) (W3 kl xs z hkl▸(OU.mp hp).map _)
  (kF.mpr (List.pairwise_iff_getElem.mpr λi j hi hj hij=>by have q:=hu i j hij<|hp.size▸hj;rw [sH hi,sH hj] at q;exact q))
 (agX (iF λp:List Int×β=>p.2) key).trans iG
theorem IU{β:Type}{xs:List β}{rev:Bool}(hkl:kl.length=xs.length)(h:xs.length<2):ia rev kl xs=xs:=by
 rcases xs with _|⟨x,xs⟩
 ·rcases kl with _|⟨k,kl⟩
  ·rfl
  ·exact absurd hkl<|uj _
 ·have e:xs= []:=kA (Nu.mp (q6 h));subst e;rcases kl with _|⟨k,kl⟩
  ·exact absurd hkl.symm<|uj _
  ·have e:kl= []:=kA<|qX hkl;subst e
   rfl
theorem IX{out:List V}{rev:Bool}(e:sortBy rev ks vs=some out){P:Prop}(g:∀kl,keysOf ks=some kl->kl.Nodup->jU ks->vs.length<60->ks.length=vs.length->out=ia rev kl vs->P):P:=
 ob e λkl e w=>have z:=dA.mp w
  g kl e z.1.1 z.1.2.1 z.1.2.2.1 z.1.2.2.2 (av z.2).symm
theorem IY{rev:Bool}(r:aA ρ h vs xs):aA ρ h (ia rev kl vs) (ia rev kl xs):=(KR.sort<|KR.zip r).Bi
theorem W8(hr:HR c.w c.hb ρ H s.heap)(r:aA ρ s.heap ks kxs)(hk:keysOf ks=some kl)(nd:kl.Nodup)(sk:jU ks)(hu:A.units+20<cK):
 Bh c A kxs s λi j=>eZ false (kl.getD i []) (kl.getD j []):=λh2=>
 have l1:=r.len
 (II hr r hk nd sk (l1▸h2) hu).imp λκ k=>⟨IK nd<|(qd hk).trans l1,k.1,λi j Q hi hj ne q=>k.2 i j Q (l1▸hi) (l1▸hj) ne q⟩
theorem W9(e:FY o):o= .dict []:=by
 induction o with
 |dict kvs=>exact agX O.dict<|tO.mp e
 |_=>exact nb e
theorem W'{a:Nat}(ro:Ro d A)(hr:HR c.w c.hb ρ H s.heap)(hp:ρ[a]? = some p)(hH:H[a]? = some (.dict []))(e:bY H []=some (z,H')):dB c A (call (.builtin "sorted") [.ref p.1]) ρ s z H':=
 (hr.obj _ _ _ hp hH).2.elim λks w=>by
  have e0:=w.2;have e0:ks= []:=e0;subst e0;refine .list e hr λg Q E' k=>w.1.dictAt.elim λep hat=> ?_;refine Calls.call_function_entry kind_sorted Pb Pc (Pf _) ?_;unfold iz.«sorted»;refine aj (m:=checkCount "sorted" 1 1 _)<|aE (aj<|kdu_collect (A:=A.in1) (kdl_dict (knd:=kq pw c.w) (kvs:=[]) (ep:=ep)<|hr.vL hp hH) ro.1 hat (bq _) λh' tk acc hk hacc=> ?_);rw [(List.length_eq_zero_iff.mp ((Em).trans hacc.1):acc.toList= [])];have a1:Af c ρ s ρ H {s with heap:=h',toks:=tk}:=jm hr hk;have hoL:(h'.push<|bL "list" ([]:List Value).toArray 0).get? h'.objs.size=some (bL "list" ([]:List Value).toArray 0):=jD _ ag0;have nD:h'.get? h'.objs.size=none:=eO _;refine aj (yE (aj<|dH (m7 Pd ⟨_,hoL,ag0⟩ Pe ?body<|Pg _))<|bq _)
  case body=>
   exact IN (s:={s with heap:=h'.push<|bL "list" ([]:List Value).toArray 0,toks:=tk}) (lt:=λ_ _=>false) (out:=[]) hoL (eD _) (eD _) (λh3 _ _ h2=>absurd h2<|yB 1) (λ_=>ag0) (λp h2=>absurd h2<|yB 1) λh4 e4 k4 hD=>⟨_,ag0,aE ⟨_,ag0,
    have z:=se (s:={s with heap:=h',toks:=tk}) (h':=h4) (tk:=tk) (vs:=[]) (xs:=[]) a1.r (λb x e=>k4 b x (λq=>cQ nD<|q▸e)<|dG _ e) nD hD ag0 g
    k _ _ _ (a1.trans z.1) z.2⟩⟩
theorem Xa:iO c d (.builtin "sorted") .sorted:=pZ (λ_ _=>ag0) λA v x H ρ s z H' ro hr rx e=>ob e λa ea e1=>ob e1 λo hH e2=>by
 have ea:=kX ea;subst ea;refine ba (P:=λw=>w=some (z,H')->dB c A (call (.builtin "sorted") [x]) ρ s z H') (λzd w=>rx.elim λp r=>r.2▸W' ro hr r.1 (W9 zd▸hH) w) (λ_ w=>ob w λus e3 w=>ob w λout es em=>hY hr rx ((hH.trans (agX some<|fS e3))) λp ys n ex hp hL rs _=> ?_) e2;refine IX es λkl hk nd sk l60 hl eo=> ?_;subst ex eo;have l1:=rs.len
 exact .list em hr λg Q E' k=>W7 (lt:=λi j=>eZ false (kl.getD i [])<|kl.getD j []) (out:=ia false kl ys) hL.isList (o9 (l1▸l60)<|by decide) (bx IS (o9 (l1▸l60)<|by decide)) (λh3 hkeep=>
  have a1:Af c ρ s ρ H {s with heap:=h3}:=jm (tk:=s.toks) hr hkeep
  W8 (s:={s with heap:=h3}) a1.r (rs.on a1.k) hk nd sk (oC A.units 2 20▸ro.u 22 ag0)) (λh=>IU ((qd hk).trans l1) h) (λp' h2 hp hu=>IT nd ((qd hk).trans l1) hp hu) λD h' e' nD hkeep hD=>
  have z:=se (tk:=s.toks) hr hkeep nD hD (IY (kl:=kl) (rev:=false) rs) g
  k _ _ _ z.1 z.2
variable{b:Bool}{j:Nat}{X:Addr->Prop}{J:aK->Heap->Prop}{call':V->Hp->bA->Prop}{K:List V->Hp->Prop}{f:Value}{kS:Addr}{acc:List Value}{r:List V}{Q:PUnit->ah->Prop}
section
variable{β:Type}{xs:List β}{z:β}
theorem IZ(nd:kl.Nodup):kl.reverse.Nodup:=(yK _).nodup_iff.mpr nd
theorem Xb(nd:kl.Nodup)(hkl:kl.length=xs.length):(ia false kl.reverse xs.reverse).reverse=ia true kl xs:=
 have z:kl.reverse.zip xs.reverse=(kl.zip xs).reverse:=(List.reverse_zipWith hkl).symm
 Pi.symm.trans (agX (iF λp:List Int×β=>p.2) (v9 (qe true) ((tL<|aF hkl).symm▸nd) ((yK _).trans (qf.trans<|z.symm▸yK _))
  (Pj.mpr (Bf (qe false)<|(tL<|aF ((yL ..).trans<|hkl.trans (yL ..).symm)).symm▸IZ nd))).symm)
theorem rev_getD(h:i<xs.length):xs.reverse.getD i z=xs.getD (xs.length-1-i) z:=
 xY.trans ((agX (o7 · z)<|List.getElem?_reverse h).trans xY.symm)
theorem I0(nd:kl.Nodup):(fj b kl).Nodup:=aW (P:=λl:List (List Int)=>l.Nodup) (λ_=>IZ nd) λ_=>nd
theorem Xc(hi:i<n)(hj:j<n)(ne:i≠j):n-1-i≠n-1-j:=λe=>ne<|((El<|Ee hi).symm.trans<|agX (n-1- ·) e).trans (El<|Ee hj)
theorem I1(hi:i<n):n-1-i<n:=bx (lQ _ _)<|Ef hi
end
section
theorem Xd(b:Bool)(hr:HR c.w c.hb ρ H s.heap)(r:aA ρ s.heap ks kxs)(hk:keysOf ks=some kl)(nd:kl.Nodup)(sk:jU ks)(hu:A.units+20<cK)(h2:2<=kxs.length):
 Bg c A kxs.length kxs.toArray (fj b kxs) s λi j=>eZ false ((fj b kl).getD i []) ((fj b kl).getD j []):=
 have l1:=r.len;have l2:=(qd hk).trans l1
 (II hr r hk nd sk (l1▸h2) hu).imp λκ k=>⟨IK (kl:=fj b kl) (I0 nd)<|(yM ..).trans l2,k.1,λi j Q hi hj ne q=>by
  rcases b with _|_
  ·exact k.2 i j Q (l1▸hi) (l1▸hj) ne q
  ·have gi:=(rev_getD (xs:=kl) (z:=[])<|l2▸hi).trans (agX (kl.getD · [])<|agX (· - 1-i) l2);have gj:=(rev_getD (xs:=kl) (z:=[])<|l2▸hj).trans (agX (kl.getD · [])<|agX (· - 1-j) l2);exact eq2 (R:=λx y=>ao (Md c) A (keyLt' κ x y) Q (λ_ _=>False) s) (rev_getD hi) (rev_getD hj) (k.2 _ _ Q (lU (I1 hi) l1.symm) (lU (I1 hj) l1.symm) (Xc hi hj ne)<|gi▸gj▸q)⟩
def KCall(c:Cx)(A:bj)(J:aK->Heap->Prop)(call':V->Hp->bA->Prop)(f:Value):Prop:=∀(v:V) (x:Value) (H:Hp) (ρ:aK) (s:ah) (Qa:bA) (Q:Value->ah->Prop) (E':Value->ah->Prop),
 J ρ s.heap->HR c.w c.hb ρ H s.heap->VR ρ s.heap v x->call' v H Qa->(∀k y H' ρ' s',Qa k H'->Af c ρ s ρ' H' s'->VR ρ' s'.heap k y->Q y s')->ao (Md c) A (call f [x]) Q E' s
variable{E:Value->ah->Prop}{body:Value->PUnit->Sem (ForInStep PUnit)}
theorem Xe(h:s.heap.get? kS=some (bL "list" acc.toArray e)):∃e2,(s.heap.update kS<|ja (·.push y)).get? kS=some (bL "list" (acc++ [y]).toArray e2):=
 ⟨_,(un h (·.push y)).trans (agX (λa=>some<|bL "list" a _)<|DZ ..)⟩
structure KF(c:Cx)(X:Addr->Prop)(J:aK->Heap->Prop)(kS:Addr)(us:List V)(xs:List Value)(acc:List V)(accx:List Value)(H:Hp)(ρ:aK)(s:ah):Prop where
 hr:HR c.w c.hb ρ H s.heap
 ra:aA ρ s.heap acc accx
 ru:aA ρ s.heap us xs
 fe:FE c ρ s.heap X
 j:J ρ s.heap
 l:∃e,s.heap.get? kS=some (bL "list" accx.toArray e)
theorem Xf(hJ:∀ρ ρ' h h',J ρ h->FE c ρ h X->Kp X ρ ρ' h h'->J ρ' h')(xk:X kS)(hcall:KCall c A J call' f)(hb:∀x (accx:List Value) (e:Nat) (s:ah) (Q':ForInStep PUnit->ah->Prop),accx.length<4001->ao (Md c) A (call f [x]) (λk s'=>s'.heap.get? kS=some (bL "list" accx.toArray e)/\Q' (.yield ⟨⟩) {s' with heap:=s'.heap.update kS<|ja (·.push k)}) (λ_ _=>False) s->ao (Md c) A (body x ⟨⟩) Q' E s):∀{rx:List Value} {acc:List V} {accx:List Value} {H:Hp} {ρ:aK} {s:ah},aA ρ s.heap r rx->KF c X J kS us xs acc accx H ρ s->acc.length+r.length<4001->hU call' K r acc H->
 (∀ks kxs H' ρ' s',K ks H'->Ax X c ρ s ρ' H' s'->KF c X J kS us xs ks kxs H' ρ' s'->ks.length=acc.length+r.length->Q ⟨⟩ s')->ao (Md c) A (forIn rx PUnit.unit body) Q E s:=by
 induction r with
 |nil=>intro rx acc accx H ρ s r1 r2 hl w k;have r1:rx= []:=r1;subst r1;exact cZ (qN ..) (aE<|k acc accx H ρ s w (.refl r2.hr) r2 ag0)
 |cons v r ih=>intro rx acc accx H ρ s r1 r2 hl w k;refine cE.k r1 λx rx e r1=>r2.l.elim λel hk=> ?_;subst e;refine cZ (mY ..)<|aj (hb x accx el s _ (r2.ra.len▸bx (fh _ _) hl)<|hcall v x H ρ s _ _ _ r2.j r2.hr r1.1 w λkv y H1 ρ1 s1 q1 a1 ry=> ?_);have hk1:=a1.k.keep _ _ hk (r2.fe.mu xk) id;have fe1:=r2.fe.kp a1.k;refine ⟨hk1,(Xe (y:=y) hk1).elim λe2 hk2=> ?_⟩;have a2:Ax X c ρ1 s1 ρ1 H1 {s1 with heap:=s1.heap.update kS<|ja (·.push y)}:=sB (tk:=s1.toks) a1.r fe1 xk ⟨_,hk2,gN rfl<|by decide⟩ (jG _ _ _).extBut;have a12:=(a1.ax (X:=X)).trans a2;have z:(acc++ [kv]).length+r.length=acc.length+(r.length+1):=(agX (· + r.length)<|aX ..).trans<|(oC ..).trans (agX (acc.length+ ·)<|iZ ..);exact ih (acc:=acc++ [kv]) (accx:=accx++ [y]) ((r1.2.on a1.k).ax a2 fe1) ⟨a2.r,((r2.ra.on a1.k).append<|show aA ρ1 s1.heap [kv] [y] from ⟨ry,ag0⟩).ax a2 fe1,(r2.ru.on a1.k).ax a2 fe1,fe1.kp a2.k,hJ _ _ _ _ r2.j r2.fe a12.k,⟨e2,hk2⟩⟩ (z▸hl) q1 λks kxs H' ρ' s' q a b l=>k ks kxs H' ρ' s' q (a12.trans a) b<|l.trans z
end
variable{Q:fH->ah->Prop}{t:Sem fH}{o:Obj}{h3:Heap}{Qa:bA}{s':ah}{ρ':aK}
section
variable{E:Value->ah->Prop}{out zs:List Value}{a:Addr}{e1:Nat}
def I2(s:ah)(a kS:Addr)(zs:List Value)(Q:fH->ah->Prop):Prop:=
 ∀h' e',(∀b o,b≠a->b≠kS->s.heap.get? b=some o->h'.get? b=some o)->h'.get? a=some (bL "list" zs.toArray e')->(∃e2,h'.get? kS=some (bL "list" #[] e2))->Q (.done<|.ret .none) {s with heap:=h'}
theorem I3(h:zs.length<64):zs.toArray.size<=iD:=ae (aF<|fg ..)<|we h
theorem Xg{st:SortSt}(ho:s.heap.get? a=some (bL "list" #[] e1))(hoS:s.heap.get? kS=some (bL "list" kxs.toArray e))(ne:a≠kS)(hk:kxs.length<64)(hz:zs.length<64)(hout:(arrOf st).map (·.2)=out.toArray)(hrev:fj b out=zs)(hf:Ex st=none)(h:I2 s a kS zs Q):ao (Md c) A (ksk_tail a b e1 (.ref kS) st) Q E s:=by have ho1:(s.heap.update kS<|ja λ_=>(#[]:Array Value)).get? a=some (bL "list" #[] e1):=(oH _ _ _ _ ne).trans ho;unfold ksk_tail;rw [hout];dsimp only;rw [kat_outs,hrev];refine aj (q9 hoS rfl (aj<|wpAny_letGo (aj<|Ey ho1 rfl (aj<|q9 ho1 rfl ?_ (bq _) (kD<|I3 hz)))) (I3 hk)<|bq _);rw [hf];exact jo not_bne (aE<|h _ _ (λb' o n1 n2 eb=>(oH _ _ _ _ n1).trans<|(oH _ _ _ _ n2).trans eb) (un ho1 λ_=>zs.toArray) ⟨_,(oH _ _ _ _<|cU ne).trans<|un hoS λ_=> #[]⟩)
theorem Xh(ht:ao (Md c) A t Q E s):ao (Md c) A (if b=true then rule "list.sort.reverse" >>= λ_=>t else t) Q E s:=by
 rcases b with _|_
 ·exact ht
 ·exact aj<|nh ht
theorem Xi(nd:kl.Nodup)(h:kl.length=xs.length):fj b (ia false (fj b kl)<|fj b xs)=ia b kl xs:=by
 rcases b with _|_
 ·rfl
 ·exact Xb nd h
theorem Xj(hr:HR c.w c.hb ρ H s.heap)(r:aA ρ s.heap ks kxs)(hk:keysOf ks=some kl)(nd:kl.Nodup)(sk:jU ks)(hlen:kxs.length=xs.length)(h64:xs.length<64)(hu:A.units+20<cK)(ho:s.heap.get? a=some (bL "list" #[] e1))(hoS:s.heap.get? kS=some (bL "list" kxs.toArray e))(ne:a≠kS)(h:I2 s a kS (ia b kl xs) Q):
 ao (Md c) A (Ez a b xs.toArray e1 (.ref kS)<|oQ kxs) Q E s:=by
 have lx:(fj b xs).length=kxs.length:=(yM ..).trans hlen.symm;have ll:=(qd hk).trans r.len;have lkl:(fj b kl).length=(fj b xs).length:=(yM ..).trans<|ll.trans lx.symm;unfold Ez;refine Xh ?_;rw [kat_pairs b hlen]
 refine IL (ks:=fj b kxs) (vs:=fj b xs) (out:=ia false (fj b kl)<|fj b xs) (lt:=λi j=>eZ false ((fj b kl).getD i [])<|(fj b kl).getD j []) ((yM ..).trans lx.symm) (lx▸hlen▸h64) ((fg ..).trans<|hlen.symm.trans lx.symm) (lx.symm▸Xd b hr r hk nd sk hu)
  (IU lkl) (λp h2 hp hu=>IT (I0 nd) lkl hp hu) λst hout hf=> ?_
 exact Xg ho hoS ne (hlen▸h64) (bx IS h64) hout (Xi nd<|ll.trans hlen) hf h
theorem wh(hr:HR c.w c.hb ρ H h)(n:h.get? a=none)(e:h3.get? a=some o)(t:db o):FE c ρ h3 (· = a):=λb hb=>(hb:b=a)▸
 ⟨hr.fresh n,λp hp=>⟨eY (hr.alive hp).1 n,eY (hr.alive hp).2 n⟩,o,e,t⟩
noncomputable abbrev SK(a kS b:Addr):Prop:=b=a\/b=kS
theorem Xk(hu:A.units+20<cK)(fe3:FE c ρ h3 (SK a kS))(ho3:h3.get? a=some (bL "list" #[] e1))(nk:s.heap.get? kS=none)(ne:kS≠a)(ax3:Ax (· = a) c ρ s ρ H {s with heap:=h3})(q:gq b us Qa ks H')(ax:Ax (· = kS) c ρ {s with heap:=h3} ρ' H' s')(r:KF c (· = kS) J kS us xs ks kxs H' ρ' s')(hl:ks.length=us.length)(k:∀out oxs H' ρ' s' e',out.length<=lim->Qa (.ref H'.length) (H'++ [.list out])->Ax (· = a) c ρ s ρ' H' s'->aA ρ' s'.heap out oxs->s'.heap.get? a=some (bL "list" oxs.toArray e')->FE c ρ' s'.heap (· = a)->Q (.done<|.ret .none) s'):
 ao (Md c) A (O' (.ref kS) >>= λkeys=>Ez a b xs.toArray e1 (.ref kS) keys) Q E s':=
 r.l.elim λe' hk'=>aj<|yt hk' ag0 (oP.k q λp ep q=>ob ep λout es em=>IX es λkl hk nd sk l60 _ eo=>pX em λg z1 z2=>by subst eo;have lu:=r.ru.len;have fe'':=fe3.kp ax.k;have ho':s'.heap.get? a=some (bL "list" #[] e1):=ax.k.keep _ _ ho3 (fe3.mu<|.inl ag0)<|cU ne;refine Xj r.hr r.ra hk nd sk (r.ra.len.symm.trans<|hl.trans lu) (o9 (lu▸l60)<|by decide) hu ho' hk' (cU ne) λh' e2 keep hA hS=> ?_;have a4:Ax (SK a kS) c ρ' s' ρ' H' {s' with heap:=h'}:=AQ (tk:=s'.toks) r.hr fe'' (λb o eb hb=>hb.elim (λz=>z▸⟨_,hA,gN rfl<|by decide⟩) λz=>hS.elim λe3 hS=>z▸⟨_,hS,gN rfl<|by decide⟩) λb o eb hb=>keep b o (λz=>hb<|.inl z) (λz=>hb<|.inr z) eb;exact k _ _ H' ρ' _ e2 g (z1▸z2▸q) ((((ax3.weak (Y:=SK a kS) λb o _ q=>.inl q).trans<|ax.weak λb o _ q=>.inr q).trans a4).weak λb o eb q=>q.elim id λq=>cQ nk<|q▸eb) (IY<|r.ru.ax a4 fe'') hA<|(fe''.kp a4.k).mono λb q=>.inl q)
theorem Xl(hJ:∀X ρ ρ' h h',J ρ h->(∀b,X b->b=a\/s.heap.get? b=none)->FE c ρ h X->Kp X ρ ρ' h h'->J ρ' h')(hcall:KCall c A J call' f)(hu:A.units+20<cK)(hr:HR c.w c.hb ρ H s.heap)(fe:FE c ρ s.heap (· = a))(hj:J ρ s.heap)(r:aA ρ s.heap us xs)(ho:s.heap.get? a=some (bL "list" xs.toArray n))(h64:us.length<4001)(w:hU call' (gq b us Qa) us [] H)(k:∀out oxs H' ρ' s' e',out.length<=lim->Qa (.ref H'.length) (H'++ [.list out])->Ax (· = a) c ρ s ρ' H' s'->aA ρ' s'.heap out oxs->s'.heap.get? a=some (bL "list" oxs.toArray e')->FE c ρ' s'.heap (· = a)->Q (.done<|.ret .none) s'):
 ao (Md c) A (ksk_tree a f b) Q E s:=
 have fit:∀{m:Nat},m<=4001->m<=iD:=λh=>ae h (by decide)
 IM (B:=ksk_rest a f b) ho (fit (cV<|r.len▸h64)) λe1 h3 kS keep ha hk nk ne=>by
  have nt:db (bL "list" #[] e1):=gN ag0 (by decide);have ax3:Ax (· = a) c ρ s ρ H {s with heap:=h3}:=AQ (tk:=s.toks) hr fe (λb o e x=>(x:b=a)▸⟨_,ha,nt⟩) λb o e nx=>keep b o nx e;have f3:FE c ρ h3 (· = kS):=wh hr nk hk (gN rfl<|by decide);have fa:=fe.kp ax3.k;have r3:=r.ax ax3 fe
  refine aj (nh (aj (cZ (List.forIn_toArray ..) (Xf (c:=c) (X:=(· = kS)) (K:=gq b us Qa) (us:=us) (xs:=xs) (s:={s with heap:=h3}) (λρ ρ' h h' j f k=>hJ (· = kS) _ _ _ _ j (λb q=>.inr<|(q:b=kS)▸nk) f k) ag0 hcall
   (λx accx e s' Q' hz hx=>aj (yz<|gh hx (λk s'' hk=>show ao _ _ (Pa (.ref kS) (λx=>x.push k) >>= λ_=>pure<|oB PUnit.unit) _ _ _ from aj (q9 hk.1 ag0 (aE hk.2) (ae (aF<|fg ..) (fit<|cV hz))<|ae (aF<|(Array.size_push ..).trans (agX (· + 1)<|fg ..)) (kD<|fit hz))) λ_ _ hF=>hF.elim))
   r3 ⟨ax3.r,show aA ρ h3 [] [] from ag0,r3,f3,hJ (· = a) _ _ _ _ hj (λb q=>.inl q) fe ax3.k,⟨0,hk⟩⟩ (bx (aF<|jF _) h64) w λks kxs H' ρ' s' q ax r' hl=> ?_))))
  exact Xk hu (λb hb=>hb.elim (fa b)<|f3 b) ha nk ne ax3 q ax r' (hl.trans<|jF _) k
end
variable{Q E':Value->ah->Prop}
section
variable{P:Str->Prop}{W:Addr->Prop}
theorem Bj(ha1:yJ "sorted" ⟨[x],kw⟩)(ha2:∀y,yJ "list.sort" ⟨[.ref y],kw⟩)(ht:∀y,iz.«list.sort» ⟨[.ref y],kw⟩=ksk_tree y f b)(hJ:∀X ρ ρ' h h',J ρ h->(∀b,X b->s.heap.get? b=none)->FE c ρ h X->Kp X ρ ρ' h h'->J ρ' h')(hJ0:∀ρ' h',Kp dX ρ ρ' s.heap h'->J ρ' h')(hcall:KCall c A.in1.in1 J call' f)(hu:A.units+30<cK)(hr:HR c.w c.hb ρ H s.heap)(r:VR ρ s.heap v x)(hs:je H v=some us)(h64:us.length<4001)(w:hU call' (gq b us Qa) us [] H)(k:∀v z H' ρ' s',Qa v H'->Af c ρ s ρ' H' s'->VR ρ' s'.heap v z->Q z s'):ao (Md c) A (call (.builtin "sorted") [x] kw) Q E' s:=
 ob hs λa ea hs=>ob hs λo hH ho=>hY hr (kX ea▸r) (hH.trans (agX some<|fS ho)) λp xs n ex hp hL rs g=>by
  subst ex
  exact IP ha1 ha2 hL.isList (rs.len▸mE g) λh3 D keep nD hD E'=>
   have a1:Af c ρ s ρ H {s with heap:=h3}:=jm (tk:=s.toks) hr keep
   cZ (ht _) (Xl (s:={s with heap:=h3}) (J:=J) (call':=call') (Qa:=Qa) (λX ρ ρ' h h' j hx f k=>hJ X _ _ _ _ j (λb hb=>(hx b hb).elim (λe=>e▸nD) λe=>gone (λo q=>⟨o,keep b o q⟩) e) f k) hcall (bx (eB (au rfl:22<=30) A.units) hu)
    a1.r (wh hr nD hD (gN rfl<|by decide)) (hJ0 _ _ a1.k) (rs.on a1.k) hD h64 w λout oxs H' ρ' s' e' g q ax Bi hA feD=>
     have z:=feD _ ag0;have ad:=adopt ax.r hA Bi g z.1 z.2.1;have kk:=(a1.ax (X:=(· = D))).trans ax
     ⟨ag0,k _ _ _ _ _ q ⟨ad.1,(kk.k.adopt nD).weak λb o e q=>cQ nD<|(q:b=D)▸e,kk.g,kk.o⟩ ad.2.2⟩)
end
variable{env:Env}{l:Loc}{Qa:Fl->Loc->Hp->Prop}{Q:Flow->ah->Prop}{fl:Fl}{f:Flow}{X p:Prop}{K:Loc->Hp->Prop}{pos:Pos}{e' t':E}{e t iter:aB}{b':Ss}{b:List Stmt}{it:It}{R:oN->ah->Prop}{iv:IV}{I:Addr}{J:Nat->ah->Prop}
section
variable{P:Str->Prop}{W:Addr->Prop}{l1:Loc}{H1:Hp}{ρ1:aK}{s1:ah}
def Bk(ρ:aK)(h:Heap):Fl->Flow->Prop
 | .next,f=>f= .next
 | .ret v,f=>∃x,f= .ret x/\VR ρ h v x
def SQ(c:Cx)(σ:Sc)(W:Addr->Prop)(env:Env)(Qa:Fl->Loc->Hp->Prop)(Q:Flow->ah->Prop)(ρ:aK)(s:ah):Prop:=
 ∀fl l' H' ρ' s' f,Qa fl l' H'->Ax W c ρ s ρ' H' s'->ER σ l' ρ' s'.heap env->Bk ρ' s'.heap fl f->Q f s'
theorem SQ.on(k:SQ c σ W env Qa Q ρ s)(a1:Ax W c ρ s ρ1 H1 s1):SQ c σ W env Qa Q ρ1 s1:=λfl l' H' ρ' s' f q a=>k fl l' H' ρ' s' f q<|a1.trans a
def SS(c:Cx)(d:Nat)(C:Calls)(σ:Sc)(P:Str->Prop)(W:Addr->Prop)(st:Stmt)(st':S):Prop:=∀(A:bj) (env:Env) (l:Loc) (H:Hp) (ρ:aK) (s:ah) (Qa:Fl->Loc->Hp->Prop) (Q:Flow->ah->Prop) (E':Value->ah->Prop),
 Ro d A->ER σ l ρ s.heap env->Wr c σ P W ρ s.heap env->HR c.w c.hb ρ H s.heap->pQ G C st' l H Qa->SQ c σ W env Qa Q ρ s->ao (Md c) A (exec st env) Q E' s
def jq(c:Cx)(d:Nat)(C:Calls)(σ:Sc)(P:Str->Prop)(W:Addr->Prop)(dI:List Stmt)(ss:Ss):Prop:=∀(A:bj) (env:Env) (l:Loc) (H:Hp) (ρ:aK) (s:ah) (Qa:Fl->Loc->Hp->Prop) (Q:Flow->ah->Prop) (E':Value->ah->Prop),
 Ro d A->ER σ l ρ s.heap env->Wr c σ P W ρ s.heap env->HR c.w c.hb ρ H s.heap->bP G C ss l H Qa->SQ c σ W env Qa Q ρ s->ao (Md c) A (uo dI env) Q E' s
theorem n7(st:Stmt):SS c d C σ P W st .bad:=λA env l H ρ s Qa Q E' _ _ _ _ w=>w.elim
theorem I4(w:wk Qa K fl l H)(r:Bk ρ h fl f)(k0:f= .next->K l H->X)(k1:∀v x,fl= .ret v->f= .ret x->VR ρ h v x->Qa (.ret v) l H->X):X:=by
 rcases fl with _|v
 ·exact k0 r w
 ·exact r.elim λx r=>k1 v x ag0 r.1 r.2 w
theorem I5{recS:CS}{dI:List Stmt}:(∀st∈dI,SS c d C σ P W st<|recS σ st)->jq c d C σ P W dI (j3 recS σ dI):=by
 induction dI with
 |nil=>exact λ_ A env l H ρ s Qa Q E' ro er wr hr w k=>EB<|k _ _ _ _ _ _ w (.refl hr) er ag0
 |cons st r ih=>
  exact λhx A env l H ρ s Qa Q E' ro er wr hr w k=>wpAny_execs_cons (hx st (.head _) A env l H ρ s _ _ E' ro er wr hr w λfl l1 H1 ρ1 s1 f q1 a1 er1 fr=>I4 q1 fr (λe q1=>by
   subst e;exact ih (λst h=>hx st (.tail _ h)) A env l1 H1 ρ1 s1 Qa Q E' ro er1 (wr.kp a1.k) a1.r q1 (k.on a1)) λv x _ e rx q1=>by
   subst e;exact k _ _ _ _ _ _ q1 a1 er1 ⟨x,ag0,rx⟩)
theorem Xm(x:SE c d C σ e e'):SS c d C σ P W (.Return (some e) pos) (.ret e'):=λA env l H ρ s Qa Q E' ro er wr hr w k=>
 wpAny_Return_some (x A env l H ρ s _ _ E' ro er hr w λv y H1 ρ1 s1 q1 a1 r1=>k _ _ _ _ _ _ q1 a1.ax (er.on a1.k) ⟨y,ag0,r1⟩)
theorem Xn:SS c d C σ P W (.Return none pos) (.ret<|.cst .none):=λA env l H ρ s Qa Q E' ro er wr hr w k=>wpAny_Return_none<|k _ _ _ _ _ _ w (.refl hr) er ⟨.none,ag0,ag0⟩
def Xp(e:aB):Prop:=∀(t:Option aB) (line:Nat) (env:Env),EC e t line env=pure false
theorem I6(e:aB):cond (pR e) (Xp e) True:=by rcases e<;>first|exact trivial|exact λ_ _ _=>rfl
theorem Xq(h:env.scope.kind= .function):interactive env=false:=by
 unfold interactive;rw [h]
 rfl
theorem Xr(w:wn v p):p:=by rcases v with _|_|_|_|_|_<;>first|exact w|exact w.elim
theorem Xs(hc:pR e)(x:SE c d C σ e e'):SS c d C σ P W (.Expr e pos) (.expr e'):=λA env l H ρ s Qa Q E' ro er wr hr w k=>
 wpAny_Expr_any (x A env l H ρ s _ _ E' ro er hr w λv y H1 ρ1 s1 q1 a1 r1=>k _ _ _ _ _ _ (Xr q1) a1.ax (er.on a1.k) ag0) (Xq er.fn) (bI (I6 e) hc _ _ _)
theorem Xu{a:List Stmt}{a':Ss}(xt:SB c d C σ t t')(xa:jq c d C σ P W a a')(xb:jq c d C σ P W b b'):SS c d C σ P W (.If t a b pos) (.ite t' a' b'):=λA env l H ρ s Qa Q E' ro er wr hr w k=>
 wpAny_If (xt A env l H ρ s _ _ E' ro er hr w (λv H' q=>nV q) λb H1 ρ1 s1 q1 a1=>by
  rcases b with _|_
  ·exact xb A env l H1 ρ1 s1 Qa Q E' ro (er.on a1.k) (wr.kp a1.k) a1.r q1<|k.on a1.ax
  ·exact xa A env l H1 ρ1 s1 Qa Q E' ro (er.on a1.k) (wr.kp a1.k) a1.r q1<|k.on a1.ax)
def RQ(c:Cx)(A:bj)(env:Env)(E':Value->ah->Prop)(Q:Flow->ah->Prop)(r:oN)(s:ah):Prop:=match r with
 | .ok f=>Q f s
 | .error e=>cameBackBy (Md c) A env E' e s
def LQ(I:Nat->ah->Prop)(R:oN->ah->Prop)(n:Nat)(f:Flow)(s:ah):Prop:=match f with
 | .next| .cont=>∃m,m<n/\I m s
 | .brk=>R (.ok .next) s
 | .ret v=>R (.ok<|.ret v) s
theorem LQ.of(w:wk Qa K fl l H)(r:Bk ρ h fl f)(k0:K l H->J n s)(k1:∀v x,fl= .ret v->VR ρ h v x->Qa (.ret v) l H->R (.ok<|.ret x) s):LQ J R (n+1) f s:=
 I4 w r (λe w=>by
  subst e;exact ⟨n,eV n,k0 w⟩) λv x ef e rx w=>by
  subst e;exact k1 v x ef rx w
def WI(c:Cx)(C:Calls)(σ:Sc)(P:Str->Prop)(W:Addr->Prop)(env:Env)(t':E)(b':Ss)(Qa:Fl->Loc->Hp->Prop)(ρ:aK)(s:ah)(n:Nat)(s':ah):Prop:=
 ∃l1 H1 ρ1,vh (aH G C t') (bP G C b') Qa n l1 H1/\Ax W c ρ s ρ1 H1 s'/\ER σ l1 ρ1 s'.heap env/\Wr c σ P W ρ1 s'.heap env
theorem Xv(xt:SB c d C σ t t')(xb:jq c d C σ P W b b')(ro:Ro d A)(k:SQ c σ W env Qa (λf=>R<|.ok f) ρ s)(w:WI c C σ P W env t' b' Qa ρ s n s1):
 ao (Md c) A (oJ t env<|eval t env) (λb2 s₂=>if b2=true then ao (Md c) A (uo b env) (LQ (WI c C σ P W env t' b' Qa ρ s) R n) E' s₂ else ao (Md c) A (uo [] env) (λf=>R<|.ok f) E' s₂) E' s1:=
 w.elim λl1 w=>w.elim λH1 w=>w.elim λρ1 w=>by
  have wr1:=w.2.2.2;have er1:=w.2.2.1;rcases n with _|n
  ·exact w.1.elim
  ·refine xt A env l1 H1 ρ1 s1 _ _ _ ro er1 w.2.1.r w.1 (λv H' q=>nV q) λb H2 ρ2 s2 q2 a2=> ?_;have a12:=w.2.1.trans a2.ax;rcases b with _|_
   ·exact EB<|k _ _ _ _ _ _ q2 a12 (er1.on a2.k) ag0
   ·exact xb A env l1 H2 ρ2 s2 _ _ _ ro (er1.on a2.k) (wr1.kp a2.k) a2.r q2 λfl l3 H3 ρ3 s3 f q3 a3 er3 r3=>.of q3 r3 (λq3=>⟨l3,H3,ρ3,q3,a12.trans a3,er3,(wr1.kp a2.k).kp a3.k⟩) λv x e rx q3=>k _ _ _ _ _ _ q3 (a12.trans a3) er3 ⟨x,ag0,rx⟩
theorem Xw(xt:SB c d C σ t t')(xb:jq c d C σ P W b b'):SS c d C σ P W (.While t b [] pos) (.while t' b'):=λA env l H ρ s Qa Q E' ro er wr hr w k=>w.elim λn w=>
 wpAny_While (codeAny_whileLoop (R:=RQ c A env E' Q) (WI c C σ P W env t' b' Qa ρ s) (λn s1 w=>Xv (R:=RQ c A env E' Q) xt xb ro k w) n ⟨l,H,ρ,w,.refl hr,er,wr⟩)
noncomputable abbrev IW(W:Addr->Prop)(I b:Addr):Prop:=b=I\/W b
def Bl(c:Cx)(C:Calls)(σ:Sc)(P:Str->Prop)(W:Addr->Prop)(env:Env)(I:Addr)(iv:IV)(t:aB)(b':Ss)(Qa:Fl->Loc->Hp->Prop)(ρ:aK)(s:ah)(n:Nat)(s':ah):Prop:=
 ∃i l1 H1 ρ1,mq (targets σ t) iv (bP G C b') Qa n i l1 H1/\Ax (IW W I) c ρ s ρ1 H1 s'/\dm ρ1 s'.heap iv i I/\ER σ l1 ρ1 s'.heap env/\Wr c σ P W ρ1 s'.heap env/\FE c ρ1 s'.heap (· = I)
theorem Xx(ht:my σ t)(tg:TG c d C σ P W t (eM σ t))(xb:jq c d C σ P W b b')(ro:Ro d A)(fI:s.heap.get? I=none)(wI:∀b,W b->b≠I)(lI:env.locals≠I)(k:SQ c σ W env Qa (λf=>R<|.ok f) ρ s)(w:Bl c C σ P W env I iv t b' Qa ρ s n s1):
 ao (Md c) A (lV (.ref I)) (λr s₁=>match r with
  |none=>ao (Md c) A (uo [] env) (λf s₃=>R (.ok f) s₃) E' s₁
  |some v=>ao (Md c) A (D8 t (.ref I) v) (λ_ s₁'=>ao (Md c) A (kE t env v) (λ_ s₂=>ao (Md c) A (uo b env) (LQ (Bl c C σ P W env I iv t b' Qa ρ s) R n) E' s₂) E' s₁') E' s₁) E' s1:=
 w.elim λi w=>w.elim λl1 w=>w.elim λH1 w=>w.elim λρ1 w=>by
  have a1:=w.2.1;have iP:=w.2.2.1;have er1:=w.2.2.2.1;have wr1:=w.2.2.2.2.1;have fe1:=w.2.2.2.2.2;have off:∀{ρ' H' s'},Ax (IW W I) c ρ s ρ' H' s'->Ax W c ρ s ρ' H' s':=λa=>a.weak λb o e q=>q.elim (λz=>cQ fI (z▸e)) id;have keepI:∀{ρ' H' s'},Ax (· = I) c ρ1 s1 ρ' H' s'->ER σ l1 ρ' s'.heap env:=λa=>er1.vT a.k fe1.noSeq lI λb o v q eb=>iP.n6 ((q:b=I)▸eb);rcases n with _|n
  ·exact w.1.elim
  refine oP.k w.1 λr e w1=>HY (X:=(· = I)) ro.1 a1.r iP fe1 ag0 e (λz s2 a2=> ?_) λv x s2 z a2 r2 it2=> ?_
  ·subst z;exact EB (k _ _ _ _ _ _ w1 (off (a1.trans (a2.weak λb o _ q=>.inl q))) (keepI a2) ag0)
  ·subst z;have fe2:=fe1.kp a2.k;have wr2:=wr1.kp a2.k;refine oP.k w1 λl2 hb w1=>HX it2 (tg A env l1 H1 ρ1 s2 v x (λl' h'=>l'=l2/\h'=H1) _ _ ro (keepI a2) wr2 a2.r r2 (Ii ht hb ⟨ag0,ag0⟩) λl3 H3 ρ3 s3 q3 a3 er3=> ?_);have z1:=q3.1;have z2:=q3.2;subst z1 z2;have ax3:=(a1.trans (a2.weak (Y:=IW W I) λb o _ q=>.inl q)).trans (a3.weak λb o _ q=>.inr q);have wr3:=wr2.kp a3.k;refine xb A env l3 H3 ρ3 s3 _ _ _ ro er3 wr3 a3.r w1 λfl l4 H4 ρ4 s4 f q4 a4 er4 r4=> ?_;have ax4:=ax3.trans (a4.weak (Y:=IW W I) λb o _ q=>.inr q);have fe3:=fe2.kp a3.k
   exact .of q4 r4 (λq4=>⟨i+1,l4,H4,ρ4,q4,ax4,dm.kp (it2.kp a3.k wr2.fe.noSeq (λq=>wI I q ag0)<|fe2.mu ag0) a4.k wr3.fe.noSeq (λq=>wI I q ag0)<|fe3.mu ag0,er4,wr3.kp a4.k,fe3.kp a4.k⟩)
    λv x e rx q4=>k _ _ _ _ _ _ q4 (off ax4) er4 ⟨x,ag0,rx⟩
theorem Xy(ht:my σ t)(tg:TG c d C σ P W t (eM σ t))(xi:SI c d C σ iter it)(hs:∀env x,ug iter env x=pure x)(xb:jq c d C σ P W b b'):
 SS c d C σ P W (.For t iter b [] pos) (.for (targets σ t) it b'):=λA env l H ρ s Qa Q E' ro er wr hr w k=>
 wpAny_For (xi A env l H ρ s _ _ E' ro er hr w λiv I H0 fv s0 q0 a0 it0 fI feI=>q0.elim λn w0=>
  have wI:∀b,W b->b≠I:=λb hb=>eY ((wr.fe b hb).2.2.imp λ_=>tW) fI
  codeAny_forLoop_any (R:=RQ c A env E' Q) (Bl c C σ P W env I iv t b' Qa ρ s) (λn s1 w=>Xx (R:=RQ c A env E' Q) ht tg xb ro fI wI (wI _ wr.w) k w) n ⟨0,l,H0,fv,w0,a0.ax,it0,er.on a0.k,wr.kp a0.k,feI⟩) (hs env)
end
variable{es ifs:List aB}{ids:List Str}{ps:List (Nat×V)}{h':Heap}{z:Value}{y:Str}{q:Nat×V}{F:aB->Option Str}{x:Option Value}{v:Option (Option V)}{a:Addr}{m0:Str->Option Value}{p2 p px:Pos}{u2 u:Nat}{v':E}{w:V}{elt:aB}{sc:cC}
section
variable{P:Str->Prop}{W:Addr->Prop}{vs':List aB}
def NV(σ:Sc)(ρ:aK)(h:Heap):List (Nat×V)->List Str->List Value->Prop
 | [],ids,xs=>ids= []/\xs= []
 |p::ps,ids,xs=>cE ids λid ids=>cE xs λx xs=>(isVar σ id=some p.1/\VR ρ h p.2 x)/\NV σ ρ h ps ids xs
noncomputable abbrev sets(l:Loc)(ps:List (Nat×V)):Loc:=ps.foldl (λl p=>l.set p.1<|some p.2) l
theorem NV.gr(k:Gr ρ ρ' h h'):∀{ids:List Str} {xs:List Value},NV σ ρ h ps ids xs->NV σ ρ' h' ps ids xs:=by
 induction ps with
 |nil=>exact id
 |cons p ps ih=>exact λr=>cE.k r λ_ _ e r=>cE.k r λ_ _ e' r=>cE.of e<|cE.of e' ⟨⟨r.1.1,r.1.2.gr k⟩,ih r.2⟩
theorem NV.app(hy:isVar σ y=some q.1)(rz:VR ρ h q.2 z):∀{ids:List Str} {xs:List Value},NV σ ρ h ps ids xs->NV σ ρ h (ps++ [q]) (ids++ [y]) (xs++ [z]):=by
 induction ps with
 |nil=>intro ids xs r;have r1:=r.1;have r2:=r.2;subst r1 r2;exact ⟨⟨hy,rz⟩,ag0,ag0⟩
 |cons p ps ih=>exact λr=>cE.k r λ_ _ e r=>cE.k r λ_ _ e' r=>e▸e'▸⟨r.1,ih r.2⟩
theorem NV.rev:∀{ids:List Str} {xs:List Value},NV σ ρ h ps ids xs->NV σ ρ h ps.reverse ids.reverse xs.reverse:=by
 induction ps with
 |nil=>exact λr=>⟨agX DO r.1,agX DO r.2⟩
 |cons p ps ih=>exact λr=>cE.k r λ_ _ e r=>cE.k r λ_ _ e' r=>by subst e e';rw [oS,oS,oS];exact NV.app r.1.1 r.1.2<|ih r.2
theorem Xz{v:Option V}(no:∀p∈ps,p.1≠i):∀{l:Loc},(sets l ps).set i v=sets (l.set i v) ps:=by
 induction ps with
 |nil=>exact λ{_}=>ag0
 |cons p ps ih=>exact λ{l}=>(ih λq hq=>no q<|.tail _ hq).trans (agX (sets · ps)<|List.set_comm _ _ (no p<|.head _))
theorem XA(nd:jZ (ps.map (·.1))):sets l ps.reverse=sets l ps:=by
 induction ps with
 |nil=>rfl
 |cons p ps ih=>rw [oS];exact (List.foldl_append ..).trans ((agX (λl:Loc=>l.set p.1<|some p.2) (ih<|ar nd)).trans<|Xz λq hq e=>nb ((nt<|al nd).symm.trans<|tZ.mpr ⟨_,bB.mpr ⟨q,hq,ag0⟩,e▸qR _⟩))
def j8:List aB->List Str->Prop
 | [],ids=>ids= []
 |e::es,ids=>cE ids λid ids=>(∃q,e= .Name id q)/\j8 es ids
theorem XB(hF:∀e y,F e=some y->∃q,e= .Name y q):(es.filterMap F).length=es.length->j8 es (es.filterMap F):=by
 induction es with
 |nil=>exact λ_=>ag0
 |cons e es ih=>
  intro hl;rcases he:F e with _|y
  ·exact absurd (ae (aF<|hl.symm.trans (agX cu<|ED he))<|Pn F es)<|Nat.not_succ_le_self _
  ·exact cE.of (qM he) ⟨hF e y he,ih (qX<|(agX cu<|qM he).symm.trans hl)⟩
theorem j8.star:∀{ids:List Str},j8 es ids->es.all notStar:=by
 induction es with
 |nil=>exact λ_=>ag0
 |cons e es ih=>exact λr=>cE.k r λ_ _ _ r=>r.1.elim λq e=>e▸ih r.2
theorem j8.len:∀{ids:List Str},j8 es ids->ids.length=es.length:=by
 induction es with
 |nil=>exact λr=>agX cu r
 |cons e es ih=>exact λr=>cE.k r λ_ _ e r=>(agX cu e).trans (agX (· + 1)<|ih r.2)
theorem XC{Qa:Loc->Hp->Prop}:∀{ids:List Str} {vs:List V} {xs:List Value} {l:Loc},j8 es ids->aA ρ h vs xs->jg G C (iL σ es) vs l H Qa->
 ∃ps,NV σ ρ h ps ids xs/\fu σ es=some (ps.map (·.1))/\Qa (sets l ps) H:=by
 induction es with
 |nil=>
  intro ids vs xs l n r w;rcases vs with _|⟨v,vs⟩
  ·exact ⟨[],⟨n,r⟩,ag0,w⟩
  ·exact w.elim
 |cons e es ih=>
  intro ids vs xs l n r w;rcases vs with _|⟨v,vs⟩
  ·exact w.elim
  refine cE.k r λx xs ex r=>cE.k n λid ids ei n=>n.1.elim λq eq=> ?_;subst ex ei eq
  exact d6 (P:=λt=>hV G C t v l H (λl' h'=>jg G C (iL σ es) vs l' h' Qa)->∃ps,NV σ ρ h ps (id::ids) (x::xs)/\fu σ (.Name id q::es)=some (ps.map (·.1))/\Qa (sets l ps) H) (o:=isVar σ id) (d:=.attr .bad 0) (f:=.loc)
   (λj hj w=>(ih n.2 r.2 (FZ l w).2).elim λps z=>⟨(j,v)::ps,⟨⟨hj,r.1⟩,z.1⟩,xV (b:=(fu σ es).map (j:: ·)) (agX (λo=>jJ o λi=>(fu σ es).map (i:: ·)) hj)<|agX (dq (j:: ·)) z.2.1,z.2.2⟩) (λw=>False.elim w) w
theorem XD(ok:aP σ)(hP:∀x,P x):∀{ids:List Str} {xs:List Value} {A:bj} {l:Loc} {s:ah} {Q:Unit->ah->Prop} {E':Value->ah->Prop},NV σ ρ s.heap ps ids xs->ER σ l ρ s.heap env->Wr c σ P W ρ s.heap env->HR c.w c.hb ρ H s.heap->
 (∀s',Ax W c ρ s ρ H s'->ER σ (sets l ps) ρ s'.heap env->Q () s')->ao (Md c) A (OG (ids.map λn=>bindName env n) xs) Q E' s:=by
 induction ps with
 |nil=>exact λr er wr hr k=>r.1▸r.2▸aE (k _ (.refl hr) er)
 |cons p ps ih=>intro ids xs A l s Q E' r er wr hr k;refine cE.k r λx ids ei r=>cE.k r λy ys ex r=> ?_;subst ei ex;exact aj<|dH (wpAny_bindName<|HO ok r.1.1 (hP x) er wr hr r.1.2 λs1 a1 er1=>ih (r.2.gr<|a1.k.gr wr.fe.noSeq) er1 (wr.kp a1.k) a1.r λs' a er'=>k s' (a1.trans a) er')
theorem OV.jp(fe:FE c ρ h (· = a))(sb:gF a h h')(r:OV ρ h v x):OV ρ h' v x:=r.gr<|AV fe sb
theorem ER.jp(e:ER σ l ρ h env)(fe:FE c ρ h (· = a))(hn:h.Ns a m0)(nl:env.locals≠a)(sb:gF a h h'):ER σ l ρ h' env:=
 e.loc.elim λm r=>r.1.elim λo z=>z.elim λes z=>z.elim λep z=>⟨e.fn,e.gl,e.bi,e.kind,e.mu,⟨m,⟨o,es,ep,(sb.2 _ nl).trans z.1,z.2⟩,λx i h1 h2=>(r.2 x i h1 h2).jp fe sb⟩,
  λx i h1 h2=>(e.iN x i h1 h2).imp λb r=>r.imp λvo r=>⟨r.1,r.2.1.imp λo t=>⟨(sb.2 b λq=>Il hn (q▸t.1) t.2).trans t.1,t.2⟩,r.2.2.1,r.2.2.2.jp fe sb⟩,e.hi,e.cd⟩
def qg(X:Prop)(es:List aB)(m:Sem (Option<|List Str)):Prop:=(m=pure none->X)->(∀ids,m=pure (some ids)->j8 es ids->X)->X
theorem XE(h:(!(vs'.all<|xT 8)||vs'.all (xU 8))):qg X es (uq [.Tuple es u p] (.Tuple vs' u2 p2) env):=
 aW (P:=qg X es) (λ_ k0 _=>k0 ag0) λ_=>aW (P:=qg X es) (λ_ k0 _=>k0 ag0) λ_=>aW (P:=qg X es) (λ_ k0 _=>k0 ag0) λh3=>aW (P:=qg X es) (λ_ k0 _=>k0 ag0) λh4=>aW (P:=qg X es)
  (λh5=>absurd ((oK.mp h).elim (λq=>nb ((nt q).symm.trans h5)) id) h4) λ_ _ k1=>k1 _ rfl (XB (λe y q=>by rcases e<;>first|exact nn q|exact ⟨_,agX (PySem.Expr.Name · _) (dA.mp q |>.2 |> av)⟩) (bne_eq_false_iff_eq.mp (yn.mp (uk.mpr h3)).1))
def I8(t:aB):Prop:=∀v env,uq [t] v env=pure none
theorem XF(t:aB):om (ji t) (cond (a6 t.ctorIdx 24) True (I8 t)) λ_=>True:=by rcases t<;>first|exact trivial|exact λ_ _=>rfl
theorem XG(v:aB):om (ji v) (∀es u p env,uq [.Tuple es u p] v env=pure none) λ_=>True:=by rcases v<;>first|exact trivial|exact λ_ _ _ _=>rfl
theorem XH(t:aB):cond (a6 t.ctorIdx 24||a6 t.ctorIdx 22) (∀σ,eM σ t= .attr .bad 0) (∀env,(uf [t] env).map (·.2)= [kE t env]):=by rcases t<;>exact λ_=>rfl
def SwOk(σ:Sc)(t v:aB):Bool:=om (ji t) true λes=>om (ji v) true λvs=>(!(vs.all<|xT 8)||vs.all (xU 8))&&om (fu σ es) true jZ
theorem XI{v:aB}(h:SwOk σ t v)(nl:a6 t.ctorIdx 24=false)(k0:uq [t] v env=pure none->X)(k1:∀es u p ids,t= .Tuple es u p->uq [t] v env=pure (some ids)->j8 es ids->om (fu σ es) true jZ=true->X):X:=by
 have q0:=XF t;unfold SwOk at h;rcases ht:ji t with _|es
 ·rw [ht] at q0;exact k0 ((agX (λb=>cond b True (I8 t)) nl).mp q0 v env)
 ·refine AZ ht λu p e=> ?_;subst e;have q1:=XG v;rcases hv:ji v with _|vs
  ·rw [hv] at q1;exact k0 (q1 es u p env)
  ·refine AZ hv λu2 p2 e=> ?_;subst e;have h:((!(vs.all<|xT 8)||vs.all (xU 8))&&om (fu σ es) true jZ)=true:=h;exact XE (al h) k0 λids e n=>k1 es u p ids ag0 e n<|ar h
variable{s1:ah}{v:aB}
theorem XJ{x:Value}(ok:aP σ)(hP:∀x,P x)(n:j8 es ids)(nd:om (fu σ es) true jZ=true)(ro:Ro d A)(er:ER σ l ρ s.heap env)(wr:Wr c σ P W ρ s.heap env)(hr:HR c.w c.hb ρ H s.heap)(r:VR ρ s.heap w x)(q:hV G C (.tup<|iL σ es) w l H λl' h2=>Qa .next l' h2)(k:SQ c σ W env Qa Q ρ s):ao (Md c) A (assignStores env x (some ids) []) Q E' s:=
 oP.k q λvs ev q=>by have ev:=z9 ev;subst ev;refine nY r λtt xs ex ht rs _=> ?_;subst ex;have ln:ids.length=xs.toArray.size:=n.len.trans<|(AS es).symm.trans (q.1.symm.trans<|rs.len.trans (fg ..).symm);refine aj<|nh ?_;rw [ln];refine aj<|wpAny_unpackItems_tuple ro.1 ht λh' he=> ?_;have a2:Af c ρ s ρ H {s with heap:=h'}:=HT (tk:=s.toks) hr he;exact (XC n (rs.on a2.k) q.2).elim λps z=>aj (XD ok hP z.1.rev (er.on a2.k) (wr.kp a2.k) a2.r λs' a er'=>aE<|k _ _ _ _ _ _ z.2.2 (a2.ax.trans a) ((XA ((agX (λo=>om o true jZ) z.2.1).symm.trans nd):sets l ps.reverse=sets l ps)▸er') ag0)
theorem I9(ok:aP σ)(hP:∀x,P x)(h:SwOk σ t v)(tg:TG c d C σ P W t (eM σ t))(xv:SE c d C σ v v')(sw:EC v (some t) pos.line env=pure false)(ro:Ro d A)(er:ER σ l ρ s.heap env)(wr:Wr c σ P W ρ s.heap env)(hr:HR c.w c.hb ρ H s.heap)(w:pQ G C (.ag (eM σ t) v') l H Qa)(k:SQ c σ W env Qa Q ρ s):ao (Md c) A (exec (.Assign [t] v pos) env) Q E' s:=by
 have z:=XH t;refine cZ (exec_Assign ..) (aj (jC (aj (cZ (show swapsWithSole [t] v pos.line env=pure false from sw) (aE (jo qS (aj (xv A env l H ρ s _ _ E' ro er hr w λu x H1 ρ1 s1 q1 a1 r1=> ?_))))))));rcases hb:(a6 t.ctorIdx 24||a6 t.ctorIdx 22) with _|_
 ·rw [hb] at z;refine XI (env:=env) h (yn.mp hb).1 (λe=> ?_) λes u' p ids et e n nd=> ?_
  ·refine aj (cZ e<|aE ?_);exact z env▸aj (tg A env l H1 ρ1 s1 u x _ _ E' ro (er.on a1.k) (wr.kp a1.k) a1.r r1 q1 λl' H' ρ' s' q a er'=>aE<|k _ _ _ _ _ _ q (a1.ax.trans a) er' ag0)
  ·subst et;exact aj (cZ e (aE (XJ ok hP n nd ro (er.on a1.k) (wr.kp a1.k) a1.r r1 ((agX (λt=>hV G C t u l H1 λl' h2=>Qa .next l' h2) (A1 n.star)).mp q1) (k.on a1.ax))))
 ·rw [hb] at z;exact ((agX (λt=>hV G C t u l H1 λl' h2=>Qa .next l' h2) (z σ)).mp q1).elim
theorem XK(ok:aP σ)(hP:∀x,P x)(h:SwOk σ t v)(hc:pR v)(tg:TG c d C σ P W t (eM σ t))(xv:SE c d C σ v v'):SS c d C σ P W (.Assign [t] v pos) (.ag (eM σ t) v'):=
 λA env l H ρ s Qa Q E' ro er wr hr w k=>I9 ok hP h tg xv (bI (I6 v) hc _ _ _) ro er wr hr w k
theorem XM{spos:Pos}{x:Str}(ok:aP σ)(hP:∀x,P x)(f:sG c d C σ rec sc t elt ifs)(xi:SI c d C σ iter it)(hs:∀env x,ug iter env x=pure x)(ty:TG c d C σ P W (.Name x px) (eM σ<|.Name x px)):
 SS c d C σ P W (.Assign [.Name x px] (.ListComp elt [⟨t,iter,ifs,0⟩] sc pos) spos) (.ag (eM σ<|.Name x px)<|A6 σ rec sc t elt ifs it):=λA env l H ρ s Qa Q E' ro er wr hr w k=>by
 have sw:∃b,EC (.ListComp elt [⟨t,iter,ifs,0⟩] sc pos) (some (.Name x px)) spos.line env=pure b:=⟨_,rfl⟩;refine sw.elim λb sw=> ?_;rcases b with _|_
 ·exact I9 ok hP ag0 ty (Iq f xi hs) sw ro er wr hr w k
 ·refine cZ (exec_Assign_Name_used _ _ _ _ sw)<|aj (jC<|aj ?_);show ao (Md c) A (OS (.ListComp elt [⟨t,iter,ifs,0⟩] sc pos) sc env _ (yD []) false (eval iter env) (some<|kE (.Name x px) env) >>= λ_=>pure ()) _ _ s;refine aj<|Ip (use:=some<|kE (.Name x px) env) f xi (hs env) ro er hr w λv D Cc m H' ρ' s' q a vr hn fe nC=> ?_;have nW:∀b,W b->b≠Cc:=λb hb=>eY ((wr.fe b hb).2.2.imp λ_=>tW) nC
  exact ty A env l H' ρ' s' v (.ref D) _ _ E' ro (er.on a.k) (wr.kp a.k) a.r vr q λl' H2 ρ2 s2 q2 a2 er2=>
   have hn2:s2.heap.Ns Cc m:=(Ns.kp a2.k hn (fe.mu ag0) λq=>nW _ q ag0).1
   ⟨m,hn2,λh' sb=>aE (aE<|k _ _ _ _ _ _ q2 (Ax.jp (a.ax.trans a2) nC (fe.kp a2.k) sb) (er2.jp (fe.kp a2.k) hn2 (nW _ wr.w) sb) ag0)⟩
end
variable{v:V}{m:Str}{q kp ap cp:Pos}{src' o':E}{src o:aB}{a uu:Nat}{ex:Bool}{Q:Value->ah->Prop}
section
variable{x y:Value}{f:Nat}
theorem Ro.I'(r:Ro d A):Rc d A.in1.in1:=⟨r.1,ae (eB (au ag0) _) r.2.1,ae (ae (aF<|agX (· + 50) (gX A.units 2<|5*d)) (eB (au rfl:52<=100)<|A.units+5*d)) r.2.2⟩
theorem Bm(hr:HR c.w c.hb ρ H h)(r:VR ρ h v x)(hs:je H v=some us):us.length<4001:=
 ob hs λa ea hs=>ob hs λo hH ho=>hY hr (kX ea▸r) (hH.trans (agX some<|fS ho)) λp xs n ex hp hL rs g=>yH g
theorem XN(co:CO c d C)(ok:aP σ)(g:bN σ (am "sorted"))(hs:notStar src)(xs:SE c d C σ src src'){f:Str}{fp:Pos}(gf:bN σ f)(e:kY.lookup f=some n):
 SE c d C σ (.Call (.Name (am "sorted") q) [src] [⟨some<|am "key",.Name f fp,kp⟩] pos) (.pL src' n false):=λA env l H ρ s Qa Q E' ro er hr w k=>
 kx (k9 ok g er hr (lh c.w.params<|by decide) Boot.«sorted» (by decide) (yN (kr (xs A env l H ρ s _ _ E' ro er hr w λv x H1 ρ1 s1 q1 a1 r1=>oM (yO (nU ok gf (er.on a1.k) a1.r (AF c.w.params e) (EE (
  oP.k q1 λus hus q1=>Bj (J:=λ_ _=>True) (ksk_s1 _ _) (λy=>ksk_l1 _ _) (λy=>ksk_t1 _ _) (λ_ _ _ _ _ _ _ _ _=>trivial) (λ_ _ _=>trivial) (λv x H ρ s Qa Q E' _ hr r w k=>co.wp A.in1.in1 n [v] [x] H ρ s Qa Q E' ro.I' hr ⟨r,ag0⟩ w k)
   (ro.u 30 ag0) a1.r r1 hus (Bm a1.r r1 hus) q1 λv z H' ρ' s' q a r=>k _ _ _ _ _ q (a1.trans a) r))))) (dj hs _ env)) (by rw [dj hs [] env];rfl) (plain_any (es:=[src])<|(oY _).trans hs) ag0 rfl))
theorem XO(P:aD)(h:a∈bV):tV (KX P) (.ref a) "__get__"=some (some<|.builtin "function.__get__")/\Dx (KX P) (.ref a)=some false:=
 have e:=bU.mp (R7 P) a h
 ⟨pV<|al e,agY<|ar e⟩
theorem XQ(hn:atT[n]? = some m):copiedNames.contains m=false:=nt (bU.mp R9 m<|cG hn)
theorem XR(hn:atT[n]? = some m)(hr:HR c.w c.hb ρ H s.heap)(r:VR ρ s.heap v y)(hm:nM G H v n=some f)(k:∀a b s',v= .ref a->Af c ρ s ρ H s'->s'.heap.get? b=some (EF (.ref<|bV.getD f 0) y)->¬Mu ρ b->s.heap.get? b=none->Q (.ref b) s'):ao (Md c) A (getAttr y m ex) Q E' s:=
 vD hr r hm λa p cl fs cd C es m' hp ea ey ha ht F e3 e4 e5 _ e=>by
  have hmem:=mem_lookup e;have hlt:=sv (au<|bU.mp (al (bU.mp AI _<|mem_lookup ht)) _ hmem);have q:=XO c.w.params hlt;have z:=hr.push<|EF (.ref<|bV.getD f 0) y;subst ey
  exact get_bind (c.cY hr) (pW e3 e4) F.ga (findObj_fn (F.Aw.elim λxc hc=>(agX (λo=>o.any (·.hasDict)) hc.1).trans hc.2.1) (vC hn▸(F.GP _ hmem).1) q.1 q.2 (XQ hn) ((DE m es m').trans<|G0 hn e5 λg hg q=>(F.fld g hg).2 _ hmem q)) F.gt
   (qT (fn_get (c.cY hr) (AH c.w.params hlt)<|show ao (Md c) A (handedOut<|.ref s.heap.objs.size) Q E' _ from aE (k a _ _ ea ⟨z.1,z.2,ag0,ag0⟩ (jD _ ag0) (λq=>q.elim λp hp=>eY (hr.alive hp.1).2 (eO _) hp.2)<|eO _)))
theorem XS(co:CO c d C)(ok:aP σ)(g:bN σ (am "sorted"))(hs:notStar src)(xs:SE c d C σ src src'){kp2:Pos}(hn:atT[n]? = some m)(xo:SE c d C σ o o')(hb:la o):
 SE c d C σ (.Call (.Name (am "sorted") q) [src] [⟨some<|am "key",.Attribute o m ap,kp⟩,⟨some<|am "reverse",.Constant (.bool true) uu cp,kp2⟩] pos) (.kT src' o' n true):=λA env l H ρ s Qa Q E' ro er hr w k=>
 kx (k9 ok g er hr (lh c.w.params<|by decide) Boot.«sorted» (by decide) (yN (kr (xs A env l H ρ s _ _ E' ro er hr w λv x H1 ρ1 s1 q1 a1 r1=>oM (yO (NJ
  (xo A env l H1 ρ1 s1 _ _ E' ro (er.on a1.k) a1.r q1 λov y H2 ρ2 s2 q2 a2 r2=>oP.k q2 λus hus q2=>oP.k q2 λf hmf q2=>XR hn a2.r r2 hmf λa b s3 ea a3 eb nm nb=>yO (NC (EE (
   have a13:=(a1.trans a2).trans a3;have r3:=r2.on a3.k
   Bj (J:=λρ' h'=>h'.get? b=some (EF (.ref<|bV.getD f 0) y)/\¬Mu ρ' b/\VR ρ' h' (.ref a) y) (ksk_s2 _ _ _) (λy=>ksk_l2 _ _ _) (λy=>ksk_t2 _ _ _)
    (λX ρ ρ' h h' j hx fe kp=>⟨kp.keep _ _ j.1 j.2.1 λq=>cQ (hx b q) eb,kp.mu j.1 j.2.1,j.2.2.imp λp e=>⟨kp.pre e.1,e.2⟩⟩) (λρ' h' kp=>⟨kp.keep _ _ eb nm id,kp.mu eb nm,ea▸r3.on kp⟩)
    (λv x H ρ s Qa Q E' j hr r w k=>qT (method_call j.1<|co A.in1.in1 f [.ref a,v] [y,x] H ρ s Qa _ ro.I' hr ⟨j.2.2,r,ag0⟩ (ea▸w) k)) (ro.u 30 ag0) a3.r ((r1.on a2.k).on a3.k) hus (Bm a2.r (r1.on a2.k) hus) q2 λv z H' ρ' s' q a r=>k _ _ _ _ _ q (a13.trans a) r))))
   ((NK ..).trans<|by rw [hb])))) (dj hs _ env)) (by rw [dj hs [] env];rfl) (plain_any (es:=[src])<|(oY _).trans hs) ag0 rfl))
end
variable{v:Value}{H2:Hp}{c' a:Addr}{params:dC}{body:aB}{scope:cC}{ps:Array Value}{q:Addr×Addr}{x:Option Nat}{o:O}
noncomputable def Ja:Value->Bool
 | .str _ _=>true
 |_=>false
noncomputable def Bn:Value->Bool
 | .int _ _=>true
 |_=>false
noncomputable def Jb:Value->Bool
 | .bool _=>true
 |_=>false
theorem XT(e:Ja v):∃x t,v= .str x t:=by rcases v<;>first|exact nb e|exact ⟨_,_,rfl⟩
theorem Jc(e:Bn v):∃x t,v= .int x t:=by rcases v<;>first|exact nb e|exact ⟨_,_,rfl⟩
theorem XU(e:Jb v):∃x,v= .bool x:=by rcases v<;>first|exact nb e|exact ⟨_,rfl⟩
def XV(vs:Array Value):Bool:=decide (vs[11]? = some (.ref 1602))&&decide (vs.getD 11 .none= .ref 1602)&&Ja (vs.getD 18 .none)&&Bn (vs.getD 7 .none)&&Jb (vs.getD 9 .none)&&Bn (vs.getD 10 .none)
def XW(P:aD):Bool:=((KX P).lookup 1604).any λo=>decide (o.cls= .type "code")&&(zN o.data).any XV
theorem XX(P:aD):XW P:=by kernel_rfl
theorem Bp{P:aD}(X:Frag.In (KX P) h):CodeHd h 1604 PT:=
 ((eC ..).mp<|XX P).elim λo e=>((eC ..).mp<|ar e.2).elim λvs q=>by
  have c:=q.2;have c1:=al c;have c2:=al c1;have c3:=al c2;have c4:=al c3
  exact (XT<|ar c3).elim λf w=>w.elim λtf w1=>(Jc<|ar c2).elim λg w=>w.elim λtg w2=>(XU<|ar c1).elim λb w3=>(Jc<|ar c).elim λt w=>w.elim λtt w4=>
   ⟨o,vs,f,tf,g,tg,b,t,tt,X _ _ e.1,agY<|al e.2,FK q.1,agY<|al c4,agY<|ar c4,w1,w2,w3,w4,by decide⟩
section
variable{hm:Heap}{P':Addr}
theorem XY(ps:Array Value):db (gc ps):=λw=>nomatch w
theorem XZ(hr:HR c.w c.hb ρ H h)(e1:ρ[(1:Nat)]? = some (PT,PT))(hH:H[(1:Nat)]? = some (.tab none))(hx:∀b o,h.get? b=some o->hm.get? b=some o)(hc:h.get? c'=none)(hP:h.get? P'=none)(ra:OR c.w (ρ++ [(c',P')]) hm (c',P') .aux)(sb:gF PT hm h')(et:h'.get? PT=some (gc #[gE 1155,gE 60,.ref c'])):HR c.w c.hb (ρ++ [(c',P')]) (H.set 1 (.tab<|some H.length)++ [.aux]) h'/\Kp dX ρ (ρ++ [(c',P')]) h h':=
 have a:=hr.add (p:=(c',P')) (o:=.aux) hx hc hP ra;have b:=a.1.upd (i:=1) (p:=(PT,PT)) (o:=.tab<|some H.length) (uU e1) sb ⟨ag0,ag0,_,et,(c',P'),hr.len▸FJ,ag0⟩ (λx' e=>av (et.symm.trans e)▸XY _) (λns q=>nomatch (uU (a:=O.aux) hH).symm.trans q) nofun
 ⟨(List.set_append_left _ _ (fM hH):(H++ [O.aux]).set 1 (.tab<|some H.length)=_)▸b.1,a.2.trans b.2⟩
theorem X2(hr:HR c.w c.hb ρ H h)(e1:ρ[(1:Nat)]? = some (PT,PT))(hH:H[(1:Nat)]? = some (.tab none))(hx:∀b o,b≠PT->h.get? b=some o->h'.get? b=some o)(hc:h.get? c'=none)(hP:h.get? P'=none)(ne:c'≠P')(rec':h'.CodeRec (.ref c') gL)(ec:∃o,h'.get? c'=some o/\o.cls= .type "code")(eP:∃o,h'.get? P'=some o)(et:h'.get? PT=some (gc #[gE 1155,gE 60,.ref c']))(e0:h.get? PT=some (gc #[])):
 HR c.w c.hb (ρ++ [(c',P')]) (H.set 1 (.tab<|some H.length)++ [.aux]) h'/\Kp dX ρ (ρ++ [(c',P')]) h h':=
 have nc:c'≠PT:=cU<|eY ⟨_,e0⟩ hc;have nP:P'≠PT:=cU<|eY ⟨_,e0⟩ hP;have sb:gF PT h' (h'.update PT λ_=>gc #[]):=jG h' PT _;have um:(h'.update PT λ_=>gc #[]).get? PT=some (gc #[]):=D1 _ et ag0
 XZ hr e1 hH (λb x e=>(dz<|b=PT).elim (λq=>q▸um.trans (e0.symm.trans<|q▸e)) λq=>(sb.2 b q).trans<|hx b x q e) hc hP
  ⟨ne,rec'.at λo e=>(sb.2 _ nc).trans e,ec.imp λo w=>⟨(sb.2 _ nc).trans w.1,w.2⟩,eP.imp λo w=>(sb.2 _ nP).trans w⟩ ⟨sb.1.symm,λb q=>(sb.2 b q).symm⟩ et
def Bq(c:Cx)(ρ:aK)(s:ah)(H2:Hp)(params:dC)(body:aB)(scope:cC)(Q:Value->ah->Prop):Prop:=
 ∀b c' ctv ρ' s',Af c ρ s ρ' H2 s'->s'.heap.get? b=some (rA "<lambda>" gL params body scope [] ((c.mg "__name__").getD .none) c' ctv)->¬Mu ρ' b->s'.heap.CodeRec (.ref c') gL->¬Mu ρ' c'->Q (.ref b) s'
theorem wj(hr:HR c.w c.hb ρ H h)(n:h.get? a=none):¬Mu ρ a:=λq=>q.elim λp hp=>eY (hr.alive hp.1).2 n hp.2
theorem Jd(hr:HR c.w c.hb ρ H h)(n:c.hb.get? PT=none):h.BuiltinsAt c.mg PT:=c.bm.elim λbm w=>w.elim λob w=>
 ⟨bm,ob,w.1,w.2.1,(λq=>c.t.g.elim λo r=>r.elim λes r=>r.elim λep r=>nomatch (get_eq (q▸w.2.2.1) r.1 r.2.1).symm.trans w.2.2.2.2.2),eY ⟨_,w.2.2.1⟩ n,hr.base _ _ w.2.2.1,w.2.2.2.1,w.2.2.2.2.1,w.2.2.2.2.2⟩
theorem X3(er:ER σ l ρ s.heap env)(hr:HR c.w c.hb ρ H s.heap)(n:c.hb.get? PT=none)(cd1:env.code= .ref 1604)(hcl:rh scope env=pure [])(t3:s.heap.get? PT=some (gc #[gE 1155,gE 60,.ref q.1]))(hq:ρ[i]? = some q)(o:OR c.w ρ s.heap q .aux)(hp1:pos.line=1155)(hp2:pos.col=60)(k:Bq c ρ s H params body scope Q):ao (Md c) A (EG (am "<lambda>") gL params (.expr body) scope env [] [] [] pos pos.line) Q E' s:=
 kla_makeFunctionHit (mg:=c.mg) hcl er.gl (c.t.g.keeps hr.base) cd1 (Bp<|c.cY hr) t3 trivial (cv:=.ref q.1) (by
  show (if ((1155:Int) == (pos.line:Int)&&(60:Int) == (pos.col:Int))=true then some (jH q.1) else _)=_;rw [hp1,hp2]
  rfl) (Jd hr n) λctv h' tk hk hsz=>
  have kk:∀b o,s.heap.get? b=some o->(h'.push<|rA "<lambda>" gL params body scope [] ((c.mg "__name__").getD .none) q.1 ctv).get? b=some o:=λb o e=>dG _<|hk b o e
  k h'.objs.size q.1 ctv ρ _ (jm (tk:=tk) hr kk) (jD _ ag0) (wj hr<|ku hsz) (o.2.1.keeps kk) λz=>z.elim λq' hq'=>(Ny.mp hq'.1).elim λj ej=>
   (dz<|i=j).elim (λe=>o.1<|(av (hq.symm.trans<|e▸ej)▸hq'.2.symm:q.1=q.2)) λe=>(hr.inj i j _ _ hq ej e).2.1 hq'.2.symm
theorem X4(er:ER σ l ρ s.heap env)(hr:HR c.w c.hb ρ H s.heap)(n:c.hb.get? PT=none)(cd1:env.code= .ref 1604)(hcl:rh scope env=pure [])(t3:s.heap.get? PT=some (gc #[]))(hp:ρ[(1:Nat)]? = some (PT,PT))(eH:H[(1:Nat)]? = some (.tab none))(hp1:pos.line=1155)(hp2:pos.col=60)(k:Bq c ρ s (H.set 1 (.tab<|some H.length)++ [.aux]) params body scope Q):ao (Md c) A (EG (am "<lambda>") gL params (.expr body) scope env [] [] [] pos pos.line) Q E' s:=by
 rw [makeFunction_eq];simp only [No,List.filterMap_nil,Po,if_true,pure_bind];unfold makeTail;rw [hcl,er.gl];refine aj (aE ?_);simp only [Po,if_true];have cd:=Bp (c.cY hr);refine aj (aE (aj (wpAny_functionCodeX cd1 (cd.code t3 trivial) (cd.tab t3) rfl λc' h' tk hx hge hlt _ hrec htb' z=>z.elim λP' z=> ?_)));have hg':=(c.t.g.keeps hr.base).extBut hx (show dE≠PT by decide);refine (Jd hr n).elim λbm b=>b.elim λob b=> ?_;refine aj (wpAny_builtinsFor hg' b.1 b.2.1 (hx _ _ b.2.2.2.1 b.2.2.2.2.1) b.2.2.2.2.2.1 b.2.2.2.2.2.2.1 b.2.2.2.2.2.2.2 (aj (wpAny_nsGet hg' (aj (aE (oT ?_ (by size_fits)))))));obtain ⟨o,vs,file,tf,flags,tg,inF,text,tt,op,y1,y2,y3,y4,y5,y6,y7,y8,y9,y10,y11⟩:=z.2.1;have nc:s.heap.get? c'=none:=ku hge;have nP:s.heap.get? P'=none:=ku z.1
 have r:=X2 (h':=h'.push<|rA "<lambda>" gL params body scope [] ((c.mg "__name__").getD .none) c' .none) hr hp eH (λb o q e=>dG _<|hx b o q e) nc nP y11 (hrec.push _) (z.2.2.1.elim λoc w=>w.elim λvc w=>⟨oc,dG _ w.1,w.2.1⟩)
  ⟨op,dG _ y8⟩ (by have q:=dG (rA "<lambda>" gL params body scope [] ((c.mg "__name__").getD .none) c' .none) htb'.2;rw [hp1,hp2] at q;exact q) t3
 have two:∀{a:Addr},s.heap.get? a=none->a≠P'->¬Mu (ρ++ [(c',P')]) a:=λn ne q=>q.elim λp hp=>(b9.mp hp.1).elim (λw=>wj hr n ⟨p,w,hp.2⟩) λw=>ne<|hp.2.symm.trans (agX o0<|cr.mp w);exact k h'.objs.size c' .none _ _ ⟨r.1,r.2,ag0,ag0⟩ (jD _ ag0) (two (ku (ae hge<|cV hlt))<|cU (eY ⟨_,y8⟩<|eO h')) (hrec.push _)<|two nc y11
theorem Je(e:vf o=some x):o= .tab x:=oI.k (k:=λx=>o= .tab x) (by clear e;rcases o<;>first|exact trivial|exact rfl) e
theorem X5(e:z6 o):o= .aux:=by rcases o<;>first|exact nb e|exact rfl
theorem X6(hl:σ.lam)(er:ER σ l ρ s.heap env)(hr:HR c.w c.hb ρ H s.heap)(ht:rT H=some H2)(hp1:pos.line=1155)(hp2:pos.col=60)(zJ:defaultsOf params env=([],[]))(hcl:rh scope env=pure [])(k:Bq c ρ s H2 params body scope Q):ao (Md c) A (eval (.Lambda params body scope pos) env) Q E' s:=by
 refine kla_eval zJ ?_;have e2:env.qual++am "<lambda>"=gL:=agX (· ++ am "<lambda>") (er.cd hl).2;show ao (Md c) A (EG (am "<lambda>") (env.qual++am "<lambda>") params (.expr body) scope env [] [] [] pos pos.line) Q E' s;rw [e2];refine ob ht λo eH w=>ob w λo1 et w=> ?_;have eH:=eH.trans (agX some (Je et));refine (hr.at eH).elim λp w1=>w1.2.2.2.elim λps t=> ?_;have n:=(hr.new 1 _ _ w1.1 eH nofun).1;have e1:p=(PT,PT):=tK w1.2.2.1 (w1.2.1.symm.trans w1.2.2.1);subst e1;rcases o1 with _|i
 ·have tr:=t.2;have tr:ps= #[]:=tr;subst tr;exact X4 er hr n (er.cd hl).1 hcl t.1 w1.1 eH hp1 hp2<|av w▸k
 ·refine t.2.elim λq tq=>ob w λo2 ei w=>ba (P:=λo=>o=some H2->_) (λax w=> ?_) (λ_=>nn) w;have ps':=tq.2;subst ps';exact X3 er hr n (er.cd hl).1 hcl t.1 tq.1 (hr.obj _ _ _ tq.1<|ei.trans (agX some<|X5 ax)) hp1 hp2<|av w▸k
end
variable{x qual:Str}{ps l:List Str}{names:List (Str×NameKind)}{k:Nat}{func:Option Addr}{code:Value}{u:V}{b:Option Value}
section
variable{κ:Str->Option NameKind}
theorem X7:∀{xs:List Value} {m:Str->Option Value},y∉ps->yP κ (ps.zip xs) m y=m y:=by
 induction ps with
 |nil=>exact λ_=>ag0
 |cons p ps ih=>
  intro xs m h;rcases xs with _|⟨x,xs⟩
  ·rfl
  ·exact (ih λq=>h<|.tail _ q).trans<|aW (P:=λf:Str->Option Value=>f y=m y) (λ_=>if_neg (λq:y=p=>h<|q▸ .head _)) λ_=>ag0
theorem X8:∀{xs:List Value} {m:Str->Option Value},y∉ps->yQ κ (ps.zip xs) m y=m y:=by
 induction ps with
 |nil=>exact λ_=>ag0
 |cons p ps ih=>
  intro xs m h;rcases xs with _|⟨x,xs⟩
  ·rfl
  ·exact (ih λq=>h<|.tail _ q).trans<|aW (P:=λf:Str->Option Value=>f y=m y) (λ_=>ag0) λ_=>if_neg (λq:y=p=>h<|q▸ .head _)
theorem X9(hk:κ y=some .local):∀{xs:List Value} {m:Str->Option Value} {i:Nat},ps.Nodup->ps[i]? = some y->xs[i]? = some v->yP κ (ps.zip xs) m y=some v:=by
 induction ps with
 |nil=>exact λ_ h _=>nn h
 |cons p ps ih=>
  intro xs m i nd h1 h2;have nd:=dF.mp nd;rcases xs with _|⟨x,xs⟩
  ·exact nn h2
  ·rcases i with _|i
   ·have h1:p=y:=av h1;subst h1;exact (X7 nd.1).trans ((congrFun (if_pos hk) p).trans<|(if_pos ag0).trans h2)
   ·exact ih nd.2 h1 h2
theorem Yb(hk:κ y≠some .local):∀{xs:List Value} {m:Str->Option Value} {i:Nat},ps.Nodup->ps[i]? = some y->xs[i]? = some v->yQ κ (ps.zip xs) m y=some v:=by
 induction ps with
 |nil=>exact λ_ h _=>nn h
 |cons p ps ih=>
  intro xs m i nd h1 h2;have nd:=dF.mp nd;rcases xs with _|⟨x,xs⟩
  ·exact nn h2
  ·rcases i with _|i
   ·have h1:p=y:=av h1;subst h1;exact (X8 nd.1).trans ((congrFun (if_neg hk) p).trans<|(if_pos ag0).trans h2)
   ·exact ih nd.2 h1 h2
end
theorem Jf:∀{n:Nat} {acc:List (Str×Addr)},(names.lookup x=some .cell\/(acc.lookup x).isSome=true)->((EH n names acc).lookup x).isSome:=by
 induction names with
 |nil=>exact λh=>h.elim nn id
 |cons p r ih=>
  intro n acc h;obtain ⟨y,k⟩:=p;rcases dz (x=y) with e|e
  ·exact aW (P:=λl=>(lO x l).isSome=true) (λ_=>ih<|.inr (agX ym<|n5 (p:=(y,n)) e)) λhk=>ih (.inr<|h.elim (λh=>absurd (beq_iff_eq.mpr (av<|(n5 (p:=(y,k)) e).symm.trans h)) hk) id)
  ·have h:=h.imp (λh=>(p9 (p:=(y,k)) e).symm.trans h) id;exact aW (P:=λl=>(lO x l).isSome=true) (λ_=>ih<|h.imp id λh=>(agX ym<|p9 (p:=(y,n)) e).trans h) λ_=>ih h
theorem Yc:∀{n i:Nat},(l.zipIdx n).lookup x=some i->n<=i/\l[i-n]? = some x:=by
 induction l with
 |nil=>exact λh=>nn h
 |cons y l ih=>
  intro n i h;rcases dz (x=y) with e|e
  ·have z:n=i:=av<|(n5 (p:=(y,n)) e).symm.trans h;subst z;exact ⟨cf _,(agX ((y::l)[·]?)<|Nv n).trans<|agX some e.symm⟩
  ·have z:=ih<|(p9 (p:=(y,n)) e).symm.trans h;exact ⟨yG z.1,(agX ((y::l)[·]?)<|(Nat.sub_add_cancel (Nat.le_sub_of_add_le<|iZ 1 n▸z.1)).symm.trans (agX (· + 1)<|Nat.sub_sub i n 1)).trans z.2⟩
section
variable{sl:List Str}{lam:Bool}{s1:ah}
def Jg(L:Addr)(cs:List (Str×Addr))(b:Addr):Prop:=b=L\/∃n,cs.lookup n=some b
theorem Jh(hl:vs.length=n)(e:(vs.map some++cg k (none:Option V))[j]? = some (some u)):j<n/\vs[j]? = some u:=
 have l:(vs.map some).length=vs.length:=aG ..
 (Dt j (vs.map some).length).elim (λq=>(bF.mp ((fb ..).symm.trans<|(oD q).symm.trans e)).elim λa w=>⟨hl▸l▸q,w.1.trans w.2⟩)
  λq=>nn (List.eq_of_mem_replicate (cG<|(Du q).symm.trans e)).symm
theorem Ji(hsl:∀(i:Nat),i<ps.length->sl[i]? = ps[i]?)(hl:vs.length=ps.length)(r:aA ρ h vs xs)(e:sl.zipIdx.lookup y=some i)(g:∀z,ps[i]? = some y->xs[i]? = some z->b=some z):
 OV ρ h (vs.map some++cg k (none:Option V))[i]? b:=λu q=>
 have z:=Jh hl q
 (r.at z.2).imp λx w=>⟨g x ((hsl i z.1).symm.trans<|(agX (sl[·]?)<|D3 i).symm.trans (Yc e).2) w.1,w.2⟩
theorem Yd(o:Option NameKind):vy o o:=λq e=>e▸H9
theorem Jj(hk:sc.kind= .function)(hsl:∀(i:Nat),i<ps.length->sl[i]? = ps[i]?)(nd:ps.Nodup)(he:env=newEnv sc s.heap.objs.size dE (EH (s.heap.objs.size+1) sc.names []) qual func code none jz)(x:InCallC s env.locals (yP env.kindOf (ps.zip xs) λ_=>none) env.cells (yQ env.kindOf (ps.zip xs) λ_=>none) s1)(hr:HR c.w c.hb ρ H s.heap)(r:aA ρ s.heap vs xs)(hl:vs.length=ps.length)(hcd:lam->code= .ref 1604/\qual=am "_law_strings.<locals>."):
 ER ⟨sc.names,sl.zipIdx,lam⟩ (vs.map some++cg k none) ρ s1.heap env/\Wr c ⟨sc.names,sl.zipIdx,lam⟩ (λ_=>True) (Jg env.locals env.cells) ρ s1.heap env/\Af c ρ s ρ H s1:=
 x.done.elim λh1 w=>w.elim λtk w=>by
  have es:=w.1;subst es;have af:Af c ρ s ρ H {s with heap:=h1,toks:=tk}:=jm hr w.2;have r1:=r.on af.k;have nL:s.heap.get? env.locals=none:=ku<|aF (agX Env.locals he).symm;have eK:∀y,env.kindOf y=sc.names.lookup y:=λy=>agX (λe:Env=>e.kindOf y) he;have nC:∀{y a},env.cells.lookup y=some a->s.heap.get? a=none:=λe=>ku (cV<|bx (aF (agX Env.locals he).symm) (x.above _ _<|yR e))
  exact ⟨⟨(agX (λe:Env=>e.scope.kind) he).trans hk,agX Env.globals he,agX Env.builtins he,λy=>eK y▸Yd _,wj hr nL,
   ⟨_,x.toInCall.ns,λy i e1 e2=>Ji hsl hl r1 e2 λz h1 h2=>X9 ((eK y).trans e1) nd h1 h2⟩,
   λy i e1 e2=>(oU.mp (Jf (x:=y) (n:=s.heap.objs.size+1)<|.inl e1)).imp λa ha=>
    have ha:env.cells.lookup y=some a:=(agX (λe:Env=>e.cells.lookup y) he).trans ha
    ⟨_,ha,x.cell _ _ ha,wj hr<|nC ha,Ji hsl hl r1 e2 λz h1 h2=>Yb (λq=>nomatch ((eK y).trans e1).symm.trans q) nd h1 h2⟩,
   λj u e=>have z:=Jh hl e;⟨ps[j]'z.1,cG (i:=j) ((Oi ..).trans<|(agX (dq λa=>(a,0+j)) ((hsl j z.1).trans<|de z.1)).trans (agX (λi=>some (ps[j]'z.1,i))<|jF j))⟩,
   λe=>⟨(agX Env.code he).trans (hcd e).1,(agX Env.qual he).trans (hcd e).2⟩⟩,
   ⟨.inl ag0,λb hb=>hb.elim (λz=>z▸(HL x.toInCall.ns).elim λo w=>wh hr nL w.1 w.2 _ ag0) λz=>z.elim λy z=>(HM<|x.cell _ _ z).elim λo w=>wh hr (nC z) w.1 w.2 _ ag0,
    λy _ e=>⟨(eK y).trans e,λa ha=>⟨.inr ⟨y,ha⟩,λz hz=>name_of_addr x.apart (yR hz)<|yR ha⟩⟩⟩,af⟩
end
variable{Qa:bA}{x:Value}{v:V}{p:Str}{lp:Pos}{args:dC}
theorem Ye(ro:Ro d A)(hd:3<=d)(env:Env):Ro 0 (A.in1.in1.deeper env):=
 ⟨ro.1,ae (jA (eB (ae (au ag0) hd:1<=d) A.depth) 10) ro.2.1,
  ae (jA (eB (Nat.le_mul_of_pos_right 5 (bC (xR 2) hd):5<=5*d) A.units) 100) ro.2.2⟩
theorem Yg{b:Addr}{body':E}{pm ctv:Value}(xb:SE c 0 C ⟨[(p,.local)],[(p,0)],false⟩ body body')(ro:∀env,Ro 0<|A.deeper env)(rd:A.depth<xW)(hpar:nH params)(hargs:params.args.map (·.arg)= [p])(hn:scope.names= [(p,.local)])(hk:scope.kind= .function)(hco:scope.isCoroutine=false)(hgen:scope.isGenerator=false)(hr:HR c.w c.hb ρ H s.heap)(r:VR ρ s.heap v x)(ho:s.heap.get? b=some (rA "<lambda>" gL params body scope [] pm c' ctv))(hcd:s.heap.CodeRec (.ref c') gL)(w:aH G C body' [some v] H Qa)(k:∀v x H' ρ' s',Qa v H'->Af c ρ s ρ' H' s'->VR ρ' s'.heap v x->Q x s'):ao (Md c) A (call (.ref b) [x]) Q E' s:=
 qT (kla_callFunE rd ho ag0 hco hgen ag0 hcd (FI (n1:=[p]) (n2:=[]) (n3:=[]) (x1:=[x]) (x2:=[]) (d2:=[]) (d3:=[]) hpar hargs (dF.mpr ⟨du,.nil⟩) ⟨ag0,ag0,ag0,ag0⟩ (λQ' hq=>aE<|hq _ ag0)
  (Pp hk (λy hy=>.inl<|cr.mp hy▸(agX (lO p) hn).trans (n5 (p:=(p,NameKind.local)) ag0)) λenv he s' xx=>
   have f:=Jj (c:=c) (ps:=[p]) (sl:=[p]) (lam:=false) (vs:=[v]) (xs:=[x]) (k:=0) hk (λi hi=>ag0) (dF.mpr ⟨du,.nil⟩) he xx hr ⟨r,ag0⟩ ag0 (λh=>nb h)
   ⟨(c.t.nolimit.keeps hr.base).keeps xx.toInCall.keep,kla_codeExpr<|xb (A.deeper env) env [some v] H ρ s' Qa _ _ (ro env) (hn▸f.1) f.2.2.r w λv x H' ρ' s'' q a r=>k _ _ _ _ _ q (f.2.2.trans a) r⟩)))
theorem Yh(h:je H v=some us)(ht:rT H=some H2):je H2 v=some us:=
 ob h λa ea h=>ob h λo hH ho=>ob ht λo1 e1 ht=>ob ht λt et hz=>by
  have e2:=Je et;have e3:=fS ho;subst e2 e3;clear et ht ho h
  have q:H2[a]? = some (O.list us):=by
   rcases t with _|i
   ·have ne:1≠a:=λq=>nomatch (av (e1.symm.trans<|q▸hH):O.tab none=O.list us);have z:H.set 1 (.tab<|some H.length)++ [.aux]=H2:=av hz;exact z▸uU ((Nw ne).trans hH)
   ·exact ob hz λo2 e w=>ba (P:=λo=>o=some H2->H2[a]? = some (O.list us)) (λax w=>av w▸hH) (λ_=>nn) w
  exact (agX (jJ · λa=>H2[a]?.bind cW) ea).trans<|agX (jJ · cW) q
theorem Yj(ok:aP σ)(g:bN σ (am "sorted")){body':E}(hs:notStar src)(xs:SE c d C σ src src'){q:Pos}{p:Arg}(hl:σ.lam)(h1:lp.line=1155)(h2:lp.col=60)(hpar:nH args)(hargs:args.args= [p])(hd1:args.defaults= [])(hd2:args.kw_defaults= [])(hn:sc.names= [(p.arg,.local)])(hk:sc.kind= .function)(hco:sc.isCoroutine=false)(hgen:sc.isGenerator=false)(hd:3<=d)(xb:SE c 0 C ⟨[(p.arg,.local)],[(p.arg,0)],false⟩ body body'):
 SE c d C σ (.Call (.Name (am "sorted") q) [src] [⟨some<|am "key",.Lambda args body sc lp,kp⟩] pos) (.pM src' body'):=λA env l H ρ s Qa Q E' ro er hr w k=>
 kx (k9 ok g er hr (lh c.w.params<|by decide) Boot.«sorted» (by decide) (yN (kr (xs A env l H ρ s _ _ E' ro er hr w λv x H1 ρ1 s1 q1 a1 r1=>oM (yO (
  oP.k q1 λus hus q1=>oP.k q1 λH2 hm q1=>X6 hl (er.on a1.k) a1.r hm h1 h2 (by rcases args;dsimp only at hd1 hd2;subst hd1 hd2;rfl) (by unfold rh;rw [hn];rfl) λb c' ctv ρ3 s3 a3 eb nb ec nc=>EE (
   Bj (J:=λρ' h'=>h'.get? b=some (rA "<lambda>" gL args body sc [] ((c.mg "__name__").getD .none) c' ctv)/\¬Mu ρ' b/\h'.CodeRec (.ref c') gL/\¬Mu ρ' c') (ksk_s1 _ _) (λy=>ksk_l1 _ _) (λy=>ksk_t1 _ _)
    (λX ρ ρ' h h' j hx fe kp=>j.2.2.1.elim λc1 z=>z.elim λoc z=>z.elim λvs z=>z.elim λt z=>by have e1:=z.1;injection e1 with e1;subst e1;have nx:¬X c':=ec.elim λc1 y=>y.elim λoc y=>y.elim λvs y=>y.elim λt y=>λq=>cQ (hx c' q) (by injection y.1 with e;exact e▸y.2.1);exact ⟨kp.keep _ _ j.1 j.2.1 λq=>cQ (hx b q) eb,kp.mu j.1 j.2.1,j.2.2.1.at λo e=>kp.keep _ _ e j.2.2.2 nx,kp.mu z.2.1 j.2.2.2⟩)
    (λρ' h' kp=>ec.elim λc1 z=>z.elim λoc z=>z.elim λvs z=>z.elim λt z=>by have e1:=z.1;injection e1 with e1;subst e1;exact ⟨kp.keep _ _ eb nb id,kp.mu eb nb,ec.at λo e=>kp.keep _ _ e nc id,kp.mu z.2.1 nc⟩)
    (λv x H ρ s Qa Q E' j hr r w k=>Yg (A:=A.in1.in1) xb (Ye ro hd) (bC (bx (fh A.depth d) (nq<|xR 9)) ro.2.1) hpar (agX (iF (·.arg)) hargs) hn hk hco hgen hr r j.1 j.2.2.1 w k) (ro.u 30 ag0) a3.r (r1.on a3.k) (Yh hus hm) (Bm a1.r r1 hus) q1
    λv z H' ρ' s' q a r=>k _ _ _ _ _ q ((a1.trans a3).trans a) r)))) (dj hs _ env)) (by rw [dj hs [] env];rfl) (plain_any (es:=[src])<|(oY _).trans hs) ag0 rfl))
variable{x:Str}{k:oF}{q:Option aB×Option aB×Option aB}{a:aB}{i:Int}
section
variable{W:Addr->Prop}
theorem Jk(ok:aP σ):SE c d C σ (.Name x pos) (F9 σ x):=
 d6 (λi h=>Sj ok h) (ba (λg=>aW (λq=>Hg ok g ((agX (nsIn c.K dE) q).trans<|Ub c.w.params)) λ_=>aW (λq=>Hg ok g ((agX (nsIn c.K dE) q).trans<|Uc c.w.params)) λ_=>a7 _) λ_=>a7 _)
def Yk(n:Nat)(σ:Sc)(e:aB):Prop:=(∀(env:Env) (x:Value),ug e env x=pure x)\/rU (aZ n) σ e= .seq .bad
theorem Br:Yk n σ e:=by rcases e<;>first|exact .inl λ_ _=>rfl|exact .inr (by rcases n with _|_<;>rfl)
theorem wm(h:nQ e=some k)(g:∀u p,e= .Constant k u p->X):X:=
 (oI.k (k:=λk=>∃u p,e= .Constant k u p) (by clear h g;rcases e<;>first|exact trivial|exact ⟨_,_,rfl⟩) h).elim λu w=>w.elim (g u)
theorem Yl{q:aB×aB}(h:F6 e=some q)(g:∀p,e= .Subscript q.1 q.2 p->X):X:=
 (oI.k (k:=λq=>∃p,e= .Subscript q.1 q.2 p) (by clear h g;rcases e<;>first|exact trivial|exact ⟨_,rfl⟩) h).elim g
theorem Ym(h:F7 e=some q)(g:∀p,e= .Slice q.1 q.2.1 q.2.2 p->X):X:=
 (oI.k (k:=λq=>∃p,e= .Slice q.1 q.2.1 q.2.2 p) (by clear h g;rcases e<;>first|exact trivial|exact ⟨_,rfl⟩) h).elim g
theorem Yn(h:F8 e=some a)(g:∀p,e= .UnaryOp .USub a p->X):X:=
 (oI.k (k:=λa=>∃p,e= .UnaryOp .USub a p) (by clear h g;rcases e with _|_|_|⟨op,b,p⟩<;>first|exact trivial|(rcases op<;>first|exact trivial|exact ⟨_,rfl⟩)) h).elim g
theorem Yo{q:aB×List aB×List km}(h:Ad e=some q)(g:∀p,e= .Call q.1 q.2.1 q.2.2 p->X):X:=
 (oI.k (k:=λq=>∃p,e= .Call q.1 q.2.1 q.2.2 p) (by clear h g;rcases e<;>first|exact trivial|exact ⟨_,rfl⟩) h).elim g
theorem Jl(h:Ab k=some i):k= .int i:=oI.k (k:=λi=>k= .int i) (by clear h;rcases k<;>first|exact trivial|exact rfl) h
theorem n8{α:Type}{o:Option α}{f:α->Bool}(h:om o false f=true)(g:∀a,o=some a->f a->X):X:=by
 rcases o with _|a
 ·exact nb h
 ·exact g a ag0 h
theorem d7{α:Type}{l:List α}(h:l.isEmpty):l= []:=tO.mp h
theorem bv{α:Type}{o:Option α}(h:o.isNone):o=none:=Dp.mp h
theorem wu{α:Type}{o:Option α}(h:o.isSome)(g:∀a,o=some a->X):X:=(oU.mp h).elim g
theorem Yp(h:Aj body)(g:∀x i u p p1 p2 p3,body= .Subscript (.Name x p1) (.Slice none (some<|.Constant (.int i) u p3) none p2) p->X):X:=
 n8 h λq e h=>Yl e λp e=>wu (al h) λx e1=>sE e1 λp1 e1=>n8 (ar h) λr e2 h2=>Ym e2 λp2 e2=>n8 (ar h2) λb e3 h3=>n8 h3 λk e4 h4=>wm e4 λu p3 e4=>wu h4 λi e5=>
  g x i u p p1 p2 p3 (by rw [e,e1,e2,bv (al<|al h2),bv (ar<|al h2),e3,e4,Jl e5])
theorem Yq(ok:aP σ)(h:Aj body):SE c d C σ body (aZ n σ body):=Yp h λx i u p p1 p2 p3 e=>by
 subst e;rcases n with _|n
 ·exact a7 _
 ·rcases n with _|n
  ·exact AG (a7 _)<|a7 _
  ·exact AG (Jk ok)<|GM _ _ _
theorem Jm(ok:aP σ)(hx:σ.kinds.lookup x=some .local):TG c d C σ (λx=>σ.kinds.lookup x=some .local) W (.Name x pos) (cT σ<|.Name x pos):=
 d6 (P:=TG c d C σ _ W _) (λi h=>HS ok h hx) (mG _)
theorem Yr(f:gw σ sc t)(W:Addr->Prop):
 TG c d C (cX σ sc<|cj σ) (λx=>(cX σ sc<|cj σ).kinds.lookup x=some .local) W t (eM (cX σ sc<|cj σ) t):=
 Ie f.tg (λx p i e hi _=>by
  subst e;exact Jm f.ok (f.tl x (.head _))) λes u p is e h _ _=>by
  subst e;exact (agX (TG c d C _ _ W _) (A1 (A0 h))).mpr (HU (A0 h) λe he=>Ic h he λx p q=>by subst q;exact Jm f.ok (f.tl x (List.mem_filterMap.mpr ⟨_,he,ag0⟩)))
end
variable{q:Pos}{o:aB}{as:List aB}{l:Loc}{v:Value}{id:String}{es:Es}
theorem Ys:(kY.all λp=>aR p.2 192):=by decide +kernel
section
variable{f:Str}{p:Pos}{b:aB}
theorem Yt{k:Nat}(e:kY.lookup x=some k):bV.getD k 0∈bV:=sv<|au (bU.mp Ys _<|mem_lookup e)
theorem Bs(hs: [a].all notStar):notStar a:=(oY _).symm.trans hs
structure sM(x:Str)(v:Value):Prop where
 m:x∈vv
 b:Dz x=some v
 n:x≠"__name__"
theorem sM.at(h:sM x v)(ok:aP σ)(g:bN σ x)(er:ER σ l ρ s.heap env)(hr:HR c.w c.hb ρ H s.heap)(k:Q v s):ao (Md c) A (eval (.Name x q) env) Q E' s:=k9 ok g er hr (lh c.w.params h.m) h.b h.n k
theorem qh{P:P}(h:sM x (.builtin id))(hf:iO c d (.builtin id) P)(ok:aP σ)(g:bN σ x)(hx:∀e,SE c d C σ e<|rec σ e)(hs:(a::as).all notStar):SE c d C σ (.Call (.Name x p) (a::as) [] pos) (.prim P<|aU rec σ (a::as)):=G8 hf (.inl ⟨_,ag0⟩) ok g h.m h.b h.n hs λe _=>hx e
theorem Jn{P:P}{T:String}(h:sM x (.type T))(hf:iO c d (.type T) P)(ok:aP σ)(g:bN σ x)(hx:∀e,SE c d C σ e<|rec σ e)(hs:(a::as).all notStar):SE c d C σ (.Call (.Name x p) (a::as) [] pos) (.prim P<|aU rec σ (a::as)):=G8 hf (.inr ⟨_,ag0⟩) ok g h.m h.b h.n hs λe _=>hx e
theorem Bt{P:P}{T:String}{f:Nat->Bool}(h:sM x (.type T))(hp:nZ P (.type T) f)(ok:aP σ)(g:bN σ (am "isinstance"))(gt:bN σ x)(hx:SE c d C σ a (rec σ a))(hs:notStar a):SE c d C σ (.Call (.Name (am "isinstance") p) [a,.Name x q] [] pos) (.prim P<|aU rec σ [a]):=
 G9 hp ok g (λA env l H ρ s Q E' q er hr k=>h.at ok gt er hr k) hs hx
theorem Yu(ok:aP σ)(g:bN σ (am "isinstance"))(hx:SE c d C σ a (rec σ a))(hs:notStar a):SE c d C σ (.Call (.Name (am "isinstance") p) [a,.Name x q] [] pos) (Gd rec σ a x):=
 ba (λgt=>aW (λe=>Bt (e▸⟨by decide,Boot.«bool»,by decide⟩) TL ok g gt hx hs) λ_=>aW (λe=>Bt (e▸⟨by decide,Boot.«int»,by decide⟩) TM ok g gt hx hs) λ_=>aW (λe=>Bt (e▸⟨by decide,Boot.«tuple»,by decide⟩) TN ok g gt hx hs)
  λ_=>d6 (λk e=>ba (λh9=>jI h9▸G9 TQ ok g (λA env l H ρ s Q E' q er hr q2=>nU ok gt er hr (AJ c.w.params<|jI h9▸e) q2) hs hx) λ_=>a7 _)<|a7 _) λ_=>a7 _
theorem Yv(ok:aP σ)(g:bN σ f)(hx:∀e,SE c d C σ e<|rec σ e)(hs: [a].all notStar):SE c d C σ (.Call (.Name f p) [a] [] pos) (Ge rec σ f a):=
 aW (λe=>qh (e▸⟨by decide,Boot.«len»,by decide⟩) Tv ok g hx hs) λ_=>aW (λe=>qh (e▸⟨by decide,Boot.«abs»,by decide⟩) Tx ok g hx hs) λ_=>aW (λe=>qh (e▸⟨by decide,Boot.«sum»,by decide⟩) TC ok g hx hs) λ_=>
  aW (λe=>Jn (e▸⟨by decide,Boot.«list»,by decide⟩) TA ok g hx hs) λ_=>aW (λe=>Jn (e▸⟨by decide,Boot.«tuple»,by decide⟩) TD ok g hx hs) λ_=>aW (λe=>qh (e▸⟨by decide,Boot.«sorted»,by decide⟩) Xa ok g hx hs) λ_=>a7 _
theorem Yw(ok:aP σ)(g:bN σ f)(hx:∀e,SE c d C σ e<|rec σ e)(hs: [a,b].all notStar):SE c d C σ (.Call (.Name f p) [a,b] [] pos) (Gf rec σ f a b):=
 aW (λe=>qh (e▸⟨by decide,Boot.«min»,by decide⟩) TE ok g hx hs) λ_=>aW (λe=>qh (e▸⟨by decide,Boot.«max»,by decide⟩) TF ok g hx hs) λ_=>aW (λe=>d6 (λt et=>sE et λq eb=>by subst e eb;exact Yu ok g (hx a)<|al hs)<|a7 _) λ_=>a7 _
theorem Yx(co:CO c d C)(ok:aP σ)(hx:∀e,SE c d C σ e<|rec σ e)(hs:as.all notStar):SE c d C σ (.Call (.Name f p) as [] pos) (Ag rec σ f as):=
 ba (λg=>d6 (λk e=>S7 co ok g e (Yt e) hs λe _=>hx e) (d6 (λk e=>Uy co ok g e hs λe _=>hx e) (by
  rcases as with _|⟨a,r⟩
  ·exact a7 _
  ·exact ba (λq=>by
    have q:=d7 q;subst q;exact Yv ok g hx hs) λ_=>iM (λb q=>by
    subst q;exact Yw ok g hx hs) (a7 _)))) λ_=>a7 _
theorem Yy:SE c d C σ e (.l7 .bad n es):=λA env l H ρ s Qa Q E' _ _ _ w=>w.elim
theorem Jo{p:P}:SE c d C σ e (.lm p .bad es):=λA env l H ρ s Qa Q E' _ _ _ w=>w.elim
structure qi(ap pos:Pos)(as:List aB):Prop where
 s:as.all notStar=true
 f:aR as.length 29=true
 l:(ap.endLine == pos.line)=true
theorem Yz(co:CO c d C)(hx:∀e,SE c d C σ e<|rec σ e)(h:qi ap pos as):SE c d C σ (.Call (.Attribute o m ap) as [] pos) (vm rec σ o m as):=
 d6 (P:=SE c d C σ _) (λk e=>r6 (P:=λe=>SE c d C σ _<|.l7 e k _) (λhb=>Us co (rV e) (hx o) hb h.s h.f (λe _=>hx e) h.l) Yy) (a7 _)
theorem Bu{P:P}(hx:∀e,SE c d C σ e<|rec σ e)(h:qi ap pos as)(hp:vg P=false)(sl:Slot "list" m id)(ty:uc (.builtin id)=pure (.type "method_descriptor"))(hc:si c d P id):SE c d C σ (.Call (.Attribute o m ap) as [] pos) (.lm P (cB rec σ o)<|aU rec σ as):=
 r6 (P:=λe=>SE c d C σ _<|.lm P e _) (λhb=>T4 hp sl ty hc (hx o) hb h.s h.f (λe _=>hx e) h.l) Jo
theorem YA(hx:∀e,SE c d C σ e<|rec σ e)(h:qi ap pos [a,b])(e:nQ b=some k)(q:Gl k):SE c d C σ (.Call (.Attribute o (am "get") ap) [a,b] [] pos) (.lm .fN (cB rec σ o)<|aU rec σ [a]):=
 wm e λu p eb=>by
  subst eb;have ek:k= .none:=by clear e;rcases k<;>first|exact rfl|exact nb q
  subst ek;exact r6 (P:=λe=>SE c d C σ _ (.lm .fN e _)) (λhb=>Ui (hx o) hb (al h.s) (hx a) h.l) Jo
theorem YB(co:CO c d C)(hx:∀e,SE c d C σ e<|rec σ e)(h:qi ap pos as):SE c d C σ (.Call (.Attribute o m ap) as [] pos) (Am rec σ o m as):=by
 have oth:=Yz co hx (o:=o) (m:=m) h;rcases as with _|⟨a,r⟩
 ·exact aW (λq=>Bu hx h ag0 (q▸F.slot_list_pop) F.type_list_pop T6) λ_=>oth
 ·exact ba (λq=>by
   have q:=d7 q;subst q;exact aW (λq=>Bu hx h ag0 (q▸slot_list_append) type_list_append T5) λ_=>aW (λq=>Bu hx h ag0 (q▸F.slot_list_extend) F.type_list_extend T7) λ_=>oth) λ_=>aW (λq=>iM (λb q2=>ba (λw=>by
   subst q q2;exact ((eC ..).mp w).elim λk w=>YA hx h w.1 w.2) λ_=>a7 _) (a7 _)) λ_=>oth
theorem YC(co:CO c d C)(ok:aP σ)(hx:∀e,SE c d C σ e<|rec σ e)(h:qi ap pos as):SE c d C σ (.Call (.Attribute (.Name x q) m ap) as [] pos) (Gm rec σ x m as):=
 ba (λg=>by
  have key:∀o,jX.lookup x=o->SE c d C σ (.Call (.Attribute (.Name x q) m ap) as [] pos) (match o with
   |some k=>if m=am "__init__" then (bif a6 k 10||a6 k 18 then .bad else om (gu.lookup k) .bad λcd=>.call cd.init<|aU rec σ as) else .bad
   |none=>if x=am "NAMES" then (if m=am "index" then l1 as .bad λa=>.prim .nameAt (aU rec σ [a]) else .bad) else .bad):=λo e=>by
   rcases o with _|k
   ·exact aW (λq=>aW (λq2=>iM (λa q3=>by subst q q2 q3;exact Uh ok g h.s h.f (λe _=>hx e) h.l)<|a7 _) λ_=>a7 _) λ_=>a7 _
   ·exact aW (λq=>ba (λ_=>a7 _) λhk=>d6 (λcd hcd=>q▸Ut co ok g e ((agX (λb=>bif b then none else gu.lookup k) hk).trans hcd) h.s h.f (λe _=>hx e) h.l)<|a7 _) λ_=>a7 _
  exact key _ ag0) λ_=>a7 _
theorem YD(co:CO c d C)(ok:aP σ)(hx:∀e,SE c d C σ e (rec σ e))(h:qi ap pos as):SE c d C σ (.Call (.Attribute o m ap) as [] pos) (Gn rec σ o m as):=by have mt:=YB co hx (o:=o) (m:=m) h;rcases o<;>first|exact mt|exact ba (λ_=>mt) λ_=>YC co ok hx h
end
variable{i:aB}{u:Nat}{k:km}{A:dC}{a':E}{ks:List km}{vs:List aB}{ops:List oG}{t:List Nat}{op:xS}
section
variable{f:Str}{p kp2:Pos}{b key:aB}
theorem ww(e:aB):SI c d C σ e (.seq .bad):=λA env l H ρ s Qa Q E' _ _ _ w=>w.elim
theorem Bv(ok:aP σ)(hx:∀e,SE c d C σ e<|rec σ e)(e:aB):SI c d C σ e (rU rec σ e):=
 d6 (P:=SI c d C σ e) (λq h=>ba (P:=SI c d C σ e) (λhs=>ba (P:=SI c d C σ e) (λw=>Yo h λp eq=>((eC ..).mp<|ar w).elim λx w2=>sE w2.1 λp1 ef=>by
  have ek:=d7 (al w);have g:=ar w2.2;have ex:=agY (al w2.2);obtain ⟨f,as,ks⟩:=q;dsimp only at ef ek eq hs;clear w w2 h;subst eq ef ek ex;rcases as with _|⟨a,r⟩
  ·exact ww _
  ·exact ba (λq=>by
    have q:=d7 q;subst q;exact V0 ok g (Bs hs)<|hx a) λ_=>iM (λb q=>by
    subst q;exact V1 ok g (al hs) (Bs (ar hs)) (hx a) (hx b)) (ww _)) λ_=>H5 (hx _)) λ_=>ww _)
  (ba (λ_=>H5<|hx _) λ_=>ww _)
theorem Jp(h:Ak k x)(g:∀v p,k=⟨some x,v,p⟩->X):X:=((eC ..).mp h).elim λy w=>by have e:=w.1;have e2:=agY w.2;obtain ⟨ka,v,p⟩:=k;exact g v p (agX (Keyword.mk · v p) (e.trans (agX some e2)))
theorem YE(h5:A.posonlyargs.isEmpty)(h6:A.vararg.isNone)(h7:A.kwonlyargs.isEmpty)(h8:A.kwarg.isNone):nH A:=
 gC.mpr ⟨gC.mpr ⟨gC.mpr ⟨h5,h6⟩,h7⟩,h8⟩
theorem YF(hd:3<=d)(ok:aP σ)(hx:∀e,SE c d C σ e<|aZ n σ e)(g:bN σ (am "sorted")){p:Arg}(ha:notStar a)(hp:args.args= [p])(h:Gh σ args p body sc lp):
 SE c d C σ (.Call (.Name (am "sorted") q) [a] [⟨some<|am "key",.Lambda args body sc lp,kp⟩] pos) (.pM (aZ n σ a)<|aZ n ⟨[(p.arg,.local)],[(p.arg,0)],false⟩ body):=
 have h1:=ar h;have h2:=ar h1;have h3:=ar h2;have h5:=ar h3;have h6:=ar h5;have h7:=ar h6;have h8:=ar h7;have h9:=ar h8;have h10:=ar h9;have h11:=ar h10;have h12:=ar h11;have h13:=ar h12;have h14:=ar h13;have h15:=ar (ar h14)
 Yj ok g ha (hx a) (al h1) (jI<|al h2) (jI<|al h3) (YE (al h5) (al h6) (al h7)<|al h8) hp (d7<|al h9) (d7<|al h10) (eq_of_beq<|al h11) (eq_of_beq<|al h12) (nt<|al h14) (nt<|al h13) hd (Yq (AX h15)<|al h)
theorem YG(co:CO c d C)(hd:3<=d)(ok:aP σ)(hx:∀e,SE c d C σ e<|aZ n σ e)(g:bN σ (am "sorted"))(ha:notStar a):SE c d C σ (.Call (.Name (am "sorted") q) [a] [⟨some<|am "key",key,kp⟩] pos) (Gi (aZ n) σ a key):=by
 rcases key<;>first
  |exact d6 (λk e=>ba (λgf=>XN co ok g ha (hx a) gf e) λ_=>a7 _) (a7 _)
  |exact iM (λp hp=>ba (λh=>YF hd ok hx g ha hp h) λ_=>a7 _) (a7 _)
  |exact a7 _
theorem YH(ok:aP σ)(g:bN σ (am "sorted")){e1 e2:aB}{p1:Pos}{k:Nat}{b:Bool}(ha:notStar a)(xa:SE c d C σ a a'):SE c d C σ (.Call (.Name (am "sorted") q) [a] [⟨some x,e1,p1⟩,⟨some y,e2,p2⟩] pos) (.kT a' .bad k b):=λA env l H ρ s Qa Q E' ro er hr w kk=>
 kx (k9 ok g er hr (lh c.w.params<|by decide) Boot.«sorted» (by decide)<|yN (kr (xa A env l H ρ s _ _ E' ro er hr w λv x H1 ρ1 s1 q1 a1 r1=>q1.elim)<|dj ha _ env) (by rw [dj ha [] env];rfl) (plain_any (es:=[a])<|(oY _).trans ha) ag0 rfl)
theorem YI(co:CO c d C)(ok:aP σ)(hx:∀e,SE c d C σ e<|rec σ e)(g:bN σ (am "sorted"))(ha:notStar a):SE c d C σ (.Call (.Name (am "sorted") q) [a] [⟨some<|am "key",key,kp⟩,⟨some<|am "reverse",.Constant (.bool true) u cp,kp2⟩] pos) (Gj rec σ a key):=by
 rcases key<;>first
  |exact d6 (λk e=>r6 (P:=λe=>SE c d C σ _<|.kT _ e _ _) (λhb=>XS co ok g ha (hx a) (rV e) (hx _) hb) (YH ok g ha<|hx a)) (a7 _)
  |exact a7 _
theorem YJ(h:(nQ e).any Gk)(g:∀u p,e= .Constant (.bool true) u p->X):X:=((eC ..).mp h).elim λk w=>wm w.1 λu p q=>g u p (q.trans (agX (PySem.Expr.Constant · u p) (by have h:=w.2;clear w q;rcases k with _|b|_<;>first|exact nb h|exact agX Const.bool h)))
theorem YK(co:CO c d C)(hd:3<=d)(ok:aP σ)(hx:∀e,SE c d C σ e<|aZ n σ e)(g:bN σ (am "sorted"))(ha:notStar a):SE c d C σ (.Call (.Name (am "sorted") q) [a] (k::ks) pos) (Al (aZ n) σ a k ks):=
 ba (λhk=>Jp hk λkey kp e=>by
  subst e;rcases ks with _|⟨k2,r⟩
  ·exact YG co hd ok hx g ha
  ·exact ba (λh=>Jp (al<|ar h) λv2 kp2 e=>YJ (ar<|ar h) λu p e3=>by have er:=d7<|al h;subst e er;have e3:v2=_:=e3;subst e3;exact YI co ok hx g ha) λ_=>a7 _) λ_=>a7 _
theorem YL(h:Go e)(g:∀u p1 p2,e= .UnaryOp .USub (.Constant (.int 1) u p1) p2->X):X:=
 n8 h λa e1 h=>n8 h λk e2 h=>n8 h λi e3 h=>Yn e1 λp2 q1=>wm e2 λu p1 q2=>g u p1 p2<|by rw [q1,q2,Jl e3,agY h]
theorem YM(hx:∀e,SE c d C σ e<|rec σ e){lo hi st:Option aB}:SE c d C σ (.Subscript o (.Slice lo hi st p) pos) (Gp rec σ o lo hi st):=by
 rcases st with _|e
 ·rcases lo with _|a
  ·rcases hi with _|b
   ·exact a7 _
   ·exact AG (hx _)<|hx _
  ·rcases hi with _|b
   ·exact To (hx _)<|hx _
   ·exact Tp (hx _) (hx _)<|hx _
 ·exact ba (λh=>YL (ar<|ar h) λu p1 p2 e=>by have e1:=bv<|al h;have e2:=bv (al<|ar h);subst e e1 e2;exact Tq<|hx _) λ_=>a7 _
theorem YN(hx:∀e,SE c d C σ e (rec σ e)):SE c d C σ (.Subscript o i pos) (Gq rec σ o i):=by rcases i<;>first|exact S6 rfl (hx _) (hx _)|exact YM hx|exact a7 _
theorem Jq{p:P}:SE c d C σ e (.prim p<|.cons .bad es):=λA env l H ρ s Qa Q E' _ _ _ w=>w.elim
theorem YO{ks:List (Option aB)}:SE c d C σ (.Dict ks vs pos) (Gy (aZ n) σ ks vs):=
 d6 (λis h1=>ba (λh=>wu (ar h) λjs h2=>by
  rcases n with _|n
  ·rcases vs with _|⟨v,r⟩
   ·exact Ir (rec:=aZ 1) (λi u p=>ag0) h1 h2 (agY<|al h)
   ·exact ba (P:=λes=>SE c d C σ _<|.prim (.dict is) es) (λ_=>Jq) λ_=>Jq
  ·exact Ir (λi u p=>ag0) h1 h2 (agY<|al h)) λ_=>a7 _) (a7 _)
theorem wy{op:oG}(h:isSet b=false):tY op b=false:=by rcases b<;>first|exact rfl|exact nb h.symm
def Bo(c:Cx)(d:Nat)(C:Calls)(σ:Sc)(e:aB)(e':E):Prop:=SE c d C σ e e'/\SB c d C σ e e'
theorem mH:Bo c d C σ e .bad:=⟨a7 _,GK _⟩
theorem Jr(hx:∀e,SE c d C σ e<|rec σ e):Bo c d C σ (.Compare a ops as pos) (Gx rec σ a ops as):=by
 rcases ops with _|⟨op,r⟩
 ·exact mH
 ·exact ba (λq=>iM (λb q2=>ba (λ_=>mH) λh=>by
   have q:=d7 q;subst q q2;exact ⟨Su vQ (hx _) (hx _)<|wy h,Sv vQ (hx _) (hx _)<|wy h⟩) mH) λ_=>iM (λo2 q=>by
   subst q;rcases as with _|⟨b,r⟩
   ·exact mH
   ·exact iM (λe q=>ba (λ_=>mH) λh=>by subst q;exact ⟨Sw vQ (hx _) (hx _) (hx _)<|wy h,Sx vQ (hx _) (hx _) (hx _)<|wy h⟩) mH) mH
theorem YQ{y:E}:SE c d C σ e (.comp t (.seq .bad) es y):=λA env l H ρ s Qa Q E' _ _ _ w=>w.elim
theorem Js(ih:∀σ,aP σ->∀e,Bo c d C σ e<|rec σ e){t:aB}(f:gw σ sc t):sG c d C σ rec sc t elt ifs:=⟨f,Yr f,λe _=>(ih _ f.ok e).2,(ih _ f.ok elt).1⟩
theorem YR(ih:∀σ,aP σ->∀e,Bo c d C σ e<|aZ n σ e)(ok:aP σ){gs:List Dw}:SE c d C σ (.ListComp elt gs sc pos) (Ap (aZ n) σ elt gs sc):=
 iM (λg q=>ba (λh=>by obtain ⟨t,it,ifs,as⟩:=g;have h1:as=0:=agY (al h);have f:=H8 (ar h);clear h;subst h1 q;exact (Br (n:=n) (e:=it)).elim (λhs=>Iq (Js ih f) (Bv ok (λe=>(ih σ ok e).1) it) hs) λhs=>(agX (λi=>SE c d C σ (.ListComp elt [⟨t,it,ifs,0⟩] sc pos) (.comp _ i _ _)) hs).mpr YQ) λ_=>a7 _) (a7 _)
theorem YS(co:CO c d C)(hd:3<=d)(hx:∀e,SE c d C σ e (aZ n σ e))(ok:aP σ)(hs:as.all notStar):SE c d C σ (.Call (.Name x p) as ks cp) (match ks with
 | []=>Ag (aZ n) σ x as
 |k::ks=>l1 as .bad λa=>bif decide (x=am "sorted")&&bN σ x then Al (aZ n) σ a k ks else .bad):=by
 rcases ks with _|⟨k,ks⟩
 ·exact Yx co ok hx hs
 ·exact iM (λa q=>ba (λh=>by have g:=ar h;have e:=agY<|al h;clear h;subst e q;exact YK co hd ok hx g<|Bs hs) λ_=>a7 _)<|a7 _
theorem step_call(co:CO c d C)(hd:3<=d)(hx:∀e,SE c d C σ e<|aZ n σ e)(ok:aP σ){f:aB}:SE c d C σ (.Call f as ks cp) (Gz (aZ n) σ f as ks cp):=
 ba (λhs=>by
  rcases f<;>first
   |exact YS co hd hx ok hs
   |exact ba (λh=>by have e:=d7<|al h;subst e;exact YD co ok hx ⟨hs,al<|ar h,ar<|ar h⟩) λ_=>a7 _
   |exact a7 _) λ_=>a7 _
theorem YT(hx:∀e,SE c d C σ e (rec σ e)):SE c d C σ (.BinOp a op b p) (Gv rec σ a b op):=by rcases op<;>first|exact vF Ta (hx a) (hx b)|exact vF SP (hx a) (hx b)|exact vF Tb (hx a) (hx b)|exact vF SR (hx a) (hx b)|exact a7 _
theorem YU(hx:∀e,SE c d C σ e (rec σ e)){op:Dv}:SE c d C σ (.UnaryOp op a p) (Gw rec σ a op):=by rcases op<;>first|exact Sl (hx _)|exact SU (hx _)|exact a7 _
theorem YV{p:P}:SE c d C σ e (.prim p<|kZ .bad):=λA env l H ρ s Qa Q E' _ _ _ w=>w.elim
theorem YW(hx:∀e,SE c d C σ e<|rec σ e):SE c d C σ (.Attribute o m p) (om (mr m atT) .bad λn=>.prim (.attr n) (kZ<|cB rec σ o)):=
 d6 (λk e=>r6 (P:=λe=>SE c d C σ _ (.prim (.attr k)<|kZ e)) (λhb=>SO (rV e) (hx o) hb) YV) (a7 _)
theorem Jt(co:CO c d C)(hd:3<=d)(ih:∀σ,aP σ->∀e,Bo c d C σ e<|aZ n σ e)(ok:aP σ)(e:aB):SE c d C σ e (Aq (aZ n) σ e):=by
 have hx:∀e,SE c d C σ e (aZ n σ e):=λe=>(ih σ ok e).1
 rcases e<;>first
  |exact Jk ok|exact GM _ _ _|exact YW hx|exact YN hx|exact YT hx|exact YU hx|exact Sq λe _=>hx e|exact Sn (ih σ ok _).2 (hx _) (hx _)|exact (Jr hx).1
  |exact SM λe _=>hx e|exact SN λe _=>hx e|exact YO|exact YR ih ok|exact step_call co hd hx ok|exact a7 _
theorem YX(co:CO c d C)(hd:3<=d)(ih:∀σ,aP σ->∀e,Bo c d C σ e<|aZ n σ e)(ok:aP σ)(e:aB):SB c d C σ e (Aq (aZ n) σ e):=by
 have hB:∀e,SB c d C σ e (aZ n σ e):=λe=>(ih σ ok e).2;have key:=Jt co hd ih ok e
 rcases e with _|_|_|⟨op,a,p⟩<;>first
  |exact GL key λenv=>rfl|exact Sr λe _=>hB e|exact So (hB _) (hB _) (hB _)|exact (Jr λe=>(ih σ ok e).1).2
  |(rcases op<;>first|exact GL key λenv=>rfl|exact Sm (hB a))
theorem YY(co:CO c d C)(hd:3<=d):∀(n:Nat) (σ:Sc),aP σ->∀e,Bo c d C σ e (aZ n σ e):=λn=>by
 induction n with
 |zero=>exact λ_ _ _=>mH
 |succ n ih=>exact λσ ok e=>⟨Jt co hd ih ok e,YX co hd ih ok e⟩
end
variable{p:Pos}{b e:List Stmt}{it:aB}
theorem YZ{b x y:Bool}{P:Prop}(h:(bif b then x else y)=true)(k1:b->x->P)(k2:b=false->y->P):P:=by
 rcases b with _|_
 ·exact k2 ag0 h
 ·exact k1 ag0 h
section
variable{W:Addr->Prop}{t v:aB}{st:Stmt}
def lq(c:Cx)(d:Nat)(C:Calls)(σ:Sc)(W:Addr->Prop)(t:aB)(t':T):Prop:=TG c d C σ (λ_=>True) W t t'
theorem Y0(hx:∀e,SE c d C σ e<|aZ fuel σ e){lo hi st:Option aB}:lq c d C σ W (.Subscript o (.Slice lo hi st p2) p) (GA σ o lo hi st):=
 ba (λh=>d6 (P:=lq c d C σ W _) (λa e1=>d6 (P:=lq c d C σ W _) (λb e2=>by have e:=bv h;subst e e1 e2;exact VL (hx _) (hx _)<|hx _)<|mG _)<|mG _) λ_=>mG _
theorem Y1(hx:∀e,SE c d C σ e (aZ fuel σ e)):lq c d C σ W (.Subscript o i p) (GB σ o i):=by rcases i<;>first|exact VJ (hx _) (hx _)|exact Y0 hx
theorem Ju(ok:aP σ)(hx:∀e,SE c d C σ e (aZ fuel σ e))(t:aB):lq c d C σ W t (cT σ t):=by rcases t<;>first|exact d6 (P:=lq c d C σ W _) (λi h=>HS ok h trivial) (mG _)|exact d6 (P:=lq c d C σ W _) (λk e=>VI (rV e) (hx _)) (mG _)|exact Y1 hx|exact mG _
theorem Bw(ok:aP σ)(hx:∀e,SE c d C σ e (aZ fuel σ e))(t:aB):lq c d C σ W t (eM σ t):=by have k:=Ju (W:=W) ok hx t;rcases t<;>first|exact k|exact aW (P:=lq c d C σ W _) (λh=>HU h λe _=>Ju ok hx e) λ_=>mG _
def eR(c:Cx)(d:Nat)(C:Calls)(σ:Sc)(W:Addr->Prop)(st:Stmt)(st':S):Prop:=SS c d C σ (λ_=>True) W st st'
theorem Bx{t:T}:eR c d C σ W st (.ag t .bad):=λA env l H ρ s Qa Q E' _ _ _ _ w=>w.elim
theorem Y2{t:T}{ts:List Nat}{x:E}:eR c d C σ W st (.ag t<|.comp ts (.seq .bad) es x):=λA env l H ρ s Qa Q E' _ _ _ _ w=>w.elim
theorem Y3{ts:List Nat}{b:Ss}:eR c d C σ W st (.for ts (.seq .bad) b):=λA env l H ρ s Qa Q E' _ _ _ _ w=>w.elim
def Eo(c:Cx)(d:Nat)(C:Calls):Prop:=∀(n:Nat) (σ:Sc),aP σ->∀e,Bo c d C σ e<|aZ n σ e
theorem Y4(E:Eo c d C)(ok:aP σ){gs:List Dw}:eR c d C σ W (.Assign [.Name x px] (.ListComp elt gs sc p) pos) (.ag (eM σ<|.Name x px)<|Ap (aZ 23) σ elt gs sc):=
 iM (P:=λe=>eR c d C σ W _ (.ag _ e)) (λg q=>ba (P:=λe=>eR c d C σ W _ (.ag _ e)) (λh=>by obtain ⟨t,it,ifs,as⟩:=g;have h1:as=0:=agY (al h);have f:=H8 (ar h);clear h;subst h1 q;exact (Br (n:=23) (e:=it)).elim (λhs=>XM ok (λ_=>trivial) (Js (E 23) f) (Bv ok (λe=>(E 23 σ ok e).1) it) hs (Bw ok (λe=>(E fuel σ ok e).1) _)) λhs=>(agX (λi=>eR c d C σ W (.Assign [.Name x px] (.ListComp elt [⟨t,it,ifs,0⟩] sc p) pos) (.ag _ (.comp _ i _ _))) hs).mpr Y2) λ_=>Bx) Bx
theorem Y5(E:Eo c d C)(ok:aP σ)(h:pR v=false):eR c d C σ W (.Assign [.Name x px] v pos) (.ag (eM σ (.Name x px)) (aZ fuel σ v)):=by rcases v<;>first|exact nb h.symm|exact Y4 E ok|exact Bx
theorem Y6(E:Eo c d C)(ok:aP σ)(h:GC σ t v):eR c d C σ W (.Assign [t] v pos) (.ag (eM σ t)<|aZ fuel σ v):=
 YZ h (λhc h=>XK ok (λ_=>trivial) h hc (Bw ok (λe=>(E fuel σ ok e).1) t) (E fuel σ ok v).1) λhc h=>wu h λx e=>sE e λp e=>by subst e;exact Y5 E ok hc
theorem Y7(hB:∀e,SB c d C σ e<|aZ fuel σ e)(xb:jq c d C σ (λ_=>True) W b b'):eR c d C σ W (.While t b e pos) (bif e.isEmpty then .while (aZ fuel σ t) b' else .bad):=
 ba (P:=eR c d C σ W _) (λh=>by have q:=d7 h;subst q;exact Xw (hB _) xb) λ_=>n7 _
theorem Y8(E:Eo c d C)(ok:aP σ)(xb:jq c d C σ (λ_=>True) W b b'):eR c d C σ W (.For t it b e pos) (bif e.isEmpty&&my σ t then .for (targets σ t) (rU (aZ fuel) σ it) b' else .bad):=
 ba (P:=eR c d C σ W _) (λh=>by have q:=d7<|al h;have hx:∀e,SE c d C σ e (aZ fuel σ e):=λe=>(E fuel σ ok e).1;subst q;exact (Br (n:=fuel) (e:=it)).elim (λhs=>Xy (ar h) (Bw ok hx t) (Bv ok hx it) hs xb) λhs=>(agX (λi=>eR c d C σ W _<|.for _ i _) hs).mpr Y3) λ_=>n7 _
theorem Y9(hx:∀e,SE c d C σ e<|aZ fuel σ e){v:Option aB}:eR c d C σ W (.Return v pos) (om v (.ret<|.cst .none) λv=>.ret<|aZ fuel σ v):=by
 rcases v with _|v
 ·exact Xn
 ·exact Xm<|hx _
theorem Y'(E:Eo c d C)(ok:aP σ)(n:Nat):∀(st:Stmt),eR c d C σ W st (pS n σ st):=by
 induction n with
 |zero=>exact λ_=>n7 _
 |succ n ih=>
  have hx:∀e,SE c d C σ e (aZ fuel σ e):=λe=>(E fuel σ ok e).1;have hB:∀e,SB c d C σ e (aZ fuel σ e):=λe=>(E fuel σ ok e).2;have hs:∀dI,jq c d C σ (λ_=>True) W dI (j3 (pS n) σ dI):=λdI=>I5 λst _=>ih st;intro st
  rcases st<;>first
   |exact iM (P:=eR c d C σ W _) (λt q=>q▸ba (P:=eR c d C σ W _) (λh=>Y6 E ok h) λ_=>n7 _) (n7 _)
   |exact ba (P:=eR c d C σ W _) (λh=>Xs h<|hx _) λ_=>n7 _
   |exact Xu (hB _) (hs _) (hs _)|exact Y7 hB (hs _)|exact Y8 E ok (hs _)|exact Y9 hx|exact n7 _
theorem Za(E:Eo c d C)(ok:aP σ)(n:Nat)(dI:List Stmt):jq c d C σ (λ_=>True) W dI (j3 (pS n) σ dI):=I5 λst _=>Y' E ok n st
end
variable{m:Str×Str×Value×Value×Nat}{k:Nat}{x v:Value}{vs:List V}{A:bj}{f:dC×List Stmt×cC}{fx:List Value}
noncomputable def Rn(n:Nat):Nat:=16*n+3
def Cy(c:Cx):Prop:=∀p∈kK++(kL++(kM++kP)),∃o vs,c.hb.get? p.1=some o/\o.data= .fields vs/\vs[1]? = some p.2
theorem code_at(cy:Cy c)(hm:k8[k]? = some m):c.hb.CodeRec (.ref m.2.2.2.2) m.2.1:=
 (oK.mp (bU.mp UE m<|cG hm)).elim (λh=>((eC ..).mp h).elim λv w=>(Hm w.2).elim λt e=>(cy _<|mem_lookup w.1).elim λo z=>z.elim λvs z=>⟨_,o,vs,t,ag0,z.1,z.2.1,z.2.2.trans<|agX some e⟩)
  λh=>((eC ..).mp<|UG c.w.params).elim λo w=>((eC ..).mp w.2).elim λvs w2=>((eC ..).mp w2.2).elim λv w3=>(Hm w3.2).elim λt e=>
   ⟨1604,o,vs,t,agX jH (jI<|al h),c.k _ _ w.1,FK w2.1,(w3.1.trans<|agX some e).trans<|agX (λx=>some<|yi x t) (eq_of_beq<|ar h).symm⟩
structure Jv(d:dC×List Stmt×cC):Prop where
 pl:nH d.1=true
 nd:(dW d).Nodup
 loc:∀x∈dW d,d.2.2.names.lookup x=some .local\/d.2.2.names.lookup x=some .cell
 ok:aP (mz d)
 fn:d.2.2.kind= .function
 co:d.2.2.isCoroutine=false
 gen:d.2.2.isGenerator=false
theorem Zb(hk:k<192):Jv (fnAt k):=
 have h:=bU.mp UK k<|iB.mpr hk;have h1:=al h;have h2:=al h1;have h3:=al h2;have h4:=al h3;have h5:=al h4
 ⟨al h5,UH<|ar h5,λx hx=>(oK.mp<|vS (ar h4) hx).imp AW H6,AX<|ar h3,eq_of_beq<|ar h2,nt<|ar h1,nt<|ar h⟩
theorem Zc{v:V}(e:Hq v x):VR ρ h v x:=by
 rcases v with _|b|i|_|_|_
 ·exact (agY e:x= .none)
 ·exact (agY e:x= .bool b)
 ·exact UP e
 all_goals exact nb e
theorem Zd:∀{xs:List Value},valsOk vs xs->aA ρ h vs xs:=by
 induction vs with
 |nil=>exact λe=>d7 e
 |cons v vs ih=>
  intro xs e;rcases xs with _|⟨x,xs⟩
  ·exact nb e
  ·exact ⟨Zc<|al e,ih<|ar e⟩
section
variable{W:Addr->Prop}
def Jw(c:Cx)(ρ:aK)(s:ah)(f:dC)(dfv:Value):Prop:=
 ∃dv,aA ρ s.heap (f.defaults.map k7) dv/\f.defaults.length<=f.args.length/\∀(A:bj) (E':Value->ah->Prop) (Q':Option (Array Value)->ah->Prop),(∀o,(o.getD #[]).toList=dv->Q' o s)->ao (Md c) A (tN dfv) Q' E' s
theorem Ze(hr:HR c.w c.hb ρ H s.heap)(h:Ht c.w.params k v):Jw c ρ s (fnAt k).1 v:=by
 rcases v<;>first
  |exact nb h
  |exact ⟨[],(agX (iF k7) (d7 h)).symm▸rfl,(agX cu (d7 h)).symm▸bq _,λA E' Q' q=>aE<|q none ag0⟩
  |exact ((eC ..).mp h).elim λo w=>((eC ..).mp w.2).elim λxs w2=>(UQ w2.1).elim λn e=>⟨xs.toList,Zd (al w2.2),au (ar w2.2),λA E' Q' q=>aj (wpAny_load (c.cY hr _ _ w.1) (by show ao (Md c) A (match o.data with| .seq xs _=>pure (some xs)|_=>pure none) Q' E' s;rw [e];exact aE (q _ rfl)))⟩
theorem Zf(hk:k<192)(hm:k8[k]? = some m)(hr:HR c.w c.hb ρ H s.heap):Jw c ρ s (fnAt k).1 m.2.2.1:=
 Ze hr (((eC ..).mp (bU.mp (UT c.w.params) k<|iB.mpr hk)).elim λm' w=>av (hm.symm.trans w.1)▸w.2)
theorem Zg(d:dC×List Stmt×cC)(i:Nat)(h:i<(dW d).length):(slotsOf d)[i]? = (dW d)[i]? := oD h
theorem Zi(r:Rc (d+16) A)(env:Env):Ro d (A.deeper env):=
 ⟨r.1,ae (ae (aF (agX (· + 10)<|gX A.depth 1 d)) (eB (au rfl:11<=21)<|A.depth+d)) r.2.1,
  ae (ae (aF<|agX (· + 100) (gX A.units 3<|5*d)) (eB (au rfl:103<=130)<|A.units+5*d)) r.2.2⟩
def Jx(f:dC×List Stmt×cC)(vs:List V):List V:=vs++(f.1.defaults.map k7).drop ((f.1.defaults.map k7).length-((dW f).length-vs.length))
theorem Zj(h:frame (vn f) vs=some l)(k:(Jx f vs).length=(dW f).length->(Jx f vs).map some++cg ((slotsOf f).length+2-(dW f).length) a8=l->X):X:=
 aW (P:=λo=>o=some l->X) (λhf e=>k hf<|av e) (λ_=>nn) h
theorem Zk(hk:k<192)(hm:k8[k]? = some m)(q:(mz<|fnAt k).lam):jH m.2.2.2.2= .ref 1604/\m.2.1++am ".<locals>."=am "_law_strings.<locals>.":=
 (oK.mp (bU.mp UM k<|iB.mpr hk)).elim (λh=>((eC ..).mp UO).elim λm' w=>
  have e:=av (w.1.symm.trans<|(agX (λi:Nat=>k8[i]?)<|jI h).symm.trans hm)
  e▸⟨agX jH (jI<|ar w.2),eq_of_beq<|al w.2⟩) λh=>nb<|(nt h).symm.trans q
theorem Zl{f:Nat}{full:List V}{s1:ah}(co:CO c (Rn n) (kW G n))(o:Jv (fnAt f))(ro:Rc (Rn n+16) A)(hr:HR c.w c.hb ρ H s.heap)(r:aA ρ s.heap full fx)(hl:full.length=(dW<|fnAt f).length)(hc:(mz<|fnAt f).lam->code= .ref 1604/\qual=am "_law_strings.<locals>.")(he:env=newEnv (fnAt f).2.2 s.heap.objs.size dE (EH (s.heap.objs.size+1) (fnAt f).2.2.names []) qual func code none jz)(x:InCallC s env.locals (yP env.kindOf ((dW<|fnAt f).zip fx) λ_=>none) env.cells (yQ env.kindOf ((dW<|fnAt f).zip fx) λ_=>none) s1)(w:bP G (kW G n) (j3 (pS fuel) (mz<|fnAt f) (fnAt f).2.1) (full.map some++cg ((slotsOf<|fnAt f).length+2-(dW<|fnAt f).length) a8) H (wf Qa))(k:∀v x H' ρ' s',Qa v H'->Af c ρ s ρ' H' s'->VR ρ' s'.heap v x->R (.ok<|.ret x) s'):oO (Md c) A (.func (fnAt f).2.1 env) R s1:=
 have z:=Jj (c:=c) (ps:=dW<|fnAt f) (sl:=slotsOf<|fnAt f) (lam:=(mz<|fnAt f).lam) (k:=(slotsOf<|fnAt f).length+2-(dW<|fnAt f).length) o.fn (Zg _) o.nd he x hr r hl hc;have fr:∀b,Jg env.locals env.cells b->s.heap.get? b=none:=λb hb=>by have eL:env.locals=s.heap.objs.size:=agX Env.locals he;exact hb.elim (λq=>ku (aF<|eL.symm.trans q.symm)) λq=>q.elim λn' q=>ku (cV<|bx (aF eL.symm) (x.above _ _<|yR q))
 codeAny_func (Za (YY co (dy 3<|16*n)) o.ok fuel (fnAt f).2.1 (A.deeper env) env _ H ρ s1 _ _ _ (Zi ro env) z.1 z.2.1 z.2.2.r w λfl l' H' ρ' s' f' q ax er' fR=>by
  have a2:Af c ρ s ρ' H' s':=(z.2.2.ax.trans ax).af fr;rcases fl with _|v
  ·have fR:f'= .next:=fR;subst fR;exact k _ _ _ _ _ q a2 ag0
  ·exact fR.elim λz rz=>by have e:=rz.1;subst e;exact k _ _ _ _ _ q a2 rz.2)
theorem Zm(cy:Cy c)(co:CO c (Rn n) (kW G n)):CO c (Rn<|n+1) (kW G<|n+1):=λA f vs xs H ρ s Qa R ro hr r w k=>
 oP.k w λfd hfd w=>aW (P:=λo=>o=some fd->oO (Md c) A (.call (.ref<|bV.getD f 0) ⟨xs,[]⟩) R s) (λhf e=>by
  have e:=av e;subst e
  exact oP.k w λl hfr w=>Zj hfr λhl el=>(UC c.w.params hf).elim λm hm=>(Zf (c:=c) hf hm.1 hr).elim λdv dd=>by
   have o:=Zb hf;have ld:(fnAt f).1.defaults.length=dv.length:=(aG ..).symm.trans dd.1.len;have lp:(dW<|fnAt f).length=(fnAt f).1.args.length:=aG ..;have hl2:vs.length+(((fnAt f).1.defaults.map k7).drop<|((fnAt f).1.defaults.map k7).length-((dW<|fnAt f).length-vs.length)).length=(fnAt f).1.args.length:=(aX ..).symm.trans<|hl.trans lp;have ix:((fnAt f).1.defaults.map k7).length-((dW<|fnAt f).length-vs.length)=dv.length-((fnAt f).1.args.length-xs.length):=congr (agX HSub.hSub dd.1.len)<|congr (agX HSub.hSub lp) r.len;subst el
   exact codeAny_call_function (bC (bx (fh A.depth _) (nq<|xR 4)) ro.2.1) (c.cY hr _ _ hm.2) ag0 o.co o.gen ag0 ((code_at cy hm.1).keeps hr.base) (Rs (dv:=dv) o.pl o.nd
    (ae (aF r.len.symm) (ae (fh _ _)<|aF hl2)) (ae (aF ld.symm) dd.2.1)
    (ae (aF hl2.symm) (jK (aF r.len)<|ae (aF<|iA ..) (ae (lQ _ _)<|aF dd.1.len))) (dd.2.2 _ _)
    (Pp o.fn (λy hy=>(o.loc _ (Nr hy).1).imp id λq=>⟨q,Jf<|.inl q⟩) λenv he s1 x1=>⟨(c.t.nolimit.keeps hr.base).keeps x1.toInCall.keep,
     Zl co o ro hr (ix▸r.append (dd.1.drop _)) hl (Zk hf hm.1) he x1 w k⟩))) (λ_=>nn) hfd
theorem Zo(cy:Cy c)(n:Nat):CO c (Rn n) (kW G n):=by
 induction n with
 |zero=>exact λA f vs xs H ρ s Qa R _ _ _ w _=>w.elim
 |succ n ih=>exact Zm cy ih
end
variable{l:List (Nat×Obj)}{o x:Obj}{vs ps:Array Value}{w:bb}{a sa:Addr}{m mb:Str->Option Value}{b:Bool}{Z:Prop}
theorem Zq{a:Nat}(h:l.lookup a=some o):(a,o)∈l:=mem_lookup h
theorem Zr(P:aD):(KN P).lookup 1602=some (gc #[]):=by kernel_rfl
theorem Zs:((kK++(kL++(kM++kP))).all λp=>aR p.1 n4&& !(a6 p.1 1602)):=by decide +kernel
theorem Zt:(1602:Nat)<n4:=by decide
theorem Zu(h:fJ (some o)=some v){P:Prop}(k:∀vs,o.data= .fields vs->vs[1]? = some v->P):P:=by
 obtain ⟨_,_,dt,_⟩:=o;cases dt with
 |fields vs=>exact k vs ag0 h
 |_=>exact nn h
theorem Zv(e:o.data= .fields vs):iW o=some o:=by
 obtain ⟨_,_,dt,_⟩:=o;cases e
 rfl
theorem By(Y:nG w h):h.get? PT=some (gc #[]):=
 Y _ _ ((pj Zt).trans (agX iW<|told w _ (Zq<|Zr w.params)))
theorem Zw(w:bb):∀p∈kK++(kL++(kM++kP)),fJ (some<|Fw w p.1)=some p.2:=λp hp=>
 (b9.mp hp).elim ((rP w).c1 p) λh=>(b9.mp h).elim ((rP w).c2 p) λh=>(b9.mp h).elim ((rP w).c3 p)<|(rP w).c4 p
theorem sN(e:h.get? a=some o)(ne:a≠PT):(fU h).get? a=some o:=((vx h a).trans<|if_neg ne).trans e
theorem Bz(Y:nG w h):∀p∈kK++(kL++(kM++kP)),∃o vs,(fU h).get? p.1=some o/\o.data= .fields vs/\vs[1]? = some p.2:=λp hp=>
 have sm:=bU.mp Zs p hp
 Zu (Zw w p hp) λvs e1 e2=>⟨_,vs,sN (Y _ _ ((pj (au<|al sm)).trans<|Zv e1)) (GJ<|ar sm),e1,e2⟩
theorem BA(n:h.Ns a m)(ne:a≠PT):(fU h).Ns a m:=
 n.elim λo n=>n.elim λes n=>n.elim λep n=>⟨o,es,ep,sN n.1 ne,n.2⟩
theorem Zx{mg:Str->Option Value}{loose:List Str}(T:tX qv loose mg mb h):tX qv loose mg mb (fU h):=
 ⟨BA T.g<|by decide,BA T.b<|by decide,T.nolimit.elim λmc a=>⟨mc,BA a.1<|by decide,a.2⟩,T.builtins,T.free⟩
theorem Zy:kY.lookup (am "law")=some 105:=by decide +kernel
theorem ZA{xs:List pe}:WShape.hasItems [] xs .int->∃ns:List Int,xs=ns.map iH:=by
 induction xs with
 |nil=>exact λ_=>⟨[],ag0⟩
 |cons x r ih=>
  intro e;refine (ih (ar e)).elim λns q=> ?_;cases x with
  |int i=>exact ⟨i::ns,agX (iH i:: ·) q⟩
  |_=>exact nb<|al e
theorem ZB{args:List pe}(h:WShape.hasAll [] args [.list .int]){P:Prop}(k:∀ns:List Int,args= [.list (ns.map iH)]->P):P:=by
 cases args with
 |nil=>exact nb h
 |cons x r=>
  cases r with
  |cons y r=>exact nb<|ar h
  |nil=>
   cases x with
   |list xs=>exact (ZA ((Bool.or_false _).symm.trans<|al h)).elim λns q=>k ns<|agX (λxs=>[WData.list xs]) q
   |_=>exact nb h
noncomputable def Jy(b:Bool):Bool:=WTm.holds [] (.and (.not (.lit<|.bool b)) (.lit<|.bool true)) {args:=[]}
theorem ZC(h:Jy b):b=false:=by
 cases b
 ·rfl
 ·exact nb h
theorem ZD{args:List pe}(h:eG.toRowW.claim.pre args){P:Prop}(k:∀ns:List Int,args= [.list (ns.map iH)]->ns.length<=63->P):P:=
 ZB (pre_splitW h).1 λns e=>k ns e (by subst e;have h2:WTm.holds [] (.and (.not<|.lt (.lit<|.int 63) (.len<|.arg 0)) (.lit<|.bool true)) {args:=[.list (ns.map iH)]}=true:=(pre_splitW h).2;have h2:Jy (decide<|(63:Int)<((ns.map iH).length:Int))=true:=h2;exact cz.mp<|aG iH (as:=ns)▸cH.mp (of_decide_eq_false<|ZC h2))
def BB(P:aD)(h:Heap)(v:Value):pe->Prop
 | .int i=>∃t,v= .int i t
 | .list xs=>∃a vs,v= .ref a/\h.get? a=some {cls:=.type "list",data:=.seq<|oQ vs}/\ut P h vs xs
 |_=>True
theorem Jz{P:aD}{d:pe}(r:Well P h v d):BB P h v d:=by
 cases r with
 |int=>exact ⟨_,ag0⟩
 |list e r=>exact ⟨_,_,ag0,e,r⟩
 |_=>trivial
def ZE(P:aD)(h:Heap):List Value->List pe->Prop
 | [],ds=>ds= []
 |v::vs,ds=>∃d r,ds=d::r/\BB P h v d/\ut P h vs r
theorem wA{P:aD}{vs:List Value}{ds:List pe}(r:ut P h vs ds):ZE P h vs ds:=by
 cases r with
 |nil=>rfl
 |cons a b=>exact ⟨_,_,ag0,Jz a,b⟩
theorem ZF{P:aD}:∀(vs:List Value) (ns:List Int),ut P h vs (ns.map iH)->c8 ns vs:=by
 intro vs
 induction vs with
 |nil=>intro ns r;cases ns with
  |nil=>trivial
  |cons=>cases (wA r :)
 |cons v vs ih=>intro ns r;cases ns with
  |nil=>exact (wA r).elim λd a=>a.elim λr b=>nomatch b.1
  |cons n ns=>exact (wA r).elim λd a=>a.elim λr b=>⟨(agX (BB P h v) (bt b.1).1).mpr b.2.1,ih ns<|(bt b.1).2▸b.2.2⟩
theorem ZG{P:aD}{vals:List Value}(r:ut P h vals [.list (ns.map iH)])(k:∀sa (xs:List Value),vals= [.ref sa]->h.get? sa=some {cls:=.type "list",data:=.seq xs.toArray}->c8 ns xs->Z):Z:=
 (wellAll_cons_inv r).elim λv a=>a.elim λvs b=>(Jz b.2.1).elim λsa c=>c.elim λxs d=>k sa xs (b.1.trans (by
  rw [d.1];cases vs with
  |nil=>rfl
  |cons=>exact (wA b.2.2).elim λ_ a=>a.elim λ_ b=>nomatch b.1)) d.2.1 (ZF xs ns d.2.2)
def BC:Prop:=∀ns:List Int,ns.length<=63->kW G 43 105 [.ref 0] [.fix ns,.tab none] λv H=>v= .bool true/\∃o,H[(1:Nat)]? = some (.tab o)
theorem ZH(et:h.get? PT=some (gc #[]))(hL:h.get? sa=some {cls:=.type "list",data:=.seq xs.toArray})(hv:c8 ns xs)(hn:ns.length<=63):
 HR w (fU h) [(sa,sa),(PT,PT)] [.fix ns,.tab none] h:=
 have nsa:sa≠PT:=λq=>nomatch (agX (dq yo) ((q▸hL).symm.trans et) :);have fr:(fU h).get? PT=none:=(vx h PT).trans (if_pos ag0)
 ⟨λb x e=>(dz<|b=PT).elim (λq=>nn (fr.symm.trans<|q▸e)) λq=>((vx h b).trans<|if_neg q).symm.trans e,ag0,
  two ⟨ag0,xs,_,hL,hv,ae hn<|by decide⟩ ⟨ag0,ag0,_,et,ag0⟩,
  two (P:=λ(_:Nat) (p:Addr×Addr) (o:O)=>(∀ns,o≠ .fix ns)->(fU h).get? p.1=none/\(fU h).get? p.2=none) (λnf=>absurd rfl<|nf ns) (λ_=>⟨fr,fr⟩),
  λi j p q e1 e2 ne=>two (P:=λi p q=>∀j r,[(sa,sa),(PT,PT)][j]? = some r->i≠j->p.1≠r.1/\p.1≠r.2/\p.2≠r.2)
   (λj r e=>two (P:=λj r _=>0≠j->sa≠r.1/\sa≠r.2/\sa≠r.2) (λz=>absurd ag0 z) (λ_=>⟨nsa,nsa,nsa⟩) j r r e e)
   (λj r e=>two (P:=λj r _=>1≠j->PT≠r.1/\PT≠r.2/\PT≠r.2) (λ_=>⟨nsa.symm,nsa.symm,nsa.symm⟩) (λz=>absurd ag0 z) j r r e e) i p p e1 e1 j q e2 ne⟩
theorem ZJ(ns:List Int):eG.toRowW.claim.post [.list (ns.map iH)] (.bool true) [.list (ns.map iH)]:=
 show (WShape.has [] (.bool true) .bool&&WTm.holds [] (.eq .res (.lit<|.bool true)) {args:=[.list (ns.map iH)],res:=some<|.bool true,after:=[.list (ns.map iH)]})=true by kernel_rfl
theorem ZK{P:Addr->Obj->Prop}{b:Addr}(e:h.get? a=some o)(A:P a o)(y:h.get? b=some x)(z:b=a):P b x:=by subst z;exact av (e.symm.trans y)▸A
theorem ZL(et:h.get? PT=some (gc #[]))(cd:CodeHd h 1604 PT)(b:∀b o,(fU h).get? b=some o->h'.get? b=some o)(e:h'.get? PT=some (gc ps)):OldK h h':=
 ⟨λa x y=>(dz<|a=PT).elim (ZK et (.inr<|.inl ⟨⟨_,(cd.tab et).1⟩,ag0, #[],ps,ag0,(Array.empty_append (xs:=ps)).symm▸e⟩) y) λz=>.inl (b a x<|sN y z),
  λa x y=>(dz<|a=PT).elim (λz=>⟨_,z▸e⟩) λz=>⟨x,b a x<|sN y z⟩⟩
theorem ZM{mg:Str->Option Value}(et:h.get? PT=some (gc #[]))(b:∃bm ob,mg "__builtins__"=some (.ref bm)/\bm≠jz/\h.get? bm=some ob/\ob.cls= .type "module"/\ob.dict=some jz/\ob.data= .plain):
 ∃bm ob,mg "__builtins__"=some (.ref bm)/\bm≠jz/\(fU h).get? bm=some ob/\ob.cls= .type "module"/\ob.dict=some jz/\ob.data= .plain:=
 b.elim λbm b=>b.elim λob b=>⟨bm,ob,b.1,b.2.1,sN b.2.2.1 (λq=>nomatch ((agX yo (av<|(q▸b.2.2.1).symm.trans et)).symm.trans b.2.2.2.1 :)),b.2.2.2⟩
def ZN{mg:Str->Option Value}(Y:nG w h)(T:tX qv kQ mg mb h)(b:∃bm ob,mg "__builtins__"=some (.ref bm)/\bm≠jz/\h.get? bm=some ob/\ob.cls= .type "module"/\ob.dict=some jz/\ob.data= .plain):Cx:=
 ⟨w,fU h,mg,mb,kQ,Si Y,Zx T,ZM (By Y) b⟩
theorem walk1(L:BC)(cy:Cy c)(Y:nG c.w s.heap)(hb:c.hb=fU s.heap)(hg:s.heap.Ns dE c.mg)(hmg:c.mg (am "law")=some (.ref a))(hlen:ns.length<=63)(hL:s.heap.get? sa=some {cls:=.type "list",data:=.seq xs.toArray})(hv:c8 ns xs)(k:∀s',OldK s.heap s'.heap->s'.os=s.os->s'.gens=s.gens->Q (.bool true) s'):ao (Md c) callerA (call (.ref a) [.ref sa]) Q E' s:=
 have hr:HR c.w c.hb [(sa,sa),(PT,PT)] [.fix ns,.tab none] s.heap:=hb▸ZH (By Y) hL hv hlen
 (q5 (av ((mg_of (c.cY hr) hg (AF c.w.params Zy)).symm.trans hmg)))▸(Zo cy 43).wp callerA 105 [.ref 0] [.ref sa] [.fix ns,.tab none] [(sa,sa),(PT,PT)] s _ _ _ ⟨rfl,by decide,by decide⟩ hr ⟨⟨_,rfl,rfl⟩,rfl⟩ (L ns hlen) λv x H' ρ' s' q af rv=>by obtain ⟨rfl,o',eo⟩:=q;cases rv;obtain ⟨_,_,ps,h1,_⟩:=af.r.obj 1 _ _ (af.k.pre rfl) eo;exact k s' (ZL (By Y) (Bp (c.cY hr)) (hb▸af.r.base) h1) af.o af.g
theorem agW(L:BC):zK:=by
 intro w s0 s1 mg mb Gr Y a o pm cd doc dV kV ha hd hcd hDf hmg hgens args vals as hpre hlay hreads hwell hmods;refine ZD hpre λns e hn=> ?_;subst e;refine ZG hwell λsa xs e hL hv=> ?_;subst e
 exact walk1 L (c:=ZN Y (topRead_of Gr.T) Gr.T.bmain) (Bz Y) Y ag0 Gr.T.g hmg hn hL hv λs' a b c=>
  ⟨.inl ⟨.bool true,.bool true,[],ag0,λ_=>ag0,.bool true,ZJ ns,λ_=>⟨Pr,λa h=>nomatch h⟩⟩,a,b,c▸hgens▸ .empty⟩
end Mine
namespace Pl
open PySem PySem.W PyProof.Rows Mine
noncomputable def lo(i:Nat):E:=.loc i
noncomputable def el:List E->Es
 | []=>.nil
 |e::r=>.cons e<|el r
noncomputable def sl:List S->Ss
 | []=>.nil
 |e::r=>.cons e<|sl r
noncomputable def tl:List T->Ts
 | []=>.nil
 |e::r=>.cons e<|tl r
noncomputable def ci(i:Int):E:=.cst<|.int i
noncomputable def cs(n:Nat):E:=.cst<|.str n
noncomputable def cN:E:=.cst .none
noncomputable def cT:E:=.cst<|.bool true
noncomputable def cF:E:=.cst<|.bool false
def at_(n:Nat)(e:E):E:=.prim (.attr n)<|el [e]
def cm(op:Op)(a b:E):E:=.prim (.cmp op)<|el [a,b]
def pr(p:P)(as:List E):E:=.prim p<|el as
def ca(f:Nat)(as:List E):E:=.call f<|el as
def nw(c:Nat)(as:List E):E:=.new c<|el as
def me(o:E)(n:Nat)(as:List E):E:=.l7 o n<|el as
noncomputable def ak(i:Nat)(e:E):S:=.ag (.loc i) e
def GF(k:Nat)(d:FD):Prop:=Mine.G.fn k=some d
variable{d:FD}{k:Nat}
theorem gk(h:dD (k+1) Aa)(e:vn (fnAt k)=d):GF k d:=Mine.R' (au h) e
theorem g1:GF 1 ⟨1,3,[],sl [.ret (.ite (cm .is (lo 0) cN) (ci 0) (at_ 0<|lo 0))]⟩:=gk rfl<|by kernel_rfl
theorem g2:GF 2 ⟨1,3,[],sl [.ret (pr .sub [pr .sub [at_ 0 (lo 0),ca 1 [at_ 2 (lo 0)]],ca 1 [at_ 3 (lo 0)]])]⟩:=gk rfl<|by kernel_rfl
theorem g3:GF 3 ⟨1,3,[],sl [.ret (ca 1 [at_ 5 (lo 0)])]⟩:=gk rfl<|by kernel_rfl
theorem g4:GF 4 ⟨3,6,[],sl [ak 3 (at_ 4<|lo 1),.ite (cm .aY (lo 2) cN) (sl [.ag (.attr (lo 2) 4) (lo 3)])<|sl [],.ite (cm .is (lo 3) cN) (sl [.ag (.attr (lo 0) 5) (lo 2)])<|sl [.ite (cm .is (at_ 2<|lo 3)<|lo 1) (sl [.ag (.attr (lo 3) 2) (lo 2)]) (sl [.ag (.attr (lo 3) 3) (lo 2)])]]⟩:=gk rfl<|by kernel_rfl
theorem g5:GF 5 ⟨2,4,[],sl [.ag (.attr (lo 0) 2) (lo 1),.ite (cm .aY (lo 1) cN) (sl [.ag (.attr (lo 1) 4) (lo 0)])<|sl []]⟩:=gk rfl<|by kernel_rfl
theorem g6:GF 6 ⟨2,4,[],sl [.ag (.attr (lo 0) 3) (lo 1),.ite (cm .aY (lo 1) cN) (sl [.ag (.attr (lo 1) 4) (lo 0)])<|sl []]⟩:=gk rfl<|by kernel_rfl
theorem g7:GF 7 ⟨2,6,[],sl [ak 2 (at_ 2<|lo 1),.expr<|ca 4 [lo 0,lo 1,lo 2],ak 3 (at_ 0<|lo 1),.ag (.attr (lo 1) 0)<|pr .add [pr .sub [at_ 0 (lo 1),at_ 0<|lo 2],ca 1 [at_ 3 (lo 2)]],.expr<|ca 5 [lo 1,at_ 3<|lo 2],.expr<|ca 6 [lo 2,lo 1],.ag (.attr (lo 2) 0)<|lo 3,.ret<|lo 2]⟩:=gk rfl<|by kernel_rfl
theorem g8:GF 8 ⟨2,6,[],sl [ak 2 (at_ 3<|lo 1),.expr<|ca 4 [lo 0,lo 1,lo 2],ak 3 (at_ 0<|lo 1),.ag (.attr (lo 1) 0)<|pr .add [pr .sub [at_ 0 (lo 1),at_ 0<|lo 2],ca 1 [at_ 2 (lo 2)]],.expr<|ca 6 [lo 1,at_ 2<|lo 2],.expr<|ca 5 [lo 2,lo 1],.ag (.attr (lo 2) 0)<|lo 3,.ret<|lo 2]⟩:=gk rfl<|by kernel_rfl
theorem g9:GF 9 ⟨1,5,[],sl [ak 1 (at_ 2<|lo 0),ak 2<|pr .sub [ca 1 [lo 1],ca 1 [at_ 3 (lo 0)]],.ite (cm .le (lo 2)<|ci 0) (sl [.ret cF])<|sl [],.ret (cm .lt (pr .abs [pr .sub [ca 1 [at_ 2 (lo 1)],pr .add [pr .sub [at_ 0 (lo 0),at_ 0<|lo 1],ca 1 [at_ 3 (lo 1)]]]])<|lo 2)]⟩:=gk rfl<|by kernel_rfl
theorem ZP:GF 10 ⟨1,5,[],sl [ak 1 (at_ 3<|lo 0),ak 2<|pr .sub [ca 1 [lo 1],ca 1 [at_ 2 (lo 0)]],.ite (cm .le (lo 2)<|ci 0) (sl [.ret cF])<|sl [],.ret (cm .lt (pr .abs [pr .sub [ca 1 [at_ 3 (lo 1)],pr .add [pr .sub [at_ 0 (lo 0),at_ 0<|lo 1],ca 1 [at_ 2 (lo 1)]]]])<|lo 2)]⟩:=gk rfl<|by kernel_rfl
theorem ZQ:GF 11 ⟨2,8,[],sl [ak 2 (pr .list [lo 1]),ak 3<|lo 1,.while (cm .gt (pr .len [lo 2])<|ci 0)<|sl [ak 4 (.lm .pop (lo 2)<|el []),.ite (ca 9 [lo 4]) (sl [ak 5 (ca 7 [lo 0,lo 4]),ak 3 (.ite (cm .is (lo 4)<|lo 3) (lo 5)<|lo 3),.expr (.lm .extend (lo 2)<|el [pr .list [lo 5,lo 4]])])<|sl [.ite (ca 10 [lo 4]) (sl [ak 5 (ca 8 [lo 0,lo 4]),ak 3 (.ite (cm .is (lo 4)<|lo 3) (lo 5)<|lo 3),.expr (.lm .extend (lo 2)<|el [pr .list [lo 5,lo 4]])]) (sl [])]],.ret<|lo 3]⟩:=gk rfl<|by kernel_rfl
theorem ZR:GF 12 ⟨2,4,[],sl [.while (cm .aY (lo 1) cN) (sl [ak 1 (at_ 4<|ca 11 [lo 0,lo 1])])]⟩:=gk rfl<|by kernel_rfl
theorem ZS:GF 13 ⟨2,4,[],sl [.while (cm .aY (lo 0) cN) (sl [.ag (.attr (lo 0) 0) (pr .add [at_ 0 (lo 0),lo 1]),ak 0 (at_ 4<|lo 0)])]⟩:=gk rfl<|by kernel_rfl
theorem ZT:GF 14 ⟨2,8,[],sl [ak 2 (at_ 5<|lo 0),ak 3<|ci 0,.while cT<|sl [ak 4 (ca 1 [at_ 2 (lo 2)]),ak 5<|ca 2 [lo 2],.ite (cm .lt (lo 1)<|pr .add [lo 3,lo 4]) (sl [ak 2 (at_ 2<|lo 2)])<|sl [.ite (cm .lt (lo 1)<|pr .add [pr .add [lo 3,lo 4],lo 5]) (sl [.ret (pr .tup [lo 2,pr .add [lo 3,lo 4]])]) (sl [ak 3 (pr .add [pr .add [lo 3,lo 4],lo 5]),ak 2 (at_ 3<|lo 2)])]]]⟩:=gk rfl<|by kernel_rfl
theorem ZU:GF 15 ⟨1,3,[],sl [.while (cm .aY (at_ 2<|lo 0) cN) (sl [ak 0 (at_ 2<|lo 0)]),.ret<|lo 0]⟩:=gk rfl<|by kernel_rfl
theorem ZV:GF 16 ⟨1,3,[],sl [.while (cm .aY (at_ 3<|lo 0) cN) (sl [ak 0 (at_ 3<|lo 0)]),.ret<|lo 0]⟩:=gk rfl<|by kernel_rfl
theorem ZW:GF 17 ⟨1,3,[],sl [.ite (cm .aY (at_ 3<|lo 0) cN) (sl [.ret (ca 15 [at_ 3 (lo 0)])]) (sl []),.while (.and (cm .aY (at_ 4<|lo 0) cN) (cm .is (at_ 3 (at_ 4<|lo 0))<|lo 0))<|sl [ak 0 (at_ 4<|lo 0)],.ret (at_ 4<|lo 0)]⟩:=gk rfl<|by kernel_rfl
theorem BE:GF 18 ⟨1,3,[],sl [.ite (cm .aY (at_ 2<|lo 0) cN) (sl [.ret (ca 16 [at_ 2 (lo 0)])]) (sl []),.while (.and (cm .aY (at_ 4<|lo 0) cN) (cm .is (at_ 2 (at_ 4<|lo 0))<|lo 0))<|sl [ak 0 (at_ 4<|lo 0)],.ret (at_ 4<|lo 0)]⟩:=gk rfl<|by kernel_rfl
theorem ZX:GF 19 ⟨3,5,[],sl [.ite (cm .is (at_ 3<|lo 1) cN) (sl [.expr (ca 6 [lo 1,lo 2])]) (sl [ak 1 (ca 15 [at_ 3 (lo 1)]),.expr<|ca 5 [lo 1,lo 2]]),.expr<|ca 13 [at_ 4 (lo 2),at_ 0<|lo 2],.expr<|ca 12 [lo 0,at_ 4<|lo 2]]⟩:=gk rfl<|by kernel_rfl
theorem ZY:GF 21 ⟨2,7,[],sl [.ite (.not (.chain (ci 0) .lt (lo 1) .lt<|ca 3 [lo 0])) (sl [.ret cN]) (sl []),.ag (.tup<|tl [.loc 2,.loc 3])<|ca 14 [lo 0,lo 1],.ite (cm .eq (lo 3)<|lo 1) (sl [.ret cN])<|sl [],ak 4<|pr .sub [ca 2 [lo 2],pr .sub [lo 1,lo 3]],.expr<|ca 13 [lo 2,pr .sub [ci 0,lo 4]],.expr<|ca 19 [lo 0,lo 2,nw 0 [lo 4,at_ 1<|lo 2]]]⟩:=gk rfl<|by kernel_rfl
theorem BF:GF 22 ⟨2,8,[],sl [.expr (ca 13 [at_ 4 (lo 1),pr .sub [ci 0,ca 2 [lo 1]]]),ak 2 (at_ 4<|lo 1),.ite (.or (cm .is (at_ 2<|lo 1) cN)<|cm .is (at_ 3<|lo 1) cN) (sl [ak 3 (.ite (cm .is (at_ 3<|lo 1) cN) (at_ 2<|lo 1) (at_ 3<|lo 1)),.expr<|ca 4 [lo 0,lo 1,lo 3],.expr<|ca 12 [lo 0,lo 2],.ret cN])<|sl [],ak 4 (at_ 2<|lo 1),ak 5<|ca 15 [at_ 3 (lo 1)],.expr<|ca 4 [lo 0,lo 1,at_ 3<|lo 1],.expr<|ca 5 [lo 5,lo 4],.while (cm .aY (lo 5)<|lo 2)<|sl [.ag (.attr (lo 5) 0) (pr .add [at_ 0 (lo 5),at_ 0<|lo 4]),ak 5 (at_ 4<|lo 5)],.expr<|ca 12 [lo 0,at_ 4<|lo 4]]⟩:=gk rfl<|by kernel_rfl
theorem ZZ:GF 24 ⟨1,4,[],sl [.ite (cm .eq (at_ 14<|lo 0)<|ci 0) (sl [.ret cN]) (sl []),.ag (.attr (lo 0) 9)<|pr .add [at_ 9 (lo 0),at_ 14<|lo 0],.ag (.attr (lo 0) 10)<|pr .add [at_ 10 (lo 0),at_ 14<|lo 0],.ag (.attr (lo 0) 13)<|pr .add [at_ 13 (lo 0),at_ 14<|lo 0],.for [1] (.seq<|pr .tup [at_ 2 (lo 0),at_ 3<|lo 0])<|sl [.ite (cm .aY (lo 1) cN) (sl [.ag (.attr (lo 1) 14) (pr .add [at_ 14 (lo 1),at_ 14<|lo 0])]) (sl [])],.ag (.attr (lo 0) 14)<|ci 0]⟩:=gk rfl<|by kernel_rfl
theorem Z0:GF 25 ⟨1,5,[],sl [ak 1 (pr .list []),.while (cm .aY (lo 0) cN)<|sl [.expr (.lm .append (lo 1)<|el [lo 0]),ak 0 (at_ 4<|lo 0)],.for [2] (.seq<|pr .rev [lo 1])<|sl [.expr (ca 24 [lo 2])]]⟩:=gk rfl<|by kernel_rfl
theorem Z1:GF 26 ⟨1,5,[],sl [ak 1 (at_ 10<|lo 0),.for [2] (.seq<|pr .tup [at_ 2 (lo 0),at_ 3<|lo 0])<|sl [.ite (cm .aY (lo 2) cN) (sl [ak 1 (pr .max2 [lo 1,pr .add [at_ 13 (lo 2),at_ 14<|lo 2]])]) (sl [])],.ret<|lo 1]⟩:=gk rfl<|by kernel_rfl
theorem Z2:GF 28 ⟨4,6,[],sl [.ite (cm .is (lo 1) cN) (sl [.ag (.attr (lo 0) 5) (lo 3)]) (sl [.ite (cm .is (at_ 2<|lo 1)<|lo 2) (sl [.ag (.attr (lo 1) 2) (lo 3)]) (sl [.ag (.attr (lo 1) 3) (lo 3)])]),.ite (cm .aY (lo 3) cN) (sl [.ag (.attr (lo 3) 4) (lo 1)])<|sl []]⟩:=gk rfl<|by kernel_rfl
theorem Z3:GF 29 ⟨2,5,[],sl [ak 2 (at_ 3<|lo 1),.expr<|ca 24 [lo 1],.expr<|ca 24 [lo 2],.ag (.attr (lo 1) 3) (at_ 2<|lo 2),.ite (cm .aY (at_ 2<|lo 2) cN) (sl [.ag (.attr (at_ 2<|lo 2) 4) (lo 1)])<|sl [],.expr<|ca 28 [lo 0,at_ 4<|lo 1,lo 1,lo 2],.ag (.attr (lo 2) 2)<|lo 1,.ag (.attr (lo 1) 4)<|lo 2,.ag (.attr (lo 1) 13)<|ca 26 [lo 1],.ag (.attr (lo 2) 13)<|ca 26 [lo 2]]⟩:=gk rfl<|by kernel_rfl
theorem Z4:GF 30 ⟨2,5,[],sl [ak 2 (at_ 2<|lo 1),.expr<|ca 24 [lo 1],.expr<|ca 24 [lo 2],.ag (.attr (lo 1) 2) (at_ 3<|lo 2),.ite (cm .aY (at_ 3<|lo 2) cN) (sl [.ag (.attr (at_ 3<|lo 2) 4) (lo 1)])<|sl [],.expr<|ca 28 [lo 0,at_ 4<|lo 1,lo 1,lo 2],.ag (.attr (lo 2) 3)<|lo 1,.ag (.attr (lo 1) 4)<|lo 2,.ag (.attr (lo 1) 13)<|ca 26 [lo 1],.ag (.attr (lo 2) 13)<|ca 26 [lo 2]]⟩:=gk rfl<|by kernel_rfl
theorem JA:GF 31 ⟨1,3,[],sl [.ret (.and (cm .aY (lo 0) cN) (at_ 15<|lo 0))]⟩:=gk rfl<|by kernel_rfl
theorem Z5:GF 32 ⟨2,8,[],sl [.while (ca 31 [at_ 4 (lo 1)]) (sl [ak 2 (at_ 4<|lo 1),ak 3 (at_ 4<|lo 2),ak 4 (cm .is (at_ 2<|lo 3)<|lo 2),ak 5<|.ite (lo 4) (at_ 3<|lo 3) (at_ 2<|lo 3),.ite (ca 31 [lo 5]) (sl [.ag (.attr (lo 2) 15) cF,.ag (.attr (lo 5) 15) cF,.ag (.attr (lo 3) 15) cT,ak 1<|lo 3])<|sl [ak 1 (ca 33 [lo 0,lo 1,lo 4]),.ag (.attr (at_ 4<|lo 1) 15) cF,.ag (.attr (lo 3) 15) cT,.ite (lo 4) (sl [.expr (ca 30 [lo 0,lo 3])])<|sl [.expr (ca 29 [lo 0,lo 3])]]]),.ag (.attr (at_ 5<|lo 0) 15) cF]⟩:=gk rfl<|by kernel_rfl
theorem wB:GF 33 ⟨3,6,[],sl [ak 3 (at_ 4<|lo 1),.ite (.and (lo 2) (cm .is (at_ 3<|lo 3)<|lo 1)) (sl [.expr (ca 29 [lo 0,lo 3]),.ret<|lo 3])<|sl [],.ite (.and (.not<|lo 2) (cm .is (at_ 2<|lo 3)<|lo 1)) (sl [.expr (ca 30 [lo 0,lo 3]),.ret<|lo 3])<|sl [],.ret<|lo 1]⟩:=gk rfl<|by kernel_rfl
theorem Z6:GF 34 ⟨2,7,[],sl [.ag (.attr (lo 0) 16) (pr .add [at_ 16 (lo 0),ci 1]),.ag (.attr (lo 1) 2) cN,.ag (.attr (lo 1) 3) cN,.ag (.attr (lo 1) 4) cN,.ag (.attr (lo 1) 14)<|ci 0,.ag (.attr (lo 1) 13) (at_ 10<|lo 1),.ite (cm .is (at_ 5<|lo 0) cN) (sl [.ag (.attr (lo 1) 15) cF,.ag (.attr (lo 0) 5)<|lo 1,.ret cN])<|sl [],ak 2 (at_ 5<|lo 0),ak 3 cN,ak 4 cF,.while (cm .aY (lo 2) cN)<|sl [.expr (ca 24 [lo 2]),.ag (.attr (lo 2) 13)<|pr .max2 [at_ 13 (lo 2),at_ 10<|lo 1],ak 3<|lo 2,ak 4<|cm .le (at_ 9<|lo 1) (at_ 9<|lo 2),ak 2<|.ite (lo 4) (at_ 2<|lo 2) (at_ 3<|lo 2)],.ag (.attr (lo 1) 4)<|lo 3,.ite (lo 4) (sl [.ag (.attr (lo 3) 2) (lo 1)])<|sl [.ag (.attr (lo 3) 3) (lo 1)],.ag (.attr (lo 1) 15) cT,.expr<|ca 32 [lo 0,lo 1]]⟩:=gk rfl<|by kernel_rfl
theorem Z7:GF 42 ⟨3,8,[],sl [ak 3 (pr .list []),ak 4<|pr .list [],ak 5 (at_ 5<|lo 0),.while (.or (cm .aY (lo 5) cN) (cm .gt (pr .len [lo 4])<|ci 0))<|sl [.while (cm .aY (lo 5) cN) (sl [.expr (ca 24 [lo 5]),.ite (cm .lt (at_ 13<|lo 5)<|lo 1) (sl [ak 5 cN])<|sl [.expr (.lm .append (lo 4)<|el [lo 5]),ak 5 (at_ 2<|lo 5)]]),.ite (cm .gt (pr .len [lo 4])<|ci 0) (sl [ak 5 (.lm .pop (lo 4)<|el []),.ite (.and (cm .le (at_ 9<|lo 5)<|lo 2) (cm .ge (at_ 10<|lo 5)<|lo 1)) (sl [.expr (.lm .append (lo 3)<|el [lo 5])])<|sl [],ak 5<|.ite (cm .le (at_ 9<|lo 5)<|lo 2) (at_ 3<|lo 5) cN])<|sl []],.ret<|lo 3]⟩:=gk rfl<|by kernel_rfl
theorem Z8:GF 47 ⟨2,4,[],sl [.ite (.or (pr .isBool [lo 0])<|pr .isBool [lo 1]) (sl [.ret (.and (pr .isBool [lo 0])<|.and (pr .isBool [lo 1]) (cm .eq (lo 0)<|lo 1))]) (sl []),.ret (cm .eq (lo 0)<|lo 1)]⟩:=gk rfl<|by kernel_rfl
theorem Z9:GF 48 ⟨2,5,[],sl [.for [2] (.aN<|pr .len [lo 0]) (sl [.ite (cm .eq (pr .item [pr .item [lo 0,lo 2],ci 0])<|lo 1) (sl [.ret (lo 2)]) (sl [])]),.ret<|pr .neg [ci 1]]⟩:=gk rfl<|by kernel_rfl
theorem Z':GF 49 ⟨2,5,[],sl [ak 2 (ca 48 [lo 0,lo 1]),.ret<|.ite (cm .ge (lo 2)<|ci 0) (pr .tup [pr .item [pr .item [lo 0,lo 2],ci 1]]) cN]⟩:=gk rfl<|by kernel_rfl
theorem g50:GF 50 ⟨3,6,[],sl [ak 3 (ca 48 [lo 0,lo 1]),.ite (cm .lt (lo 3)<|ci 0) (sl [.ret (pr .add [lo 0,pr .list [pr .tup [lo 1,lo 2]]])])<|sl [],.ret<|pr .add [pr .add [pr .sliceTo [lo 0,lo 3],pr .list [pr .tup [lo 1,lo 2]]],pr .sliceFrom [lo 0,pr .add [lo 3,ci 1]]]]⟩:=gk rfl<|by kernel_rfl
theorem JB:GF 51 ⟨3,6,[],sl [ak 3 (ca 48 [lo 0,lo 1]),.ret (.and (cm .ge (lo 3)<|ci 0)<|ca 47 [pr .item [pr .item [lo 0,lo 3],ci 1],lo 2])]⟩:=gk rfl<|by kernel_rfl
theorem g52:GF 52 ⟨2,6,[],sl [.ite (cm .ne (pr .len [lo 0])<|pr .len [lo 1]) (sl [.ret cF]) (sl []),.for [2,3] (.seq<|lo 0)<|sl [.ite (.not<|ca 51 [lo 1,lo 2,lo 3]) (sl [.ret cF]) (sl [])],.ret cT]⟩:=gk rfl<|by kernel_rfl
theorem JC:GF 53 ⟨3,7,[],sl [ak 3 (ca 49 [lo 1,lo 2]),.ite (cm .is (lo 3) cN) (sl [ak 4 (ca 49 [lo 1,at_ 21<|lo 0]),.ite (.and (cm .aY (lo 4) cN) (cm .ge (me (at_ 18<|lo 0) 28 [pr .item [lo 4,ci 0]])<|ci 0)) (sl [ak 3 (me (at_ 18<|lo 0) 27 [pr .item [lo 4,ci 0],lo 2])])<|sl []])<|sl [],.ret (.ite (cm .is (lo 3) cN) (at_ 19<|lo 0)<|pr .item [lo 3,ci 0])]⟩:=gk rfl<|by kernel_rfl
theorem g54:GF 54 ⟨1,3,[],sl [.expr (ca 25 [at_ 29 (lo 0)]),.ret<|at_ 9 (at_ 29<|lo 0)]⟩:=gk rfl<|by kernel_rfl
theorem g55:GF 55 ⟨1,3,[],sl [.expr (ca 25 [at_ 29 (lo 0)]),.ret<|at_ 10 (at_ 29<|lo 0)]⟩:=gk rfl<|by kernel_rfl
theorem g56:GF 56 ⟨1,3,[],sl [.ite (cm .aY (at_ 30<|lo 0) cN) (sl [.expr (ca 37 [at_ 31 (at_ 30<|lo 0),at_ 29<|lo 0]),.expr<|me (at_ 32 (at_ 30<|lo 0)) 6 [at_ 8 (lo 0)],.ag (.attr (lo 0) 30) cN]) (sl [])]⟩:=gk rfl<|by kernel_rfl
theorem g57:GF 57 ⟨4,6,[],sl [.expr (ca 56 [lo 0]),.ag (.attr (at_ 29<|lo 0) 9)<|pr .min2 [lo 2,lo 3],.ag (.attr (at_ 29<|lo 0) 10)<|pr .max2 [lo 2,lo 3],.ag (.attr (lo 0) 30)<|lo 1,.ag (.item (at_ 32<|lo 1) (at_ 8<|lo 0))<|lo 0,.expr<|ca 34 [at_ 31 (lo 1),at_ 29<|lo 0]]⟩:=gk rfl<|by kernel_rfl
theorem g58:GF 58 ⟨6,9,[],sl [ak 6 (nw 5 [lo 1,lo 4,lo 5]),.expr<|ca 57 [lo 6,lo 0,lo 2,lo 3],.ret<|lo 6]⟩:=gk rfl<|by kernel_rfl
theorem JD:GF 59 ⟨3,5,[],sl [.ret (ca 53 [lo 0,at_ 1<|lo 1,lo 2])]⟩:=gk rfl<|by kernel_rfl
theorem g60:GF 60 ⟨4,7,[],sl [ak 4 (.not<|ca 51 [at_ 1 (lo 1),lo 2,lo 3]),.ite (lo 4) (sl [.ag (.attr (lo 1) 1) (ca 50 [at_ 1 (lo 1),lo 2,lo 3])])<|sl [],.ite (.and (cm .eq (lo 2) (at_ 24<|lo 0)) (.and (.not<|me (lo 0) 34 [lo 3])<|cm .aY (at_ 30<|lo 1) cN)) (sl [.ite (cm .eq (ca 54 [lo 1])<|ca 55 [lo 1]) (sl [.expr (ca 56 [lo 1])]) (sl [])])<|sl [],.ret<|lo 4]⟩:=gk rfl<|by kernel_rfl
theorem g61:GF 61 ⟨2,4,[],sl [.ret (.comp [2] (.seq<|lo 1) (el [])<|pr .item [at_ 32 (lo 0),at_ 8<|lo 2])]⟩:=gk rfl<|by kernel_rfl
theorem g62:GF 62 ⟨2,4,[],sl [.ret (ca 61 [lo 0,.comp [2] (.seq<|ca 42 [at_ 31 (lo 0),lo 1,lo 1]) (el [.chain (at_ 9<|lo 2) .le (lo 1) .lt (at_ 10<|lo 2)])<|lo 2])]⟩:=gk rfl<|by kernel_rfl
theorem g63:GF 63 ⟨4,6,[],sl [.ite (cm .lt (at_ 9<|lo 0) (at_ 10<|lo 0)) (sl [.ret (.and (cm .lt (at_ 9<|lo 0)<|lo 2) (cm .gt (at_ 10<|lo 0)<|lo 1))]) (sl []),.ret (.or (cm .eq (at_ 9<|lo 0)<|lo 1)<|.or (.chain (lo 1) .lt (at_ 9<|lo 0) .lt<|lo 2) (.and (cm .eq (at_ 9<|lo 0)<|lo 2)<|lo 3))]⟩:=gk rfl<|by kernel_rfl
theorem g64:GF 64 ⟨4,7,[],sl [ak 4 (.comp [5] (.seq<|ca 42 [at_ 31 (lo 0),lo 1,lo 2]) (el [ca 63 [lo 5,lo 1,lo 2,cm .eq (lo 2)<|lo 3]])<|lo 5),.ret<|ca 61 [lo 0,lo 4]]⟩:=gk rfl<|by kernel_rfl
theorem g65:GF 65 ⟨3,8,[],sl [ak 3 (lo 2),.for [4] (.seq<|ca 42 [at_ 31 (lo 0),lo 1,lo 2])<|sl [.for [5] (.seq<|pr .tup [at_ 9 (lo 4),at_ 10<|lo 4]) (sl [.ite (.chain (lo 1) .lt (lo 5) .lt<|lo 3) (sl [ak 3 (lo 5)]) (sl [])])],.ret<|lo 3]⟩:=gk rfl<|by kernel_rfl
theorem g66:GF 66 ⟨3,8,[],sl [.ite (cm .ge (lo 1)<|ca 3 [at_ 31 (lo 0)]) (sl [.ret cN]) (sl []),.ag (.tup<|tl [.loc 3,.loc 4])<|ca 14 [at_ 31 (lo 0),lo 1],ak 5 (at_ 1<|lo 3),.while (.and (cm .aY (lo 3) cN)<|ca 52 [at_ 1 (lo 3),lo 5])<|sl [ak 4 (pr .add [lo 4,ca 2 [lo 3]]),ak 3<|ca 17 [lo 3]],.ret (.ite (.or (cm .is (lo 3) cN) (cm .ge (lo 4)<|lo 2)) cN<|lo 4)]⟩:=gk rfl<|by kernel_rfl
theorem g67:GF 67 ⟨2,4,[],sl [.ite (cm .ge (lo 1)<|ca 3 [at_ 31 (lo 0)]) (sl [.ret (pr .list [])]) (sl []),.ret (at_ 1<|pr .item [ca 14 [at_ 31 (lo 0),lo 1],ci 0])]⟩:=gk rfl<|by kernel_rfl
theorem g68:GF 68 ⟨3,8,[],sl [.ite (cm .ge (lo 1)<|lo 2) (sl [.ret (pr .list [])]) (sl []),.expr<|ca 21 [at_ 31 (lo 0),lo 1],.expr<|ca 21 [at_ 31 (lo 0),lo 2],ak 3<|pr .item [ca 14 [at_ 31 (lo 0),lo 1],ci 0],ak 4<|pr .list [],ak 5<|pr .sub [lo 2,lo 1],.while (cm .gt (lo 5)<|ci 0)<|sl [.expr (.lm .append (lo 4)<|el [lo 3]),ak 5<|pr .sub [lo 5,ca 2 [lo 3]],ak 3<|ca 17 [lo 3]],.ret<|lo 4]⟩:=gk rfl<|by kernel_rfl
theorem g69:GF 69 ⟨2,8,[],sl [.ite (.not (.chain (ci 0) .lt (lo 1) .lt<|ca 3 [at_ 31 (lo 0)])) (sl [.ret cN]) (sl []),.ag (.tup<|tl [.loc 2,.loc 3])<|ca 14 [at_ 31 (lo 0),lo 1],.ite (cm .ne (lo 3)<|lo 1) (sl [.ret cN])<|sl [],ak 4<|ca 18 [lo 2],.ite (ca 52 [at_ 1 (lo 4),at_ 1<|lo 2]) (sl [ak 5 (ca 2 [lo 2]),.expr<|ca 22 [at_ 31 (lo 0),lo 2],.expr<|ca 13 [lo 4,lo 5],.expr<|ca 12 [at_ 31 (lo 0),lo 4]])<|sl []]⟩:=gk rfl<|by kernel_rfl
theorem g70:GF 70 ⟨3,9,[],sl [ak 3 (lo 1),.while (.and (cm .le (lo 3)<|lo 2) (cm .lt (lo 3)<|ca 3 [at_ 31 (lo 0)]))<|sl [.ag (.tup<|tl [.loc 4,.loc 5]) (ca 14 [at_ 31 (lo 0),lo 3]),ak 6<|pr .add [lo 5,ca 2 [lo 4]],.expr<|ca 69 [lo 0,lo 5],ak 3<|lo 6],.expr<|ca 69 [lo 0,lo 2]]⟩:=gk rfl<|by kernel_rfl
theorem g71:GF 71 ⟨5,9,[],sl [ak 5 cF,.for [6] (.seq<|ca 68 [lo 0,lo 1,lo 2])<|sl [.ite (.not<|ca 51 [at_ 1 (lo 6),lo 3,lo 4]) (sl [.ag (.attr (lo 6) 1) (ca 50 [at_ 1 (lo 6),lo 3,lo 4]),ak 5 cT]) (sl [])],.expr<|ca 70 [lo 0,lo 1,lo 2],.ret<|lo 5]⟩:=gk rfl<|by kernel_rfl
theorem g73:GF 73 ⟨2,7,[],sl [ak 2 (ca 59 [lo 0,lo 1,at_ 25<|lo 0]),.ite (pr .isInt [lo 2]) (sl [.ret (pr .tup [lo 2,ci 0])])<|sl [],ak 3<|me (at_ 18<|lo 0) 35 [lo 2],.ite (cm .is (lo 3) cN) (sl [.ret (pr .tup [ci 0,ci 0])])<|sl [],ak 4 (.ite (pr .isInt [pr .item [lo 3,ci 0]]) (pr .item [lo 3,ci 0])<|ci 0),.ret<|pr .tup [lo 4,.ite (pr .isInt [pr .item [lo 3,ci 1]]) (pr .item [lo 3,ci 1])<|ci 0]]⟩:=gk rfl<|by kernel_rfl
theorem g74:GF 74 ⟨2,6,[],sl [.ag (.tup<|tl [.loc 2,.loc 3]) (ca 73 [lo 0,lo 1]),.ret<|pr .tup [lo 2,lo 3,ca 54 [lo 1],pr .sub [ci 0,ca 55 [lo 1]],at_ 8<|lo 1]]⟩:=gk rfl<|by kernel_rfl
theorem g75:GF 75 ⟨2,4,[],sl [.ret (.kT (lo 1) (nw 8 [lo 0]) 36 true)]⟩:=gk rfl<|by kernel_rfl
theorem g76:GF 76 ⟨5,9,[],sl [.for [5] (.seq<|ca 75 [lo 0,ca 62 [lo 1,lo 3]]) (sl [ak 6 (ca 59 [lo 0,lo 5,lo 4]),.ite (.not<|me (lo 0) 34 [lo 6]) (sl [.ret (pr .tup [lo 6,lo 5])])<|sl []]),.ret<|pr .tup [ca 53 [lo 0,ca 67 [lo 2,lo 3],lo 4],cN]]⟩:=gk rfl<|by kernel_rfl
theorem g77:GF 77 ⟨5,7,[],sl [.ret (pr .item [ca 76 [lo 0,lo 1,lo 2,lo 3,lo 4],ci 0])]⟩:=gk rfl<|by kernel_rfl
theorem g78:GF 78 ⟨4,8,[],sl [ak 4 (ca 66 [lo 1,lo 2,lo 3]),ak 5<|ca 65 [lo 0,lo 2,lo 3],.ret (.ite (cm .is (lo 4) cN) (lo 5)<|pr .min2 [lo 4,lo 5])]⟩:=gk rfl<|by kernel_rfl
theorem g79:GF 79 ⟨6,10,[],sl [ak 6 (ca 3 [at_ 31 (lo 2)]),ak 7<|ca 77 [lo 0,lo 1,lo 2,lo 3,lo 4],.while (cm .lt (lo 3)<|lo 5)<|sl [ak 3 (ca 78 [lo 1,lo 2,lo 3,lo 6]),.ite (.or (cm .ge (lo 3)<|lo 5) (cm .ge (lo 3)<|lo 6)) (sl [.ret (pr .min2 [lo 5,lo 6])])<|sl [],.ite (.not<|ca 47 [ca 77 [lo 0,lo 1,lo 2,lo 3,lo 4],lo 7]) (sl [.ret (lo 3)])<|sl []],.ret<|lo 3]⟩:=gk rfl<|by kernel_rfl
theorem g80:GF 80 ⟨3,5,[],sl [.ret (ca 77 [at_ 33 (at_ 32<|lo 0),at_ 32<|lo 0,at_ 37<|lo 0,pr .sub [lo 1,ci 1],lo 2])]⟩:=gk rfl<|by kernel_rfl
theorem g81:GF 81 ⟨4,7,[],sl [ak 4 (at_ 33 (at_ 32<|lo 0)),.ret<|pr .add [ca 79 [lo 4,at_ 32<|lo 0,at_ 37<|lo 0,pr .sub [lo 1,ci 1],lo 2,pr .sub [lo 3,ci 1]],ci 1]]⟩:=gk rfl<|by kernel_rfl
theorem g82:GF 82 ⟨2,5,[],sl [ak 2 (ca 64 [at_ 32 (lo 0),pr .max2 [ci 0,pr .sub [lo 1,ci 2]],lo 1,me (lo 0) 38 []]),.ret (.comp [3] (.seq<|lo 2) (el [cm .isIn (pr .sub [lo 1,ci 1]) (pr .tup [at_ 9 (at_ 29<|lo 3),at_ 10 (at_ 29<|lo 3)])])<|lo 3)]⟩:=gk rfl<|by kernel_rfl
theorem JE:GF 83 ⟨2,6,[],sl [ak 2 (me (lo 0) 49 [lo 1]),ak 3 (.ite (cm .aY (lo 2) cN) (lo 2)<|pr .list [lo 1]),.ret (.comp [4] (.seq<|lo 3) (el [cm .ge (me (lo 0) 28 [lo 4]) (ci 0)])<|me (lo 0) 28 [lo 4])]⟩:=gk rfl<|by kernel_rfl
theorem g84:GF 84 ⟨4,10,[],sl [ak 4 (ca 59 [lo 0,lo 1,lo 2]),.ite (.not<|pr (.pK 9) [lo 4]) (sl [.ret (pr .list [])])<|sl [],.ag (.tup<|tl [.loc 5,.loc 6])<|ca 73 [lo 0,lo 1],ak 7 (.ite (cm .eq (lo 3)<|ci 1) (ci 1)<|pr .neg [ci 1]),.ret<|pr .list [pr .tup [pr .tup [lo 3,pr .mul [lo 7,lo 5],pr .mul [lo 7,lo 6],at_ 8<|lo 1],at_ 39<|lo 4]]]⟩:=gk rfl<|by kernel_rfl
theorem g85:GF 85 ⟨4,9,[],sl [.ag (.tup<|tl [.loc 4,.loc 5]) (pr .tup [ca 54 [lo 2],ca 55 [lo 2]]),ak 6<|pr .list [],.ite (cm .eq (lo 4)<|lo 3) (sl [ak 6 (pr .add [lo 6,ca 84 [lo 0,lo 2,at_ 45<|lo 1,ci 1]])])<|sl [],.ite (cm .eq (lo 5)<|lo 3) (sl [ak 6 (pr .add [lo 6,ca 84 [lo 0,lo 2,at_ 46<|lo 1,.ite (cm .eq (lo 4)<|lo 5) (ci 2)<|ci 0]])])<|sl [],.ret<|lo 6]⟩:=gk rfl<|by kernel_rfl
theorem g86:GF 86 ⟨1,3,[],sl [.ite (at_ 74<|lo 0) (sl [.bad]) (sl [])]⟩:=gk rfl<|by kernel_rfl
theorem g87:GF 87 ⟨3,7,[],sl [.ag (.tup<|tl [.loc 3,.loc 4]) (pr .tup [pr .min2 [lo 1,lo 2],pr .max2 [lo 1,lo 2]]),.ite (.or (cm .lt (lo 3) (at_ 70<|lo 0))<|cm .gt (lo 4) (at_ 71<|lo 0)) (sl [.bad])<|sl [],.ret<|pr .tup [lo 3,lo 4]]⟩:=gk rfl<|by kernel_rfl
theorem g88:GF 88 ⟨3,6,[],sl [.for [3] (.seq<|pr .listOf [at_ 78 (lo 0)]) (sl [.expr (me (lo 3) 86 [lo 0,lo 1,lo 2])])]⟩:=gk rfl<|by kernel_rfl
theorem g89:GF 89 ⟨4,7,[],sl [.expr (me (lo 0) 87 [cT]),.for [4] (.seq<|pr .listOf [at_ 78 (lo 0)])<|sl [.expr (me (lo 4) 88 [lo 0,lo 1,lo 2,lo 3])]]⟩:=gk rfl<|by kernel_rfl
theorem g90:GF 90 ⟨3,5,[],sl [.ite (cm .aY (at_ 79<|lo 0) cN) (sl [.expr (me (at_ 79<|lo 0) 90 [lo 0,lo 1,pr .len [lo 2]])]) (sl []),.expr<|me (at_ 67<|lo 0) 89 [pr .sub [lo 1,ci 1],lo 2],.ag (.attr (lo 0) 71)<|pr .add [at_ 71 (lo 0),pr .len [lo 2]],.ite (cm .gt (at_ 69<|lo 0)<|lo 1) (sl [.ag (.attr (lo 0) 69) (pr .add [at_ 69 (lo 0),pr .len [lo 2]])])<|sl []]⟩:=gk rfl<|by kernel_rfl
theorem g91:GF 91 ⟨4,6,[],sl [.ite (cm .aY (at_ 37<|lo 0) cN) (sl [.expr (me (at_ 37<|lo 0) 91 [pr .sub [lo 1,ci 1],lo 2])]) (sl []),.ite (cm .aY (at_ 32<|lo 0) cN) (sl [.expr (me (at_ 32<|lo 0) 91 [pr .sub [lo 1,ci 1],lo 2,lo 3])])<|sl []]⟩:=gk rfl<|by kernel_rfl
theorem g92:GF 92 ⟨5,7,[],sl [.expr (ca 86 [lo 0]),.expr<|ca 87 [lo 0,lo 1,lo 1],.ite (cm .eq (pr .len [lo 2])<|ci 0) (sl [.ret cN])<|sl [],.expr<|ca 88 [lo 0,lo 1,lo 1],.expr<|ca 90 [lo 0,lo 1,lo 2],.ite (lo 4) (sl [.ag (.attr (lo 0) 69) (pr .add [lo 1,pr .len [lo 2]])])<|sl [],.expr<|me (at_ 68<|lo 0) 92 [lo 1,pr .add [lo 1,pr .len [lo 2]],lo 3],.expr<|ca 91 [lo 0,lo 1,pr .len [lo 2],lo 3],.expr<|ca 89 [lo 0,lo 1,pr .add [lo 1,pr .len [lo 2]],ci 0]]⟩:=gk rfl<|by kernel_rfl
theorem g93:GF 93 ⟨3,5,[.bool false],sl [.expr (ca 92 [lo 0,at_ 69<|lo 0,lo 1,lo 2,cT])]⟩:=gk rfl<|by kernel_rfl
theorem g94:GF 94 ⟨1,4,[],sl [ak 1 (.comp [2] (.seq<|pr .sliceTo [lo 0,ci 48]) (el [])<|pr .mod [pr .abs [lo 2],ci 1000003]),.ret<|pr .list [lo 1,ci 0,pr .add [ci 149,pr .mod [pr .sum [lo 1],ci 65519]]]]⟩:=gk rfl<|by kernel_rfl
theorem g95:GF 95 ⟨2,5,[],sl [ak 2 (pr .item [lo 0,ci 1]),.ag (.item (lo 0)<|ci 1)<|pr .add [lo 2,ci 1],.ite (cm .lt (lo 2)<|pr .len [pr .item [lo 0,ci 0]]) (sl [.ret (pr .mod [pr .item [pr .item [lo 0,ci 0],lo 2],lo 1])])<|sl [],.ag (.item (lo 0)<|ci 2)<|pr .mod [pr .add [pr .mul [pr .item [lo 0,ci 2],ci 75],ci 74],ci 65537],.ret<|pr .mod [pr .item [lo 0,ci 2],lo 1]]⟩:=gk rfl<|by kernel_rfl
theorem g96:GF 96 ⟨2,5,[],sl [.ite (cm .eq (lo 1)<|ci 0) (sl [ak 2 (pr .list [pr .tup [cs 10,ci 20],pr .tup [cs 10,ci 21],pr .tup [cs 11,pr .tup [cs 10,ci 21],pr .tup [cs 10,ci 22]],cN]),.ret<|pr .item [lo 2,ca 95 [lo 0,ci 4]]]) (sl []),.ite (cm .eq (lo 1)<|ci 1) (sl [.ret (pr .item [pr .list [pr .tup [cs 10,ci 30],pr .tup [cs 10,ci 31],pr .tup [cs 10,ci 32],cN],ca 95 [lo 0,ci 4]])])<|sl [],.ret<|.ite (cm .gt (ca 95 [lo 0,ci 5])<|ci 0) (nw 9 [pr .item [pr .list [pr .list [ci 120],pr .list [ci 121,ci 122],pr .list []],ca 95 [lo 0,ci 3]]]) cN]⟩:=gk rfl<|by kernel_rfl
theorem g97:GF 97 ⟨2,11,[],sl [ak 2 (pr .list []),.for [3] (.aN<|ca 95 [lo 0,ci 5])<|sl [ak 4 (ca 95 [lo 0,pr .add [lo 1,ci 1]]),ak 5<|pr .min2 [lo 1,pr .add [lo 4,ca 95 [lo 0,ci 4]]],ak 6<|pr (.dict []) [],.for [7] (.aN<|pr .add [ci 1,ca 95 [lo 0,ci 2]])<|sl [ak 8 (ca 95 [lo 0,ci 5]),.ag (.item (lo 6)<|lo 8)<|ca 96 [lo 0,lo 8]],.expr (.lm .append (lo 2)<|el [pr .tup [lo 3,lo 4,lo 5,pr .item [pr .list [ci 0,ci 0,ci 5,pr .neg [ci 2]],ca 95 [lo 0,ci 4]],lo 6]])],.ret<|lo 2]⟩:=gk rfl<|by kernel_rfl
theorem g98:GF 98 ⟨1,3,[],sl [.ret (pr .tup [pr .item [lo 0,ci 3],ci 0,pr .item [lo 0,ci 1],pr .sub [ci 0,pr .item [lo 0,ci 2]],pr .item [lo 0,ci 0]])]⟩:=gk rfl<|by kernel_rfl
theorem g99:GF 99 ⟨4,8,[],sl [ak 4 (pr .rev [.pL (.comp [6] (.seq<|lo 0) (el [.chain (pr .item [lo 6,ci 1]) .le (lo 2) .lt (pr .item [lo 6,ci 2])])<|lo 6) 98 false]),ak 5<|pr .add [.comp [6] (.seq<|lo 4) (el []) (.lm .fN (pr .item [lo 6,ci 4])<|el [lo 3]),pr .list [.lm .fN (pr .item [lo 1,lo 2]) (el [lo 3])]],.ret (.comp [6] (.seq<|lo 5) (el [cm .aY (lo 6) cN])<|lo 6)]⟩:=gk rfl<|by kernel_rfl
theorem JF:GF 100 ⟨1,3,[],sl [.ret (.ite (cm .eq (pr .item [lo 0,ci 0])<|cs 11) (.comp [1] (.seq<|pr .sliceFrom [lo 0,ci 1]) (el [])<|pr .item [lo 1,ci 1])<|pr .list [pr .item [lo 0,ci 1]])]⟩:=gk rfl<|by kernel_rfl
theorem aaT:GF 101 ⟨3,7,[],sl [ak 3 (pr .list []),.for [4] (.seq<|ca 99 [lo 0,lo 1,lo 2,ci 0])<|sl [.expr (.lm .extend (lo 3)<|el [ca 100 [lo 4]])],.ret<|pr .jR [lo 3]]⟩:=gk rfl<|by kernel_rfl
theorem aaU:GF 102 ⟨4,7,[],sl [ak 4 (ca 99 [lo 0,lo 1,lo 2,ci 1]),.ite (cm .eq (lo 4)<|pr .list []) (sl [.ret (ci 0)])<|sl [],.ret (.ite (lo 3) (ci 1)<|pr .item [pr (.dict [30,31,32]) [ci 1,ci 2,ci 0],pr .item [pr .item [lo 4,ci 0],ci 1]])]⟩:=gk rfl<|by kernel_rfl
theorem aaV:GF 103 ⟨3,7,[],sl [ak 3 (.comp [5] (.aN<|pr .len [lo 1]) (el [])<|pr .item [pr .add [ca 99 [lo 0,lo 1,lo 5,ci 2],pr .list [cN]],ci 0]),.ite (cm .is (pr .item [lo 3,lo 2]) cN) (sl [.ret cN])<|sl [],.ite (.and (cm .gt (lo 2)<|ci 0) (cm .eq (pr .item [lo 3,pr .sub [lo 2,ci 1]])<|pr .item [lo 3,lo 2])) (sl [.ret (pr .tup [pr .list [],pr .tup [],pr .add [lo 2,ci 2]])])<|sl [],ak 4<|lo 2,.while (.and (cm .lt (lo 4)<|pr .len [lo 3]) (cm .eq (pr .item [lo 3,lo 4])<|pr .item [lo 3,lo 2]))<|sl [ak 4 (pr .add [lo 4,ci 1])],.ret<|pr .tup [at_ 39 (pr .item [lo 3,lo 2]),ca 101 [lo 0,lo 1,lo 2],pr .add [lo 4,ci 1]]]⟩:=gk rfl<|by kernel_rfl
theorem aaW:GF 104 ⟨2,8,[],sl [ak 2 (pr .list []),.for [3] (.seq<|lo 0)<|sl [.ag (.tup<|tl [.loc 4,.loc 5]) (pr .tup [.lm .fN (pr .item [lo 3,ci 4]) (el [ci 3]),.lm .fN (pr .item [lo 3,ci 4])<|el [ci 4]]),.ite (.and (cm .aY (lo 4) cN) (cm .eq (pr .item [lo 3,ci 1])<|lo 1)) (sl [.expr (.lm .append (lo 2)<|el [pr .tup [ci 1,pr .item [lo 3,ci 3],pr .item [lo 3,ci 0],at_ 39<|lo 4]])])<|sl [],.ite (.and (cm .aY (lo 5) cN) (cm .eq (pr .item [lo 3,ci 2])<|lo 1)) (sl [.expr (.lm .append (lo 2)<|el [pr .tup [.ite (cm .eq (pr .item [lo 3,ci 1])<|lo 1) (ci 2) (ci 0),pr .sub [ci 0,pr .item [lo 3,ci 3]],pr .item [lo 3,ci 0],at_ 39<|lo 5]])])<|sl []],.ret<|pr .jR [.comp [6] (.seq (.pM (lo 2)<|pr .sliceTo [lo 0,ci 3])) (el []) (pr .tup [pr .item [lo 6,ci 3],pr .tup []])]]⟩:=gk rfl<|by kernel_rfl
def aaX:FD:=⟨1,24,[],sl [.ag (.tup<|tl [.loc 1,.loc 2]) (pr .tup [ca 94 [lo 0],nw 19 [ci 100]]),.ag (.tup<|tl [.loc 3,.loc 4,.loc 5])<|pr .tup [nw 4 [lo 2],nw 17 [ci 1,cs 13],pr .add [ci 3,ca 95 [lo 1,ci 6]]],.expr<|ca 93 [lo 4,.comp [22] (.aN<|lo 5) (el [])<|pr .add [ci 97,lo 22]],.ag (.tup<|tl [.attr (lo 4) 37,.attr (lo 4) 32])<|pr .tup [nw 7 [lo 5],nw 6 [lo 3]],.ag (.tup<|tl [.loc 7,.loc 8])<|pr .tup [ca 97 [lo 1,lo 5],.comp [22] (.aN<|lo 5) (el [])<|pr (.dict []) []],.for [9,10,11,12,13] (.seq<|lo 7)<|sl [ak 14 (ca 58 [at_ 32 (lo 4),lo 9,lo 10,lo 11,cF,cF]),.expr<|ca 60 [lo 3,lo 14,at_ 25<|lo 3,lo 12],.for [15] (.seq<|pr .sorted [pr .listOf [lo 13]])<|sl [.expr (ca 60 [lo 3,lo 14,pr .add [ci 10,lo 15],pr .item [lo 13,lo 15]])]],.for [16] (.aN<|ca 95 [lo 1,ci 4])<|sl [.ag (.tup<|tl [.loc 10,.loc 15]) (pr .tup [ca 95 [lo 1,lo 5],ca 95 [lo 1,ci 3]]),.ag (.tup<|tl [.loc 11,.loc 17])<|pr .tup [pr .min2 [lo 5,pr .add [pr .add [lo 10,ci 1],ca 95 [lo 1,ci 3]]],ca 96 [lo 1,lo 15]],.expr<|ca 71 [at_ 37 (lo 4),lo 10,lo 11,pr .add [ci 10,lo 15],lo 17],.for [6] (.jS (lo 10)<|lo 11)<|sl [.ag (.item (pr .item [lo 8,lo 6])<|lo 15) (lo 17)]],ak 18 (cm .eq (ca 95 [lo 1,ci 3])<|ci 0),ak 19<|nw 14 [lo 4,nw 12 [ci 10,ci 11,ci 12,ci 13,ci 14],nw 13 [lo 18,pr (.dict [30,31]) [ci 1,ci 2]]],.ite (cm .ne (pr .list [me (lo 19) 9 [],me (lo 19) 10 [],me (lo 19) 54 [ci 0],me (lo 19) 54 [pr .add [lo 5,ci 1]]])<|pr .list [ci 1,pr .add [lo 5,ci 1],pr .neg [ci 1],pr .neg [ci 1]]) (sl [.ret cF])<|sl [],.for [20] (.aN<|pr .add [lo 5,ci 1])<|sl [.ite (cm .ne (me (lo 19) 96 [pr .add [lo 20,ci 1]])<|ca 104 [lo 7,lo 20]) (sl [.ret cF]) (sl []),.ite (cm .lt (lo 20)<|lo 5) (sl [ak 13 (pr .list [me (lo 19) 54 [pr .add [lo 20,ci 1]],me (lo 19) 56 [pr .add [lo 20,ci 1]],me (lo 19) 97 [pr .add [lo 20,ci 1]],me (lo 19) 98 [pr .add [lo 20,ci 1]]]),ak 21<|pr .list [pr .add [ci 97,lo 20],ca 101 [lo 7,lo 8,lo 20],ca 102 [lo 7,lo 8,lo 20,lo 18]],.expr (.lm .append (lo 21)<|el [ca 103 [lo 7,lo 8,lo 20]]),.ite (cm .ne (lo 13)<|lo 21) (sl [.ret cF])<|sl []])<|sl []],.ret cT]⟩
theorem aaY:GF 105 aaX:=gk rfl<|by kernel_rfl
theorem aaZ:GF 106 ⟨3,5,[],sl [.ag (.attr (lo 0) 0) (lo 1),.ag (.attr (lo 0) 1)<|lo 2,.ag (.attr (lo 0) 2) cN,.ag (.attr (lo 0) 3) cN,.ag (.attr (lo 0) 4) cN]⟩:=gk rfl<|by kernel_rfl
theorem aa0:GF 107 ⟨3,5,[],sl [.ag (.attr (lo 0) 5) (.ite (cm .gt (lo 1)<|ci 0) (nw 0 [lo 1,lo 2]) cN)]⟩:=gk rfl<|by kernel_rfl
theorem aa1:GF 108 ⟨6,8,[],sl [.ag (.attr (lo 0) 8) (lo 1),.ag (.attr (lo 0) 9)<|lo 2,.ag (.attr (lo 0) 10)<|lo 3,.ag (.attr (lo 0) 11)<|lo 4,.ag (.attr (lo 0) 12)<|lo 5,.ag (.attr (lo 0) 13)<|lo 3,.ag (.attr (lo 0) 14)<|ci 0,.ag (.attr (lo 0) 15) cF,.ag (.attr (lo 0) 2) cN,.ag (.attr (lo 0) 3) cN,.ag (.attr (lo 0) 4) cN]⟩:=gk rfl<|by kernel_rfl
theorem aa2:GF 109 ⟨1,3,[],sl [.ag (.attr (lo 0) 5) cN,.ag (.attr (lo 0) 16)<|ci 0]⟩:=gk rfl<|by kernel_rfl
theorem aa3:GF 110 ⟨2,4,[],sl [.ag (.attr (lo 0) 18) (lo 1),.ag (.attr (lo 0) 19) (at_ 19<|lo 1),.ag (.attr (lo 0) 20) (at_ 20<|lo 1),.ag (.attr (lo 0) 21)<|me (lo 1) 8 [cs 0],.ag (.attr (lo 0) 22)<|me (lo 1) 8 [cs 1],.ag (.attr (lo 0) 23)<|me (lo 1) 8 [cs 2],.ag (.attr (lo 0) 24)<|me (lo 1) 8 [cs 3],.ag (.attr (lo 0) 25)<|me (lo 1) 8 [cs 4],.ag (.attr (lo 0) 26)<|pr (.dict []) []]⟩:=gk rfl<|by kernel_rfl
theorem aa4:GF 111 ⟨2,4,[],sl [.ret (ca 47 [lo 1,at_ 19<|lo 0])]⟩:=gk rfl<|by kernel_rfl
theorem aa5:GF 112 ⟨4,6,[],sl [.ag (.attr (lo 0) 8) (lo 1),.ag (.attr (lo 0) 29)<|nw 2 [lo 1,ci 0,ci 0,lo 2,lo 3],.ag (.attr (lo 0) 30) cN,.ag (.attr (lo 0) 1)<|pr .list []]⟩:=gk rfl<|by kernel_rfl
theorem aa6:GF 113 ⟨2,4,[],sl [.ag (.attr (lo 0) 31) (nw 3 []),.ag (.attr (lo 0) 32)<|pr (.dict []) [],.ag (.attr (lo 0) 33)<|lo 1]⟩:=gk rfl<|by kernel_rfl
theorem aa7:GF 118 ⟨2,4,[],sl [.ag (.attr (lo 0) 31) (nw 1 [lo 1,pr .list []])]⟩:=gk rfl<|by kernel_rfl
theorem aa8:GF 125 ⟨2,4,[],sl [.ag (.attr (lo 0) 33) (lo 1)]⟩:=gk rfl<|by kernel_rfl
theorem aa9:GF 126 ⟨2,4,[],sl [.ret (ca 74 [at_ 33 (lo 0),lo 1])]⟩:=gk rfl<|by kernel_rfl
theorem aba:GF 127 ⟨3,5,[.none],sl [.ag (.attr (lo 0) 39) (lo 1),.ag (.attr (lo 0) 40)<|lo 2]⟩:=gk rfl<|by kernel_rfl
theorem abb:GF 131 ⟨3,5,[.int 1],sl [.ag (.attr (lo 0) 39) (lo 1),.ag (.attr (lo 0) 41)<|lo 2]⟩:=gk rfl<|by kernel_rfl
theorem abc:GF 139 ⟨6,8,[],sl [.ag (.attr (lo 0) 42) (lo 1),.ag (.attr (lo 0) 43)<|lo 2,.ag (.attr (lo 0) 44)<|lo 3,.ag (.attr (lo 0) 45)<|lo 4,.ag (.attr (lo 0) 46)<|lo 5]⟩:=gk rfl<|by kernel_rfl
theorem abd:GF 140 ⟨3,5,[],sl [.ag (.attr (lo 0) 47) (lo 1),.ag (.attr (lo 0) 48)<|lo 2]⟩:=gk rfl<|by kernel_rfl
theorem abe:GF 141 ⟨2,5,[],sl [.for [2] (.seq<|lo 1) (sl [.ite (cm .isIn (lo 2) (at_ 48<|lo 0)) (sl [.ret (pr .item [at_ 48 (lo 0),lo 2])]) (sl [])]),.ret<|ci 0]⟩:=gk rfl<|by kernel_rfl
theorem abf:GF 142 ⟨4,6,[],sl [.expr (ca 131 [lo 0,pr .list []]),.ag (.attr (lo 0) 50)<|lo 1,.ag (.attr (lo 0) 51)<|lo 2,.ag (.attr (lo 0) 52)<|lo 3]⟩:=gk rfl<|by kernel_rfl
theorem abg:GF 143 ⟨1,3,[],sl [.ret (me (at_ 50<|lo 0) 9 [])]⟩:=gk rfl<|by kernel_rfl
theorem abh:GF 144 ⟨1,3,[],sl [.ret (me (at_ 50<|lo 0) 10 [])]⟩:=gk rfl<|by kernel_rfl
theorem JG:GF 145 ⟨2,4,[],sl [.ret (me (at_ 50<|lo 0) 54 [lo 1])]⟩:=gk rfl<|by kernel_rfl
theorem abi:GF 146 ⟨1,3,[],sl [.ret (at_ 33<|at_ 32 (at_ 50<|lo 0))]⟩:=gk rfl<|by kernel_rfl
theorem abj:GF 147 ⟨2,10,[],sl [.ag (.tup<|tl [.loc 2,.loc 3]) (pr .tup [me (lo 0) 33 [],at_ 32 (at_ 50<|lo 0)]),ak 4<|ca 75 [lo 2,ca 62 [lo 3,pr .sub [lo 1,ci 1]]],ak 5 (.comp [8] (.seq<|lo 4) (el [])<|ca 59 [lo 2,lo 8,at_ 42 (at_ 51<|lo 0)]),.expr (.lm .append (lo 5)<|el [ca 53 [lo 2,ca 67 [at_ 37 (at_ 50<|lo 0),pr .sub [lo 1,ci 1]],at_ 42 (at_ 51<|lo 0)]]),ak 6<|pr .list [],.for [7] (.seq<|lo 5)<|sl [.ite (.not<|me (lo 2) 34 [lo 7]) (sl [.expr (.lm .extend (lo 6)<|el [ca 83 [at_ 18 (lo 2),lo 7]])]) (sl [])],.ret<|pr .jR [lo 6]]⟩:=gk rfl<|by kernel_rfl
theorem abk:GF 148 ⟨2,6,[],sl [ak 2 (me (lo 0) 33 []),ak 3<|ca 80 [at_ 50 (lo 0),lo 1,at_ 43 (at_ 51<|lo 0)],.ite (me (lo 2) 34 [lo 3]) (sl [.ret (ci 0)])<|sl [],.ret (.ite (at_ 47 (at_ 52<|lo 0)) (ci 1)<|me (at_ 52<|lo 0) 55 [ca 83 [at_ 18 (lo 2),lo 3]])]⟩:=gk rfl<|by kernel_rfl
theorem abl:GF 149 ⟨2,6,[],sl [ak 2 (ca 80 [at_ 50 (lo 0),lo 1,at_ 44 (at_ 51<|lo 0)]),.ite (.not<|pr (.pK 9) [lo 2]) (sl [.ret cN])<|sl [],.ite (.and (cm .gt (lo 1)<|me (lo 0) 9 [])<|ca 47 [ca 80 [at_ 50 (lo 0),pr .sub [lo 1,ci 1],at_ 44 (at_ 51<|lo 0)],lo 2]) (sl [.ret (pr .tup [pr .list [],pr .tup [],pr .add [lo 1,ci 1]])])<|sl [],ak 3<|ca 81 [at_ 50 (lo 0),lo 1,at_ 44 (at_ 51<|lo 0),me (lo 0) 10 []],.ret<|pr .tup [at_ 39 (lo 2),me (lo 0) 56 [lo 1],lo 3]]⟩:=gk rfl<|by kernel_rfl
theorem abm:GF 150 ⟨2,6,[],sl [ak 2 (pr .list []),.for [3] (.seq<|ca 82 [at_ 50 (lo 0),lo 1])<|sl [.expr (.lm .extend (lo 2)<|el [ca 85 [me (lo 0) 33 [],at_ 51<|lo 0,lo 3,pr .sub [lo 1,ci 1]]])],.ret<|pr .jR [.comp [4,5] (.seq<|pr .sorted [lo 2]) (el []) (pr .tup [lo 5,pr .tup []])]]⟩:=gk rfl<|by kernel_rfl
theorem abn:GF 151 ⟨3,5,[],sl [.ag (.attr (lo 0) 57) (lo 2),.ag (.attr (lo 0) 58)<|pr .add [pr .listOf [lo 1],pr .mul [pr .list [ci 0],lo 2]],.ag (.attr (lo 0) 59)<|pr .len [lo 1],.ag (.attr (lo 0) 60)<|pr .add [pr .len [lo 1],lo 2]]⟩:=gk rfl<|by kernel_rfl
theorem abo:GF 152 ⟨1,3,[],sl [.ret (pr .add [pr .sub [pr .len [at_ 58 (lo 0)],at_ 60<|lo 0],at_ 59<|lo 0])]⟩:=gk rfl<|by kernel_rfl
theorem abp:GF 153 ⟨2,4,[],sl [.ite (cm .lt (lo 1) (at_ 59<|lo 0)) (sl [.ret (pr .item [at_ 58 (lo 0),lo 1])]) (sl []),.ret<|pr .item [at_ 58 (lo 0),pr .add [pr .sub [lo 1,at_ 59<|lo 0],at_ 60<|lo 0]]]⟩:=gk rfl<|by kernel_rfl
theorem abq:GF 155 ⟨2,5,[],sl [.ite (cm .lt (lo 1) (at_ 59<|lo 0)) (sl [ak 2 (pr .slice [at_ 58 (lo 0),lo 1,at_ 59<|lo 0]),.ag (.slice (at_ 58<|lo 0) (pr .sub [at_ 60 (lo 0),pr .len [lo 2]]) (at_ 60<|lo 0))<|lo 2,.ag (.attr (lo 0) 60)<|pr .sub [at_ 60 (lo 0),pr .len [lo 2]]]) (sl [ak 2 (pr .slice [at_ 58 (lo 0),at_ 60<|lo 0,pr .sub [pr .add [at_ 60 (lo 0),lo 1],at_ 59<|lo 0]]),.ag (.slice (at_ 58<|lo 0) (at_ 59<|lo 0)<|pr .add [at_ 59 (lo 0),pr .len [lo 2]])<|lo 2,.ag (.attr (lo 0) 60)<|pr .add [at_ 60 (lo 0),pr .len [lo 2]]]),.ag (.attr (lo 0) 59)<|lo 1]⟩:=gk rfl<|by kernel_rfl
theorem abr:GF 156 ⟨2,5,[],sl [ak 2 (pr .sub [lo 1,pr .sub [at_ 60 (lo 0),at_ 59<|lo 0]]),.ite (cm .gt (lo 2)<|ci 0) (sl [.ag (.slice (at_ 58<|lo 0) (at_ 60<|lo 0) (at_ 60<|lo 0)) (pr .mul [pr .list [ci 0],pr .add [lo 2,at_ 57<|lo 0]]),.ag (.attr (lo 0) 60)<|pr .add [pr .add [at_ 60 (lo 0),lo 2],at_ 57<|lo 0]])<|sl []]⟩:=gk rfl<|by kernel_rfl
theorem abt:GF 157 ⟨3,5,[],sl [.expr (me (lo 0) 61 [pr .len [lo 2]]),.expr<|me (lo 0) 62 [lo 1],.ag (.slice (at_ 58<|lo 0) (lo 1)<|pr .add [lo 1,pr .len [lo 2]])<|lo 2,.ag (.attr (lo 0) 59)<|pr .add [lo 1,pr .len [lo 2]]]⟩:=gk rfl<|by kernel_rfl
theorem abu:GF 162 ⟨1,3,[],sl [.ag (.attr (lo 0) 63) (pr (.dict []) [])]⟩:=gk rfl<|by kernel_rfl
theorem abv:GF 163 ⟨1,3,[],sl [.ret (pr .sorted [at_ 63 (lo 0)])]⟩:=gk rfl<|by kernel_rfl
theorem abw:GF 167 ⟨4,8,[],sl [.for [4] (.seq<|me (lo 0) 48 []) (sl [ak 5 (pr .item [at_ 63 (lo 0),lo 4]),.ite (.or (cm .gt (at_ 64<|lo 5)<|lo 1) (.and (cm .eq (at_ 64<|lo 5)<|lo 1)<|.or (lo 3) (at_ 65<|lo 5))) (sl [.ag (.attr (lo 5) 64) (pr .sub [pr .add [at_ 64 (lo 5),lo 2],lo 1])])<|sl []])]⟩:=gk rfl<|by kernel_rfl
theorem abx:GF 170 ⟨4,6,[.int 8],sl [.ag (.attr (lo 0) 8) (lo 1),.ag (.attr (lo 0) 66)<|lo 2,.ag (.attr (lo 0) 67)<|nw 15 [pr .list [],lo 3],.ag (.attr (lo 0) 68)<|nw 16 [],.ag (.attr (lo 0) 69)<|ci 1,.ag (.attr (lo 0) 70)<|ci 1,.ag (.attr (lo 0) 71)<|ci 1,.ag (.attr (lo 0) 72) cN,.ag (.attr (lo 0) 73) cT,.ag (.attr (lo 0) 74) cF,.ag (.attr (lo 0) 75)<|ci 1,.ag (.attr (lo 0) 76)<|ci 1,.ag (.attr (lo 0) 77)<|ci 1,.ag (.attr (lo 0) 78)<|pr .list [],.ag (.attr (lo 0) 79) cN,.ag (.attr (lo 0) 37) cN,.ag (.attr (lo 0) 32) cN,.ag (.attr (lo 0) 80) cN,.ag (.attr (lo 0) 81) cN,.ag (.attr (lo 0) 82) cN]⟩:=gk rfl<|by kernel_rfl
theorem aby:GF 173 ⟨1,3,[],sl [.ret (at_ 70<|lo 0)]⟩:=gk rfl<|by kernel_rfl
theorem abz:GF 174 ⟨1,3,[],sl [.ret (at_ 71<|lo 0)]⟩:=gk rfl<|by kernel_rfl
theorem abA:GF 175 ⟨1,3,[],sl [.ret (me (at_ 67<|lo 0) 38 [])]⟩:=gk rfl<|by kernel_rfl
theorem JH:GF 176 ⟨2,4,[],sl [.ite (.or (cm .lt (lo 1) (at_ 70<|lo 0))<|cm .ge (lo 1) (at_ 71<|lo 0)) (sl [.ret (pr .neg [ci 1])]) (sl []),.ret<|me (at_ 67<|lo 0) 83 [pr .sub [lo 1,ci 1]]]⟩:=gk rfl<|by kernel_rfl
theorem abB:GF 182 ⟨2,4,[],sl [.ag (.attr (lo 0) 75) (pr .add [at_ 75 (lo 0),ci 1]),.ite (lo 1) (sl [.ag (.attr (lo 0) 76) (at_ 75<|lo 0)])<|sl []]⟩:=gk rfl<|by kernel_rfl
theorem abC:GF 184 ⟨2,4,[],sl [.ag (.attr (lo 0) 41) (lo 1),.ag (.attr (lo 0) 19) cN,.ag (.attr (lo 0) 20) cT,.ag (.attr (lo 0) 93)<|pr (.dict []) []]⟩:=gk rfl<|by kernel_rfl
theorem abD:GF 185 ⟨2,4,[],sl [.ret (pr .add [at_ 41 (lo 0),pr .nameAt [lo 1]])]⟩:=gk rfl<|by kernel_rfl
theorem abE:GF 187 ⟨2,4,[],sl [.ret (.ite (.and (pr .isTup [lo 1]) (cm .eq (pr .item [lo 1,ci 0])<|cs 10)) (pr .item [lo 1,ci 1])<|pr .neg [ci 1])]⟩:=gk rfl<|by kernel_rfl
theorem JI:GF 189 ⟨2,4,[],sl [.ret (.ite (.and (pr .isTup [lo 1]) (cm .eq (pr .item [lo 1,ci 0])<|cs 11)) (pr .listOf [pr .sliceFrom [lo 1,ci 1]]) cN)]⟩:=gk rfl<|by kernel_rfl
end Pl
namespace Pl
open Mine
variable{C:Calls}{l:Loc}{h H h':Hp}{Q:bA}{S':Fl->Loc->Hp->Prop}{k R:Loc->Hp->Prop}{e:E}{es ifs as:List E}{s:S}{ss:List S}{v w x y u:V}{vs us fs:List V}{n d a p:Nat}{z1 z2 i:Int}{O1:O}{o:Option (V×Hp)}{fd:FD}{t:List Nat}{iv:IV}{ff:Nat->Prop}{b:Bool}
theorem JJ:∃C:Nat->Calls,C=kW Mine.G:=⟨_,ag0⟩
noncomputable def acl:Nat->Calls:=Nk JJ
theorem JK:acl=kW Mine.G:=Dh JJ
def wo(o:Option V)(h:Hp)(Q:bA):Prop:=wp (o.map (·,h)) Q
def wr(o:Option Bool)(h:Hp)(Q:bA):Prop:=wp (o.map λr=>(.bool r,h)) Q
def wln(o:Option (List V))(h:Hp)(Q:bA):Prop:=wp (o.map λxs=>(.int xs.length,h)) Q
def wq(o:Option Bool)(p q:Prop):Prop:=oP o λr=>cond r p q
def wtu(v:V)(k:List V->Prop):Prop:=oP (pN v) k
def wC(o:Option O):Option (List V):=o.bind cW
def JL{β:Type}(c n:Nat)(k:Nat->Option β):Option β:=(Mine.G.cl c).bind λcd=>(idx n cd.fields).bind k
def wD(o:Option O)(n:Nat):Option V:=o.bind<|Ry Mine.G n
def oe(o:Option O)(n:Nat):Option Nat:=o.bind<|RD Mine.G n
def wE(h:Hp)(a:Nat)(o:Option O)(n:Nat)(v:V):Option Hp:=o.bind<|Rz Mine.G h a n v
def JM(v:V)(h:Hp)(n:Nat)(k:Nat->Prop):Prop:=oP (nM Mine.G h v n) k
def sO(v:V)(h:Hp)(n:Nat)(w:V)(k:Hp->Prop):Prop:=oP (zT Mine.G h v n w) k
section
variable{a b c:E}{s1 s2:List S}{z':V}{i f m:Nat}{p q:Prop}{t:Bool}{op o1 o2:Op}{z:Int}{g1:Nat->Prop}{g2:Hp->Prop}{g3:List V->Prop}
@[simp] theorem abH:aH Mine.G C (lo i) l h Q=wl l[i]? h Q:=rfl
theorem wF{c:Prop}[Decidable c](q:c):wp (if c then o else none) Q=wp o Q:=by rw [if_pos q]
theorem abI(q1:small z1)(q2:small z2):aQ Mine.G .mul [.int z1,.int z2] h Q=Q (.int<|z1*z2) h:=wF (o:=some (.int<|z1*z2,h)) ⟨q1,q2⟩
theorem abJ(q:0<z2):aQ Mine.G .mod [.int z1,.int z2] h Q=Q (.int<|z1 % z2) h:=wF (o:=some (.int<|z1 % z2,h)) q
theorem JN(q:vs.length<=lim):aQ Mine.G .list vs h Q=Q (.ref h.length) (h++ [.list vs]):=by show wp (bY h vs) Q=_;rw [bY,if_pos q];rfl
theorem run(g:Mine.G.fn f=some fd)(e:frame fd vs=some l)(w:bP Mine.G (acl d) fd.body l h (wf Q)):acl (d+1) f vs h Q:=by rw [JK] at w ⊢;exact oP.i g<|oP.i e w
end
theorem BG{o:O}(e:H[a]? = some o):a<H.length:=(fF.mp e).1
theorem abK{o:O}(lt:a<H.length):(H.set a o)[a]? = some o:=by simp [lt]
theorem abL{b:Nat}{o:O}(ne:a≠b):(H.set a o)[b]? = H[b]? := by simp [ne]
section
variable{β:Type}{kk:Nat->Option β}
end
section
variable{elt a b:E}{i:Nat}
theorem abM(Inv:Nat->Loc->Hp->Prop)(step:∀n l h (k:Loc->Hp->Prop),Inv n l h->(∀m l' h',m<n->Inv m l' h'->k l' h')->aH Mine.G C e l h λv h1=>wb v (bP Mine.G C (sl ss) l h1<|wk S' k)<|S' .next l h1)(n:Nat)(w:Inv n l h):pQ Mine.G C (.while e<|sl ss) l h S':=by
 have key:∀N n l h,n<N->Inv n l h->vh (aH Mine.G C e) (bP Mine.G C<|sl ss) S' N l h:=by
  intro N
  induction N with
  |zero=>exact λn l h q=>absurd q<|m8 _
  |succ N ih=>exact λn l h q w=>step n l h _ w λm l' h' q' w'=>ih m l' h' (bC q'<|o8 q) w'
 exact ⟨n+1,key _ n l h (eV n) w⟩
theorem abN(Inv:Nat->Loc->Hp->Prop)(hn:∀i l h,Inv i l h->iv.next h i=some vs[i]?)(step:∀i v l h (k:Loc->Hp->Prop),vs[i]? = some v->Inv i l h->(∀l' h',Inv (i+1) l' h'->k l' h')->∃l1,bindL t v l=some l1/\bP Mine.G C (sl ss) l1 h (wk S' k))(fin:∀l h,Inv vs.length l h->S' .next l h)(w:Inv 0 l h):∃n,mq t iv (bP Mine.G C<|sl ss) S' n 0 l h:=by
 have key:∀N i l h,i+N=vs.length->Inv i l h->mq t iv (bP Mine.G C<|sl ss) S' (N+1) i l h:=by
  intro N
  induction N with
  |zero=>intro i l h q w;have q:i=vs.length:=q;subst q;exact oP.i (hn _ _ _ w)<|tJ (cf vs.length)▸fin _ _ w
  |succ N ih=>intro i l h q w;have lt:i<vs.length:=q▸nq (eD N);refine oP.i (hn _ _ _ w) (de lt▸ ?_);obtain ⟨l1,e1,w1⟩:=step i _ l h (mq t iv (bP Mine.G C (sl ss)) S' (N+1) (i+1)) (de lt) w λl' h' w'=>ih (i+1) l' h' ((gX i 1 N).trans q) w';exact oP.i e1 w1
 exact ⟨vs.length+1,key _ 0 l h (jF _) w⟩
def wi:List E->Calls->Loc->Hp->(Bool->Hp->Prop)->Prop
 | [],_,_,h,Q=>Q true h
 |e::r,C,l,h,Q=>aH Mine.G C e l h λv h1=>wb v (wi r C l h1 Q)<|Q false h1
theorem qj{Q:Bool->Hp->Prop}:∀{ifs:List E} {h:Hp},jf Mine.G C (el ifs) l h Q=wi ifs C l h Q
 | [],h=>rfl
 |e::r,h=>agX (aH Mine.G C e l h)<|funext λv=>funext λh1=>agX (λp=>wb v p<|Q false h1) qj
def wc(iv:IV)(C:Calls)(t:List Nat)(ifs:List E)(elt:E)(l:Loc)(Q:bA)(h:Hp):Prop:=
 ∃n,iK iv (vd t l (λl' h2 K=>jf Mine.G C (el ifs) l' h2 K) λl' h2 K=>aH Mine.G C elt l' h2 K) (jW Q) n 0 [] h
theorem BH(Inv:Nat->List V->Hp->Prop)(hn:∀i acc h,Inv i acc h->iv.next h i=some vs[i]?)(step:∀i acc h v (k:List V->Hp->Prop),vs[i]? = some v->Inv i acc h->(∀acc' h',Inv (i+1) acc' h'->k acc' h')->∃l1,bindL t v l=some l1/\wi ifs C l1 h λb h3=>cond b (aH Mine.G C elt l1 h3 λx h4=>k (acc++ [x]) h4)<|k acc h3)(fin:∀acc h,Inv vs.length acc h->acc.length<=lim/\Q (.ref h.length) (h++ [.list acc]))(w:Inv 0 [] h):wc iv C t ifs elt l Q h:=by
 have key:∀N i acc h,i+N=vs.length->Inv i acc h->iK iv (vd t l (λl' h2 K=>jf Mine.G C (el ifs) l' h2 K) λl' h2 K=>aH Mine.G C elt l' h2 K) (jW Q) (N+1) i acc h:=by
  intro N
  induction N with
  |zero=>intro i acc h q w;have q:i=vs.length:=q;subst q;exact oP.i (hn _ _ _ w)<|tJ (cf vs.length)▸oP.i (if_pos (fin _ _ w).1) (fin _ _ w).2
  |succ N ih=>intro i acc h q w;have lt:i<vs.length:=q▸nq (eD N);refine oP.i (hn _ _ _ w) (de lt▸ ?_);obtain ⟨l1,e1,w1⟩:=step i acc h _ _ (de lt) w λacc' h' w'=>ih (i+1) acc' h' ((gX i 1 N).trans q) w';exact oP.i e1 (qj.mpr w1)
 exact ⟨vs.length+1,key _ 0 [] h (jF _) w⟩
def JO(o:Option O)(p:Prop):Prop:=oP (o.bind cW) λ_=>p
variable{R:IV->Hp->Prop}{k:Nat}
def wz(v:V)(k:Int->Prop):Prop:=oP (jT v) k
def JP(v w:V)(k:Int->Int->Prop):Prop:=oP (jT v) λi=>oP (jT w) λj=>k i j
def nxO(o:Option O)(i:Nat):Option (Option V):=(o.bind cW).map (·[i]?)
theorem JQ:(IV.aN z1 n).next h i=some (((aT n).map λ(j:Nat)=>V.int<|z1+(j:Int))[i]?):=by
 show some (ite _ _ _)=_;rw [fb]
 by_cases q:i<n
 ·rw [if_pos q,mV q];rfl
 ·rw [if_neg q,tJ (OO (c5▸q))];rfl
def d7(o:Option O)(p:P):Bool:=o.any<|z7 p
theorem dK{p:P}(e:prim Mine.G p vs h=some (w,h')):aQ Mine.G p vs h Q=Q w h':=agX (λo=>wp o Q) e
theorem bO{β:Type}{o:O}{f:O->Option β}(e:h[k]? = some o):h[k]?.bind f=f o:=by rw [e];rfl
theorem ly{β:Type}{f:Nat->List V->Option β}(e:h[k]? = some (.list vs)):fL h (.ref k) f=f k vs:=bO (f:=λo=>(cW o).bind<|f k) e
theorem iQ(l:vs.length<=lim):bY h vs=some (.ref h.length,h++ [.list vs]):=if_pos l
theorem JR(e:h[k]? = some (.list vs))(lt:vs.length<lim):aQ Mine.G .append [.ref k,v] h Q=Q .none (h.set k (.list<|vs++ [v])):=
 dK ((ly (f:=λa xs=>if xs.length<lim then some (V.none,h.set a (.list<|xs++ [v])) else none) e).trans<|if_pos lt)
theorem abP(e:h[k]? = some (.list<|vs++ [v])):aQ Mine.G .pop [.ref k] h Q=Q v (h.set k<|.list vs):=
 dK ((ly (f:=λa xs=>(xs.getLast?).map (λx=>(x,h.set a (.list xs.dropLast)))) e).trans (by simp))
theorem JS(e:h[k]? = some (.list vs))(e2:h[n]? = some (.list us))(ne:k≠n)(lt:vs.length+us.length<=lim):aQ Mine.G .extend [.ref k,.ref n] h Q=Q .none (h.set k (.list<|vs++us)):=
 dK ((ly (f:=λa xs=>fL h (.ref n) λb ys=>if a≠b/\xs.length+ys.length<=lim then some (V.none,h.set a (.list<|xs++ys)) else none) e).trans ((ly e2).trans<|if_pos ⟨ne,lt⟩))
end
section
variable{o:O}
def wG(n:Nat)(k:Nat->Prop):Prop:=oP (Mine.G.cl n) λcd=>k cd.init
end
section
variable{k:Nat}{z:V}{r:List V}
theorem BI(e:h[k]? = some (.list vs))(s:small i)(a:fP vs i=some v):aQ Mine.G .item [.ref k,.int i] h Q=Q v h:=
 dK (agX (λo=>o.map (·,h)) ((bO (f:=zV i) e).trans<|(if_pos s).trans a))
theorem abQ(e:h[k]? = some (.list vs))(s:0<=i/\i<=lim)(l:(vs.take i.toNat).length<=lim):aQ Mine.G .sliceTo [.ref k,.int i] h Q=Q (.ref h.length) (h++ [.list (vs.take i.toNat)]):=
 dK ((bO (f:=zW h i) e).trans ((if_pos s).trans<|iQ l))
theorem abR(e:h[k]? = some (.list vs))(s:0<=i/\i<=lim)(l:(vs.drop i.toNat).length<=lim):aQ Mine.G .sliceFrom [.ref k,.int i] h Q=Q (.ref h.length) (h++ [.list (vs.drop i.toNat)]):=
 dK ((bO (f:=λo=>(cW o).bind λxs=>if 0<=i/\i<=lim then bY h (xs.drop i.toNat) else none) e).trans ((if_pos s).trans<|iQ l))
theorem BJ(e:h[k]? = some (.list vs))(e2:h[n]? = some (.list us))(l:(vs++us).length<=lim):aQ Mine.G .add [.ref k,.ref n] h Q=Q (.ref h.length) (h++ [.list (vs++us)]):=
 dK ((bO (f:=λo=>(cW o).bind λxs=>fL h (.ref n) λ_ ys=>bY h<|xs++ys) e).trans ((ly (f:=λ_ ys=>bY h<|vs++ys) e2).trans<|iQ l))
def JT(o:Option Nat)(g:Nat->Bool)(h:Hp)(Q:bA):Prop:=wp (o.map λt=>(.bool<|g t,h)) Q
abbrev Kv:=Int×V
noncomputable def d8(e:Kv):V:=.tup [.int e.1,e.2]
noncomputable def fV:List Kv->Int->Option Nat
 | [],_=>none
 |e::r,n=>if e.1=n then some 0 else (fV r n).map (· + 1)
noncomputable def lk:List Kv->Int->Option V
 | [],_=>none
 |e::r,n=>if e.1=n then some e.2 else lk r n
noncomputable def dY:List Kv->Int->V->List Kv
 | [],n,v=>[(n,v)]
 |e::r,n,v=>if e.1=n then (n,v)::r else e::dY r n v
noncomputable def fI(o:Option Nat):Int:=match o with
 |some i=>i
 |none=> -1
variable{l:List Kv}{n:Int}
end
section
variable{c:Nat}
variable{q:Nat}{l:List Kv}{n:Int}{a b:V}{k:Bool}
noncomputable def kd(n:Int):Bool:=decide<|12<=n
end
end Pl
namespace Wl
open Mine Pl
variable{H:Hp}{i a:Nat}{o o':O}{p p1:Nat×O}
abbrev Ch:=List<|Nat×O
def Sat(H:Hp)(L:Ch):Prop:=(L.map (·.1)).Nodup/\∀p∈L,H[p.1]? = some p.2
noncomputable def nt:List Ch->Nat->Ch
 | [],_=>[]
 |c::_,0=>c
 |_::r,i+1=>nt r i
noncomputable def ups:List Ch->Nat->Ch->List Ch
 | [],_,_=>[]
 |_::r,0,c=>c::r
 |x::r,i+1,c=>x::ups r i c
noncomputable def cR:List Ch->Nat->List Ch
 | [],_=>[]
 |_::r,0=>r
 |x::r,i+1=>x::cR r i
def pk(cs:List Ch):List Nat->List Ch
 | []=>cs
 |i::is=>nt cs i::pk (cR cs i) is
section
variable{cs:List Ch}{r:Ch}{L L' M:Ch}{q:Nat×O}
theorem Sat.perm(s:Sat H L)(p:L.Perm L'):Sat H L':=⟨(p.map _).nodup_iff.mp s.1,λx m=>s.2 x<|p.mem_iff.mpr m⟩
theorem Sat.right(s:Sat H (L++M)):Sat H M:=⟨(kj.mp<|bK▸s.1).2.1,λx m=>s.2 x<|bp _ m⟩
theorem lz:∀(cs:List Ch) (i:Nat),cs.flatten.Perm (nt cs i++(cR cs i).flatten)
 | [],_=>.refl _
 |c::cs,0=>.refl _
 |c::cs,i+1=>((lz cs i).append_left c).trans<|eW _ _ _
theorem iR:∀(is:List Nat) (cs:List Ch),cs.flatten.Perm (pk cs is).flatten
 | [],_=>.refl _
 |i::is,cs=>(lz cs i).trans<|(iR is<|cR cs i).append_left _
theorem JU:∀(cs:List Ch) (i:Nat) (c:Ch),nt cs i=p::r->(ups cs i c).flatten.Perm (c++(cR cs i).flatten)
 | [],_,_,q=>nomatch q
 |x::cs,0,_,_=>.refl _
 |x::cs,i+1,c,q=>((JU cs i c q).append_left x).trans<|eW _ _ _
theorem BK:∀(cs:List Ch) (i:Nat),ups cs i (nt cs i)=cs
 | [],_=>rfl
 |_::_,0=>rfl
 |c::cs,i+1=>agX (gI c)<|BK cs i
theorem Sat.set(s:Sat H ((a,o)::L))(o':O):Sat (H.set a o') ((a,o')::L):=by
 refine ⟨s.1,λx m=> ?_⟩;have ha:=BG (s.2 _ (.head _));rcases aO.mp m with e|m
 ·rw [e];exact abK ha
 ·have:a≠x.1:=λe=>(dF.mp s.1).1<|e▸eT (f:=(·.1)) m;rw [abL this];exact s.2 x<|.tail _ m
theorem Sat.new(s:Sat H L):Sat (H++ [o]) ((H.length,o)::L):=by
 refine ⟨dF.mpr ⟨λm=> ?_,s.1⟩,λx m=> ?_⟩
 ·obtain ⟨x,mx,e⟩:=bB.mp m;exact absurd (BG (s.2 x mx)) (mZ.mpr (aF e.symm))
 ·rcases aO.mp m with e|m
  ·rw [e];exact List.getElem?_concat_length
  ·rw [oD (BG (s.2 x m))];exact s.2 x m
end
def Hs(F R:Ch)(cs:List Ch)(H:Hp):Prop:=Sat H<|cs.flatten++(R++F)
def Fact(F:Ch)(cs:List Ch)(a:Nat)(o:O):Prop:=∀R H,Hs F R cs H->H[a]? = some o
def Mt{α:Type}(F:Ch)(cs:List Ch)(m:(α->Hp->Prop)->Hp->Prop)(K:α->List Ch->Prop):Prop:=∀R H Q,Hs F R cs H->(∀a c' H',K a c'->Hs F R c' H'->Q a H')->m Q H
section
variable{α β:Type}{F R:Ch}{cs cs' c0 r:List Ch}{c t:Ch}{m:(α->Hp->Prop)->Hp->Prop}{K K0:α->List Ch->Prop}
theorem Hs.perm(s:Hs F R cs H)(p:cs.flatten.Perm cs'.flatten):Hs F R cs' H:=Sat.perm s<|p.append_right _
theorem gy:∀(cs:List Ch) (i:Nat),p∈nt cs i->p∈cs.flatten
 | [],_=>id
 |c::_,0=>cJ _
 |_::r,i+1=>λm=>bp _<|gy r i m
theorem Fact.ix(i:Nat)(q:nt cs i=(a,o)::t):Fact F cs a o:=λ_ _ s=>s.2 (a,o)<|cJ _ (gy cs i<|q▸ .head _)
theorem Fact.cx(m:(a,o)∈cs.flatten):Fact F cs a o:=λ_ _ s=>s.2 (a,o)<|cJ _ m
theorem Fact.fx(m:(a,o)∈F):Fact F cs a o:=λ_ _ s=>s.2 (a,o) (bp _<|bp _ m)
theorem Hs.wr(s:Hs F R cs H)(q:nt cs i=(a,o)::t):Hs F R (ups cs i ((a,o')::t)) (H.set a o'):=by have s1:Sat H ((a,o)::(t++(cR cs i).flatten++(R++F))):=Sat.perm s<|(q▸lz cs i).append_right _;exact (s1.set o').perm<|(JU cs i ((a,o')::t) q).symm.append_right _
theorem Hs.new(s:Hs F R cs H):Hs F R ([(H.length,o)]::cs) (H++ [o]):=Sat.new s
theorem Mt.ret{x:α}(k:K x cs):Mt F cs (λQ=>Q x) K:=λ_ H _ s q=>q x cs H k s
theorem Mt.bind{n:(β->Hp->Prop)->Hp->Prop}{f:β->(α->Hp->Prop)->Hp->Prop}{K1:β->List Ch->Prop}(x:Mt F cs n K1)(k:∀b c,K1 b c->Mt F c (f b) K):Mt F cs (λQ=>n λb=>f b Q) K:=
 λR H Q s q=>x R H _ s λb c H1 k1 s1=>k b c k1 R H1 Q s1 q
theorem Mt.perm(p:cs.flatten.Perm cs'.flatten)(x:Mt F cs' m K):Mt F cs m K:=λR H Q s q=>x R H Q (s.perm p) q
theorem Mt.frame(x:Mt F c0 m K0)(k:∀a c,K0 a c->K a (c++r)):Mt F (c0++r) m K:=by
 have e:∀R c H,Hs F (r.flatten++R) c H=Hs F R (c++r) H:=λR c H=>by unfold Hs;rw [EK,aJ,aJ]
 exact λR H Q s q=>x (r.flatten++R) H Q (e R c0 H▸s) λa c H' k1 s1=>q a _ H' (k a c k1)<|e R c H'▸s1
theorem Mt.drop(i:Nat)(x:Mt F (cR cs i) m K):Mt F cs m K:=λR H Q s q=>by
 have e:∀c H,Hs F (nt cs i++R) c H=Sat H (c.flatten++(nt cs i++(R++F))):=λc H=>by unfold Hs;rw [aJ]
 refine x (nt cs i++R) H Q (e _ _▸Sat.perm s (((lz cs i).append_right _).trans ?_)) λa c H' k s'=>q a c H' k ?_
 ·rw [aJ];exact eW _ _ _
 ·exact Sat.right ((e c H'▸s').perm<|eW _ _ _)
theorem Mt.ne{p2:Nat×O}(i j:Nat)(m1:p1∈nt cs i)(m2:p2∈nt (cR cs i) j)(k:p1.1≠p2.1->Mt F cs m K):Mt F cs m K:=λR H Q s q=>by have n:=(kj.mp<|bK▸(Sat.perm s<|(lz cs i).append_right _).1).1;exact k ((kj.mp<|bK▸n).2.2 _ (eT m1) _ (eT<|gy _ j m2)) R H Q s q
theorem Mt.lend(x:(c.map (·.1)).Nodup->Mt (c++F) cs m λa c'=>K a (c::c')):Mt F (c::cs) m K:=λR H Q s q=>by
 have e:∀c',((c::c').flatten++(R++F)).Perm (c'.flatten++(R++(c++F))):=λc'=>by rw [rB,aJ];refine (eW _ _ _).trans<|(eW _ _ _).append_left _
 have s0:Sat H (c++(cs.flatten++(R++F))):=by have:=s;unfold Hs at this;rw [rB,aJ] at this;exact this
 exact x (kj.mp<|bK▸s0.1).1 R H Q (Sat.perm s<|e cs) λa c' H' k s'=>q a _ H' k<|Sat.perm s' (e c').symm
end
variable{ρ:Type}{v w u:V}{n d f A j:Nat}{h:Hp}{F t:Ch}{cs r c0 c1:List Ch}{l:Loc}{e b c e1 e2 e0:E}{es:List E}{vs us:List V}{pp:P}{x y z:Int}{tt:Bool}{S':Fl->Loc->Hp->Prop}{C:Calls}{p:List S}{K':Loc->List Ch->Prop}
abbrev VK:=V->List Ch->Prop
abbrev SK:=Fl×Loc->List Ch->Prop
def Cl(d:Nat)(F:Ch)(K:VK)(cs:List Ch)(f:Nat)(vs:List V):Prop:=Mt F cs (λQ H=>acl d f vs H Q) K
def We(d:Nat)(F:Ch)(K:VK)(cs:List Ch)(l:Loc)(e:E):Prop:=Mt F cs (λQ H=>aH Mine.G (acl d) e l H Q) K
def d9(d:Nat)(F:Ch)(K:List V->List Ch->Prop)(cs:List Ch)(l:Loc)(es:List E):Prop:=Mt F cs (λQ H=>cM Mine.G (acl d) (el es) l H Q) K
def Wp(F:Ch)(K:VK)(cs:List Ch)(p:P)(vs:List V):Prop:=Mt F cs (λQ H=>aQ Mine.G p vs H Q) K
def W(d:Nat)(F:Ch)(K:SK)(cs:List Ch)(l:Loc)(p:List S):Prop:=Mt F cs (λQ H=>bP Mine.G (acl d) (sl p) l H λf l' H'=>Q (f,l') H') K
def Ev(d:Nat)(F:Ch)(cs:List Ch)(l:Loc)(e:E)(v:V):Prop:=∀K:VK,K v cs->We d F K cs l e
def cI(d:Nat)(F:Ch)(cs:List Ch)(l:Loc)(es:List E)(vs:List V):Prop:=∀K:List V->List Ch->Prop,K vs cs->d9 d F K cs l es
def jr(d:Nat)(F:Ch)(f:Nat)(vs:List V)(c0:List Ch)(fact:ρ->Prop)(ret:ρ->V)(post:ρ->List Ch):Prop:=∀K:VK,(∀r,fact r->K (ret r) (post r))->Cl d F K c0 f vs
def Co(d:Nat)(F:Ch)(f:Nat)(vs:List V)(c0:List Ch)(v:V)(c1:List Ch):Prop:=∀K:VK,K v c1->Cl d F K c0 f vs
noncomputable def st:Loc->Nat->V->Loc
 | [],_,_=>[]
 |_::r,0,v=>some v::r
 |x::r,i+1,v=>x::st r i v
noncomputable def gl:Loc->Nat->Option V
 | [],_=>none
 |x::_,0=>x
 |_::r,i+1=>gl r i
def mI:O->Nat->Option V
 | .inst c fs,n=>JL c n λi=>fs[i]?
 |_,_=>none
def sP:O->Nat->V->Option O
 | .inst c fs,n,v=>JL c n λi=>(putAt fs i v).map<|O.inst c
 |_,_,_=>none
def qk(x y:Int):Op->Option Bool
 | .lt=>some (decide<|x<y)
 | .le=>some (decide<|x<=y)
 | .gt=>some (decide<|y<x)
 | .ge=>some (decide<|y<=x)
 | .eq=>some (decide<|x=y)
 | .ne=>some (decide<|x≠y)
 |_=>none
def fK(K:VK):SK:=λa c=>match a.1 with
 | .ret v=>K v c
 | .next=>K .none c
def kb(K:SK)(k:Loc->List Ch->Prop):SK:=λa c=>match a.1 with
 | .ret v=>K (.ret v,a.2) c
 | .next=>k a.2 c
def BL(fd:FD)(vs:List V):Loc:=(frame fd vs).getD []
noncomputable def bd:Ss->List S
 | .nil=>[]
 | .cons s ss=>s::bd ss
theorem JV:∀ss:Ss,sl (bd ss)=ss
 | .nil=>rfl
 | .cons s ss=>agX (Ss.cons s)<|JV ss
theorem JW:∀(l:Loc) (i:Nat),gl l i=some v->l[i]? = some (some v)
 | [],_=>nofun
 |x::_,0=>agX some
 |_::r,i+1=>λq=>(tS).trans<|JW r i q
theorem sQ:∀(l:Loc) (i:Nat) (k:Loc->Prop),aR i l.length=true->k (st l i v)->mo l i v k
 | [],_,_=>nofun
 |_::_,0,_=>λ_ h=>h
 |x::r,i+1,k=>λq h=>sQ r i (λr'=>k (x::r')) q h
theorem BM(e:h[a]? = some o)(q:mI o n=some v):wD h[a]? n=some v:=by rw [e];rcases o<;>exact q
theorem BN(e:h[a]? = some o)(q:sP o n v=some o'):wE h a h[a]? n v=some (h.set a o'):=by
 rw [e]
 induction o with
 |inst c fs=>obtain ⟨cd,e1,q⟩:=ue.mp q;obtain ⟨i,e2,q⟩:=ue.mp q;obtain ⟨fs',e3,q⟩:=bF.mp q;show (Mine.G.cl c).bind _=_;exact ue.mpr ⟨cd,e1,ue.mpr ⟨i,e2,bF.mpr ⟨fs',e3,agX (h.set a) q⟩⟩⟩
 |_=>rcases q
section
variable{K:VK}{a:E}{op:Op}
theorem Mt.pr{α:Type}{x:α}{m:(α->Hp->Prop)->Hp->Prop}{K:α->List Ch->Prop}(k:K x cs)(g:∀R H,Hs F R cs H->∀Q:α->Hp->Prop,Q x H->m Q H):Mt F cs m K:=λR H Q s q=>g R H s Q<|q x cs H k s
theorem Ev.of(g:∀R H,Hs F R cs H->∀(C:Calls) (Q:bA),Q v H->aH Mine.G C e l H Q):Ev d F cs l e v:=λK k=>.pr k λR H s Q q=>g R H s _ Q q
theorem We.ev(x:Ev d F cs l e v)(k:K v cs):We d F K cs l e:=x K k
theorem We.pr(xs:cI d F cs l es vs)(k:Wp F K cs pp vs):We d F K cs l (pr pp es):=Mt.bind (xs (λvs c=>Wp F K c pp vs) k) λ_ _ h=>h
theorem We.ca(xs:cI d F cs l es vs)(k:Cl d F K cs f vs):We d F K cs l (ca f es):=Mt.bind (xs (λvs c=>Cl d F K c f vs) k) λ_ _ h=>h
theorem Ev.wb(x:Ev d F cs l e (.bool tt))(k:if tt=true then We d F K cs l e1 else We d F K cs l e2):Mt F cs (λQ H=>aH Mine.G (acl d) e l H λv h1=>Mine.wb v (aH Mine.G (acl d) e1 l h1 Q)<|aH Mine.G (acl d) e2 l h1 Q) K:=
 Mt.bind (f:=λv Q H=>Mine.wb v (aH Mine.G (acl d) e1 l H Q) (aH Mine.G (acl d) e2 l H Q)) (x (λv c=>v= .bool tt/\c=cs) ⟨rfl,rfl⟩) λv c h=>by rw [h.1,h.2];cases tt<;>exact k
theorem cI.nil:cI d F cs l [] []:=λK k=>.ret k
theorem cI.cons(x:Ev d F cs l e v)(y:cI d F cs l es vs):cI d F cs l (e::es) (v::vs):=λK k=>
 Mt.bind (f:=λv Q H=>cM Mine.G (acl d) (el es) l H λvs h2=>Q (v::vs) h2) (x (λv c=>d9 d F (λvs=>K (v::vs)) c l es)<|y _ k) λv c h R H Q s q=>h R H (λvs h2=>Q (v::vs) h2) s λvs=>q (v::vs)
theorem cI.one(x:Ev d F cs l e v):cI d F cs l [e] [v]:=.cons x .nil
theorem cI.two(x:Ev d F cs l a v)(y:Ev d F cs l b w):cI d F cs l [a,b] [v,w]:=.cons x<|.cons y .nil
theorem Ev.lo(q:gl l i=some v):Ev d F cs l (lo i) v:=.of λ_ _ _ _ _ k=>by rw [abH,JW l i q];exact k
theorem Ev.ie(p:Ev d F cs l a (.int x))(q:x=y):Ev d F cs l a (.int y):=q▸p
theorem Ev.k:Ev d F cs l (.cst v) v:=.of λ_ _ _ _ _ k=>k
theorem Ev.at(x:Ev d F cs l e (.ref A))(m:Fact F cs A o)(q:mI o n=some v):Ev d F cs l (at_ n e) v:=λK k=>We.pr (.one x) (.pr k λR H s Q q'=>by show wo (wD H[A]? n) H Q;rw [BM (m R H s) q];exact q')
theorem Ev.ax(x:Ev d F cs l e (.ref A))(i:Nat)(m:nt cs i=(A,o)::t)(q:mI o n=some v):Ev d F cs l (at_ n e) v:=x.at (.ix i m) q
theorem sR(q:qk x y op=some tt):bR h op (.int x) (.int y)=some tt:=by cases op<;>first|exact q|cases q
theorem Ev.cm(p:Ev d F cs l a (.int x))(r:Ev d F cs l b (.int y))(q:qk x y op=some tt):Ev d F cs l (Pl.cm op a b) (.bool tt):=λK k=>We.pr (.two p r) (.pr k λR H s Q q'=>by show wr (bR H op _ _) H Q;rw [sR q];exact q')
theorem Ev.is(p:Ev d F cs l a v)(r:Ev d F cs l b w)(q:gn v w=some tt):Ev d F cs l (Pl.cm .is a b) (.bool tt):=λK k=>We.pr (.two p r) (.pr k λR H s Q q'=>by show wr (gn v w) H Q;rw [q];exact q')
theorem Ev.aV(p:Ev d F cs l a v)(r:Ev d F cs l b w)(q:(gn v w).map not=some tt):Ev d F cs l (Pl.cm .aY a b) (.bool tt):=λK k=>We.pr (.two p r) (.pr k λR H s Q q'=>by show wr ((gn v w).map not) H Q;rw [q];exact q')
theorem Ev.add(p:Ev d F cs l a (.int x))(r:Ev d F cs l b (.int y)):Ev d F cs l (Pl.pr .add [a,b]) (.int<|x+y):=λK k=>We.pr (.two p r)<|.pr k λ_ _ _ _ q=>q
theorem Ev.sub(p:Ev d F cs l a (.int x))(r:Ev d F cs l b (.int y)):Ev d F cs l (Pl.pr .sub [a,b]) (.int<|x-y):=λK k=>We.pr (.two p r)<|.pr k λ_ _ _ _ q=>q
theorem Ev.max(p:Ev d F cs l a (.int x))(r:Ev d F cs l b (.int y)):Ev d F cs l (Pl.pr .max2 [a,b]) (.int<|Max.max x y):=λK k=>We.pr (.two p r)<|.pr k λ_ _ _ _ q=>q
theorem Ev.min(p:Ev d F cs l a (.int x))(r:Ev d F cs l b (.int y)):Ev d F cs l (Pl.pr .min2 [a,b]) (.int<|Min.min x y):=λK k=>We.pr (.two p r)<|.pr k λ_ _ _ _ q=>q
theorem Ev.abs(p:Ev d F cs l a (.int x)):Ev d F cs l (pr .abs [a]) (.int x.natAbs):=λK k=>We.pr (.one p)<|.pr k λ_ _ _ _ q=>q
theorem Ev.tp(xs:cI d F cs l es vs)(q:vs.length<=lim):Ev d F cs l (Pl.pr .tup es) (.tup vs):=λK k=>We.pr xs<|.pr k λ_ _ _ _ q'=>(wF (o:=some (V.tup vs,_)) q).mpr q'
theorem Ev.neg(p:Ev d F cs l a (.int x)):Ev d F cs l (pr .neg [a]) (.int<|-x):=λK k=>We.pr (.one p)<|.pr k λ_ _ _ _ q=>q
theorem Ev.len(x:Ev d F cs l e (.ref A))(m:Fact F cs A (.list us)):Ev d F cs l (pr .len [e]) (.int us.length):=λK k=>We.pr (.one x) (.pr k λR H s Q q'=>by show wln (wC H[A]?) H Q;rw [m R H s];exact q')
theorem Ev.dp(x:Ev d F cs l c (.bool true))(y:Ev d F cs l a v):Ev d F cs l (.ite c a b) v:=λK k=>x.wb<|y K k
theorem Ev.eg(x:Ev d F cs l c (.bool false))(y:Ev d F cs l b v):Ev d F cs l (.ite c a b) v:=λK k=>x.wb<|y K k
theorem Ev.cS(x:Ev d F cs l a (.bool true))(y:Ev d F cs l b v):Ev d F cs l (.and a b) v:=λK k=>x.wb (e2:=.cst<|.bool false)<|y K k
theorem Ev.ew(x:Ev d F cs l a (.bool false)):Ev d F cs l (.and a b) (.bool false):=λK k=>x.wb (e1:=b)<|Ev.k (v:=.bool false) K k
theorem Ev.iS(x:Ev d F cs l a (.bool false))(y:Ev d F cs l b v):Ev d F cs l (.or a b) v:=λK k=>x.wb (e1:=.cst<|.bool true)<|y K k
theorem Ev.mJ(x:Ev d F cs l a (.bool true)):Ev d F cs l (.or a b) (.bool true):=λK k=>x.wb (e2:=b)<|Ev.k (v:=.bool true) K k
theorem Ev.not(x:Ev d F cs l a (.bool tt)):Ev d F cs l (.not a) (.bool<|!tt):=λK k=>Mt.bind (f:=λv Q H=>wt v H Q) (x (λv c=>Mt F c (λQ H=>wt v H Q) K)<|.ret k) λ_ _ h=>h
theorem Ev.mK(x:Ev d F cs l a (.bool false)):Ev d F cs l (.not a) (.bool true):=x.not
theorem Ev.sS(x:Ev d F cs l a (.bool true)):Ev d F cs l (.not a) (.bool false):=x.not
theorem Ev.ca(xs:cI d F cs l es vs)(c:Co d F f vs cs v cs):Ev d F cs l (ca f es) v:=λK k=>.ca xs<|c K k
theorem Co.fr(c:Co d F f vs c0 v c1):Co d F f vs (c0++r) v (c1++r):=λK k=>Mt.frame (c (λv c=>K v<|c++r) k) λ_ _ h=>h
end
theorem JX{p2:List S}:∀(p1:List S) (l:Loc) (H:Hp),bP Mine.G C (sl<|p1++p2) l H S'=bP Mine.G C (sl p1) l H (wk S' λl h=>bP Mine.G C (sl p2) l h S')
 | [],_,_=>rfl
 |s::p1,l,H=>agX (pQ Mine.G C s l H) (funext λf=>funext λl=>funext λh=>match f with
  | .next=>JX p1 l h
  | .ret v=>rfl)
section
variable{K:SK}{s1 s2:List S}
theorem W.s{s:S}(k:Mt F cs (λQ H=>pQ Mine.G (acl d) s l H λf l' H'=>Q (f,l') H') λa c=>match a.1 with| .next=>W d F K c a.2 p| .ret v=>K (.ret v,a.2) c):W d F K cs l (s::p):=λR H Q s' q=>k R H (λa H'=>wk (λf l' H'=>Q (f,l') H') (λl' H'=>bP Mine.G (acl d) (sl p) l' H' λf l' H'=>Q (f,l') H') a.1 a.2 H') s' λa c H' k' s1=>match a,k' with
 |(.next,l'),k'=>k' R H' Q s1 q
 |(.ret v,l'),k'=>q _ c H' k' s1
theorem W.nil(k:K (.next,l) cs):W d F K cs l []:=.ret k
theorem W.ret(x:Ev d F cs l e v)(k:K (.ret v,l) cs):W d F K cs l (.ret e::p):=.s<|Mt.bind (f:=λv Q H=>Q (Fl.ret v,l) H) (x (λv c=>K (.ret v,l) c) k) λv c h=>.ret h
theorem W.rc(xs:cI d F cs l es vs)(c:Cl d F (λv c=>K (.ret v,l) c) cs f vs):W d F K cs l (.ret (ca f es)::p):=.s<|Mt.bind (f:=λv Q H=>Q (Fl.ret v,l) H) (We.ca xs c) λv c h=>.ret h
theorem W.bS(x:We d F (λv c=>W d F K c (st l i v) p) cs l e)(q:aR i l.length):W d F K cs l (ak i e::p):=.s<|Mt.bind (f:=λv Q H=>mo l i v λl'=>Q (Fl.next,l') H) x λv c h=>.pr (x:=(Fl.next,st l i v)) h λR H s Q q'=>sQ l i _ q q'
theorem W.as(x:Ev d F cs l e v)(q:aR i l.length)(k:W d F K cs (st l i v) p):W d F K cs l (ak i e::p):=.bS (x _ k) q
theorem W.put(x:Ev d F cs l e v)(y:Ev d F cs l e0 (.ref A))(i:Nat)(m:nt cs i=(A,o)::t)(q:sP o n v=some o')(k:W d F K (ups cs i ((A,o')::t)) l p):W d F K cs l (.ag (.attr e0 n) e::p):=
 .s (Mt.bind (f:=λv Q H=>aH Mine.G (acl d) e0 l H λo h1=>sO o h1 n v λh2=>Q (Fl.next,l) h2) (x (λw c=>w=v/\c=cs) ⟨ag0,ag0⟩) λw c h=>by rw [h.1,h.2];refine Mt.bind (f:=λu Q H=>sO u H n v λh2=>Q (Fl.next,l) h2) (y (λw c=>w= .ref A/\c=cs) ⟨ag0,ag0⟩) λw c h=> ?_;rw [h.1,h.2];intro R H Q s q';show oP (wE H A H[A]? n v) _;rw [BN (Fact.ix i m R H s) q];exact q' _ _ _ k<|s.wr m)
theorem W.app(k:W d F K cs l (s1++p)):Mt F cs (λQ H=>bP Mine.G (acl d) (sl s1) l H<|wk (λf l' H'=>Q (f,l') H') λl h=>bP Mine.G (acl d) (sl p) l h λf l' H'=>Q (f,l') H') K:=λR H Q s q=>(JX (S':=λf l' H'=>Q (f,l') H') s1 l H).mp<|k R H Q s q
theorem W.ite(x:Ev d F cs l e (.bool tt))(k1:tt->W d F K cs l (s1++p))(k2:tt=false->W d F K cs l (s2++p)):W d F K cs l (.ite e (sl s1) (sl s2)::p):=
 Mt.bind (f:=λv Q H=>wb v (bP Mine.G (acl d) (sl s1) l H<|wk (λf l' H'=>Q (f,l') H') λl h=>bP Mine.G (acl d) (sl p) l h λf l' H'=>Q (f,l') H') (bP Mine.G (acl d) (sl s2) l H<|wk (λf l' H'=>Q (f,l') H') λl h=>bP Mine.G (acl d) (sl p) l h λf l' H'=>Q (f,l') H')) (x (λv c=>v= .bool tt/\c=cs) ⟨ag0,ag0⟩) λv c h=>by
  rw [h.1,h.2];rcases tt
  ·exact W.app<|k2 ag0
  ·exact W.app<|k1 ag0
theorem W.it(x:Ev d F cs l e (.bool true))(k:W d F K cs l (s1++p)):W d F K cs l (.ite e (sl s1) (sl s2)::p):=.ite x (λ_=>k) nofun
theorem W.el(x:Ev d F cs l e (.bool false))(k:W d F K cs l (s2++p)):W d F K cs l (.ite e (sl s1) (sl s2)::p):=.ite x nofun λ_=>k
theorem W.xp(x:We d F (λv c=>v= .none/\W d F K c l p) cs l e):W d F K cs l (.expr e::p):=.s (Mt.bind (f:=λv Q H=>wn v<|Q (Fl.next,l) H) x λv c h=>by rw [h.1];exact .ret h.2)
theorem W.pm(q:cs.flatten.Perm c1.flatten)(k:W d F K c1 l p):W d F K cs l p:=Mt.perm q k
theorem W.re(is:List Nat)(k:W d F K (pk cs is) l p):W d F K cs l p:=Mt.perm (iR is cs) k
theorem W.dr(i:Nat)(k:W d F K (cR cs i) l p):W d F K cs l p:=Mt.drop i k
theorem W.ne{p2:Nat×O}(i j:Nat)(m1:p1∈nt cs i)(m2:p2∈nt (cR cs i) j)(k:p1.1≠p2.1->W d F K cs l p):W d F K cs l p:=Mt.ne i j m1 m2 k
theorem Cl.of{K:VK}{K0:VK}(is:List Nat)(c:Cl d F K0 c0 f vs)(m:pk cs is=c0++r)(k:∀v c,K0 v c->K v (c++r)):Cl d F K cs f vs:=Mt.perm (iR is cs)<|m▸Mt.frame c k
theorem W.xc(xs:cI d F cs l es vs)(is:List Nat)(c:Co d F f vs c0 .none c1)(m:pk cs is=c0++r)(k:W d F K (c1++r) l p):W d F K cs l (.expr (ca f es)::p):=.xp (.ca xs<|.of is (c (λv c=>v= .none/\c=c1) ⟨ag0,ag0⟩) m λv c h=>⟨h.1,h.2▸k⟩)
theorem W.ac(xs:cI d F cs l es vs)(is:List Nat)(c:Co d F f vs c0 v c1)(m:pk cs is=c0++r)(q:aR i l.length)(k:W d F K (c1++r) (st l i v) p):W d F K cs l (ak i (ca f es)::p):=.bS (.ca xs (.of is (c (λu c=>u=v/\c=c1) ⟨ag0,ag0⟩) m λv c h=>by rw [h.1,h.2];exact k)) q
theorem Co.cl{K:VK}(c:Co d F f vs c0 v c1)(is:List Nat)(m:pk cs is=c0++r)(k:K v (c1++r)):Cl d F K cs f vs:=.of is (c (λu c=>K u<|c++r) k) m λ_ _ h=>h
variable{fact:ρ->Prop}{ret:ρ->V}{post:ρ->List Ch}
theorem jr.cl{K:VK}(c:jr d F f vs c0 fact ret post)(is:List Nat)(m:pk cs is=c0++r)(k:∀x,fact x->K (ret x) (post x++r)):Cl d F K cs f vs:=.of is (c (λv c=>K v<|c++r) k) m λ_ _ h=>h
theorem W.xC(xs:cI d F cs l es vs)(is:List Nat)(c:jr d F f vs c0 fact (λ_=>.none) post)(m:pk cs is=c0++r)(k:∀x,fact x->W d F K (post x++r) l p):W d F K cs l (.expr (ca f es)::p):=.xp (.ca xs<|c.cl is m λx h=>⟨ag0,k x h⟩)
theorem aw{fd:FD}{K:VK}(g:Mine.G.fn f=some fd)(q:(frame fd vs).isSome)(k:W d F (fK K) cs (BL fd vs) (bd fd.body)):Cl (d+1) F K cs f vs:=λR H Q s q'=>by
 obtain ⟨l,e⟩:=oU.mp q;refine run g e ?_;have:BL fd vs=l:=by unfold BL;rw [e];rfl
 rw [this] at k
 have:=k R H (λa H'=>wf Q a.1 a.2 H') s λa c H' k' s'=>match a,k' with
  |(.next,l'),k'=>q' _ c H' k' s'
  |(.ret v,l'),k'=>q' _ c H' k' s'
 rw [JV] at this;exact this
def tu2(d:Nat)(F:Ch)(K:SK)(l:Loc)(p:List S)(i j:Nat):VK:=λv c=>match v with
 | .tup [u,w]=>W d F K c (st (st l i u) j w) p
 |_=>False
theorem JY:∀(l:Loc) (i:Nat),(st l i v).length=l.length
 | [],_=>rfl
 |_::_,0=>rfl
 |_::l,i+1=>agX (· + 1)<|JY l i
theorem W.tu(x:We d F (tu2 d F K l p i j) cs l e)(q:aR i l.length)(q2:aR j l.length):W d F K cs l (.ag (.tup<|tl [.loc i,.loc j]) e::p):=
 .s (Mt.bind (f:=λv Q H=>wtu v λvs=>vs.length=2/\jg Mine.G (acl d) (tl [.loc i,.loc j]) vs l H λl' h=>Q (Fl.next,l') h) x λv c h=>match v,h with
  | .tup [u,w],h=>.pr (x:=(Fl.next,st (st l i u) j w)) h λR H s Q q'=>⟨ag0,sQ l i _ q<|sQ (st l i u) j _ (JY l i▸q2) q'⟩)
structure Lp where
 ι:Type
 L:ι->Loc
 D:ι->List Ch
 ok:ι->Prop
 m:ι->Nat
def Nx(P:Lp)(K':Loc->List Ch->Prop)(i:P.ι):Prop:=∀j,P.m j<P.m i->P.ok j->K' (P.L j) (P.D j)
def Tn(d:Nat)(F:Ch)(K:SK)(e:E)(s1 p:List S)(K':Loc->List Ch->Prop)(cs:List Ch)(l:Loc):Prop:=We d F (λv c=>(v= .bool true/\W d F (kb K K') c l s1)\/(v= .bool false/\W d F K c l p)) cs l e
theorem Tn.on(x:Ev d F cs l e (.bool true))(k:W d F (kb K K') cs l s1):Tn d F K e s1 p K' cs l:=x _<|.inl ⟨ag0,k⟩
theorem Tn.off(x:Ev d F cs l e (.bool false))(k:W d F K cs l p):Tn d F K e s1 p K' cs l:=x _<|.inr ⟨ag0,k⟩
theorem W.wg(P:Lp)(x:∀(i:P.ι) (K':Loc->List Ch->Prop),P.ok i->Nx P K' i->Tn d F K e s1 p K' (P.D i) (P.L i))(i:P.ι)(h:P.ok i)(hl:P.L i=l)(hc:P.D i=cs):W d F K cs l (.while e (sl s1)::p):=hl▸hc▸λR H Q s q=>by
 refine abM (S':=wk (λf l' H'=>Q (f,l') H') λl' h'=>bP Mine.G (acl d) (sl p) l' h' λf l' H'=>Q (f,l') H') (λn l h=>∃j,P.ok j/\P.m j=n/\P.L j=l/\Hs F R (P.D j) h) ?_ _ ⟨i,h,ag0,ag0,s⟩
 rintro n l h kk ⟨j,oj,rfl,rfl,sj⟩ hk
 refine x j (λl c=>∀H',Hs F R c H'->kk l H') oj (λj' lt oj' H' s'=>hk (P.m j') _ _ lt ⟨j',oj',ag0,ag0,s'⟩) R h _ sj ?_
 rintro v c H' (⟨rfl,w⟩|⟨rfl,w⟩) s'
 ·refine w R H' (λa H'=>wk (λf l' H'=>Q (f,l') H') kk a.1 a.2 H') s' λa c H2 k' s2=>match a,k' with
   |(.next,l'),k'=>k' H2 s2
   |(.ret v,l'),k'=>q _ c H2 k' s2
 ·exact w R H' Q s' q
end
variable{σ:Type}{ta m:Nat}{rs:List V}{K:SK}{q:V}{n S':Int}{ss:List S}
structure Kd(α σ:Type) where
 ob:α->σ->σ->V->V->V->O
 sm:α->σ->σ->σ
 s0:σ
 rt:List V->V->O
inductive Tr(α:Type) where
 |nil
 |nd (a:Nat) (x:α) (l r:Tr α)
structure Fr(α:Type) where
 s:Bool
 a:Nat
 x:α
 o:Tr α
section
variable{α:Type}(K:Kd α σ)(ta:Nat)(rs:List V)
noncomputable def Tr.ptr:Tr α->V
 | .nil=>.none
 | .nd a _ _ _=>.ref a
def Kd.su:Tr α->σ
 | .nil=>K.s0
 | .nd _ x l r=>K.sm x (Kd.su l)<|Kd.su r
noncomputable def aM:List (Fr α)->V
 | []=>.none
 |f::_=>.ref f.a
def Fr.ob:Fr α->σ->V->V->O
 |⟨true,_,x,o⟩,s,v,p=>K.ob x s (K.su o) v o.ptr p
 |⟨false,_,x,o⟩,s,v,p=>K.ob x (K.su o) s o.ptr v p
def Fr.sm:Fr α->σ->σ
 |⟨true,_,x,o⟩,s=>K.sm x s<|K.su o
 |⟨false,_,x,o⟩,s=>K.sm x (K.su o) s
noncomputable def dc:Fr α->Tr α->Tr α
 |⟨true,a,x,o⟩,t=>.nd a x t o
 |⟨false,a,x,o⟩,t=>.nd a x o t
def up:List (Fr α)->Tr α->Tr α
 | [],t=>t
 |f::c,t=>up c<|dc f t
def Tc:Tr α->V->Ch
 | .nil,_=>[]
 | .nd a x l r,p=>(a,K.ob x (K.su l) (K.su r) l.ptr r.ptr p)::(Tc l (.ref a)++Tc r (.ref a))
def Cc:List (Fr α)->σ->V->Ch
 | [],_,v=>[(ta,K.rt rs v)]
 |f::c,s,v=>(f.a,f.ob K s v<|aM c)::(Tc K f.o (.ref f.a)++Cc c (f.sm K s) (.ref f.a))
def Zp(c:List (Fr α))(t:Tr α):Ch:=Tc K t (aM c)++Cc K ta rs c (K.su t) t.ptr
def Nd(a:Nat)(x:α)(sl sr:σ)(l r p:V):Ch:=[(a,K.ob x sl sr l r p)]
end
section
variable{α:Type}{K:Kd α σ}{x:α}{l r t:Tr α}{p:V}{f:Fr α}{c c':List (Fr α)}{s:σ}
theorem ql:(Tc K (.nd a x l r) p::cs).flatten.Perm (Nd K a x (K.su l) (K.su r) l.ptr r.ptr p::Tc K l (.ref a)::Tc K r (.ref a)::cs).flatten:=.of_eq (agX (gI _)<|aJ _ _ _)
theorem ib:(Zp K ta rs c t::cs).flatten.Perm (Tc K t (aM c)::Cc K ta rs c (K.su t) t.ptr::cs).flatten:=.of_eq<|aJ _ _ _
theorem mL:∀(f:Fr α) (t:Tr α),(Zp K ta rs (f::c) t).Perm (Zp K ta rs c<|dc f t)
 |⟨true,a,x,o⟩,t=>(jb).trans (.of_eq<|agX (gI _) (aJ _ _ _).symm)
 |⟨false,a,x,o⟩,t=>(jb).trans<|.cons _ ((eW _ _ _).trans<|.of_eq (aJ _ _ _).symm)
theorem mM:∀(c':List (Fr α)) (t:Tr α),(Zp K ta rs (c'++c) t).Perm (Zp K ta rs c<|up c' t)
 | [],_=>.refl _
 |f::c',t=>(mL f t).trans (mM c'<|dc f t)
def RF(F:Ch)(cs:List Ch)(K:Kd α σ)(t:Tr α)(p:V):Prop:=match t with
 | .nil=>True
 | .nd a x l r=>Fact F cs a<|K.ob x (K.su l) (K.su r) l.ptr r.ptr p
theorem RF.ix(i:Nat)(m:nt cs i=Tc K t p):RF F cs K t p:=match t,m with
 | .nil,_=>trivial
 | .nd _ _ _ _,m=>Fact.ix i m
end
theorem W.op{α:Type}{K0:Kd α σ}{x:α}{t1 t2:Tr α}(k:W d F K (Nd K0 a x (K0.su t1) (K0.su t2) t1.ptr t2.ptr q::Tc K0 t1 (.ref a)::Tc K0 t2 (.ref a)::cs) l p):W d F K (Tc K0 (.nd a x t1 t2) q::cs) l p:=.pm ql k
theorem W.cl{α:Type}{K0:Kd α σ}{x:α}{t1 t2:Tr α}(k:W d F K (Tc K0 (.nd a x t1 t2) q::cs) l p):W d F K (Nd K0 a x (K0.su t1) (K0.su t2) t1.ptr t2.ptr q::Tc K0 t1 (.ref a)::Tc K0 t2 (.ref a)::cs) l p:=.pm ql.symm k
abbrev Iv:=Int×Nat
def kI:Kd Iv Int:=⟨λx sl sr l r p=>.inst 0 [.int (x.1+sl+sr),.ref x.2,l,r,p],λx sl sr=>x.1+sl+sr,0,λrs v=>.inst 1 (v::rs)⟩
noncomputable abbrev TI:Tr Iv->V->Ch:=Tc kI
noncomputable abbrev CI(ta:Nat):List (Fr Iv)->Int->V->Ch:=Cc kI ta []
noncomputable abbrev ZI(ta:Nat):List (Fr Iv)->Tr Iv->Ch:=Zp kI ta []
noncomputable def ni(a:Nat)(n:Int)(q:Nat)(l r p:V):Ch:=[(a,.inst 0 [.int n,.ref q,l,r,p])]
section
variable{x:Iv}{t1 t2:Tr Iv}
theorem W.mO(k:W d F K (ni a (x.1+kI.su t1+kI.su t2) x.2 t1.ptr t2.ptr q::TI t1 (.ref a)::TI t2 (.ref a)::cs) l p):W d F K (TI (.nd a x t1 t2) q::cs) l p:=.pm (ql (K:=kI)) k
theorem W.wH(k:W d F K (TI (.nd a x t1 t2) q::cs) l p):W d F K (ni a (x.1+kI.su t1+kI.su t2) x.2 t1.ptr t2.ptr q::TI t1 (.ref a)::TI t2 (.ref a)::cs) l p:=.pm (ql (K:=kI)).symm k
end
section
variable{t s:Tr Iv}{p:V}{c:List (Fr Iv)}
theorem gP(h:RF F cs kI t q):Co (d+1) F 1 [t.ptr] cs (.int (kI.su t)) cs:=λK k=>match t,h with
 | .nil,_=>aw g1 rfl<|.ret (.dp (.is (.lo ag0) .k ag0) .k) k
 | .nd a x l r,h=>aw g1 rfl<|.ret (.eg (.is (.lo ag0) .k ag0)<|.at (.lo ag0) h ag0) k
theorem BO(i j:Nat)(m1:nt cs i=TI s p)(e1:gl l j=some s.ptr)(e2:Ev d F cs l e w)(k:W d F K (ups cs i<|TI s w) l ss):W d F K cs l (.ite (cm .aY (lo j) cN) (sl [.ag (.attr (lo j) 4) e]) (sl [])::ss):=by
 induction s with
 |nil=>exact .el (.aV (.lo e1) .k ag0)<|(agX (ups cs i) m1).symm.trans (BK cs i)▸k
 |nd b y l r=>exact .it (.aV (.lo e1) .k ag0)<|.put e2 (.lo e1) i m1 ag0 k
end
variable{s:Tr Iv}{p v2 v3:V}{q:Nat}{x y:Iv}{c:List (Fr Iv)}
section
variable{t s1 s2 s3:Tr Iv}{v1:V}{b:Nat}
theorem wJ:Co (d+1) F 4 [.ref ta,.ref a,s.ptr] [TI s p,CI ta c S'<|.ref a,ni a n q v1 v2<|aM c] .none [TI s (aM c),CI ta c S' s.ptr,ni a n q v1 v2<|aM c]:=λK k=>
 aw g4 rfl (.as (.ax (.lo rfl) 2 rfl rfl) rfl (BO 0 2 rfl rfl (.lo rfl) (match c,k with
  | [],k=>.it (.is (.lo ag0) .k ag0) (.put (.lo ag0) (.lo ag0) 1 ag0 rfl<|.nil k)
  |⟨true,fa,fx,fo⟩::c,k=>.el (.is (.lo ag0) .k ag0)<|.it (.is (.ax (.lo ag0) 1 ag0 rfl) (.lo ag0) (agX some<|agZ ag0)) (.put (.lo ag0) (.lo ag0) 1 ag0 rfl<|.nil k)
  |⟨false,fa,fx,.nil⟩::c,k=>.el (.is (.lo ag0) .k ag0)<|.el (.is (.ax (.lo ag0) 1 ag0 rfl) (.lo ag0) ag0) (.put (.lo ag0) (.lo ag0) 1 ag0 rfl<|.nil k)
  |⟨false,fa,fx,.nd z zx zl zr⟩::c,k=>.ne 1 1 (.tail _<|.head _) (.head _) λe=>.el (.is (.lo ag0) .k ag0)<|.el (.is (.ax (.lo ag0) 1 ag0 rfl) (.lo ag0) (agX some<|decide_eq_false e)) (.put (.lo ag0) (.lo ag0) 1 ag0 rfl<|.nil k))))
theorem wK:Co (d+1) F 5 [.ref a,s.ptr] [TI s p,ni a n q v1 v2 v3] .none [TI s (.ref a),ni a n q s.ptr v2 v3]:=λK k=>
 aw g5 ag0 (.put (.lo ag0) (.lo ag0) 1 ag0 rfl (BO 0 1 ag0 rfl (.lo ag0)<|.nil k))
theorem BP:Co (d+1) F 6 [.ref a,s.ptr] [TI s p,ni a n q v1 v2 v3] .none [TI s (.ref a),ni a n q v1 s.ptr v3]:=λK k=>
 aw g6 ag0 (.put (.lo ag0) (.lo ag0) 1 ag0 rfl (BO 0 1 ag0 rfl (.lo ag0)<|.nil k))
theorem JZ(x y b c:Int):x+y+c-y+b=x+b+c:=by omega
theorem J0(x y a b c:Int):x+(y+a+b)+c=y+a+(x+b+c):=by omega
theorem abT:Co (d+3) F 7 [.ref ta,.ref a] [TI (.nd a x (.nd b y s1 s2) s3) (aM c),CI ta c S'<|.ref a] (.ref b) [TI (.nd b y s1<|.nd a x s2 s3) (aM c),CI ta c S'<|.ref b]:=λK k=>
 aw g7 ag0 (.mO (.as (.ax (.lo ag0) 0 ag0 rfl) ag0 (.xc (.cons (.lo ag0)<|.cons (.lo ag0) (.one<|.lo ag0)) [1,2,0] (wJ (s:=.nd b y s1 s2)) ag0 (.mO (.as (.ax (.lo ag0) 4 ag0 rfl) ag0
  (.put (.ie (.add (.sub (.ax (.lo ag0) 4 ag0 rfl)<|.ax (.lo ag0) 0 ag0 rfl)<|.ca (.one<|.ax (.lo ag0) 0 ag0 rfl) (gP<|.ix 2 ag0))<|JZ _ _ _ _) (.lo ag0) 4 ag0 rfl
   (.xc (.two (.lo ag0)<|.ax (.lo ag0) 0 ag0 rfl) [2,3] wK ag0 (.re [1,0,3] (.wH (.xc (.two (.lo ag0)<|.lo ag0) [0,0] (BP (s:=.nd a x s2 s3)) ag0
    (.put (.ie (.lo ag0)<|J0 _ _ _ _ _) (.lo ag0) 1 ag0 rfl<|.re [1,1,0] (.wH<|.ret (.lo ag0) k))))))))))))
end
variable{K:VK}{a c:E}
section
variable{n:Nat}
theorem We.ls(xs:cI d F cs l es vs)(q:vs.length<=lim)(k:∀a,K (.ref a) ([(a,.list vs)]::cs)):We d F K cs l (Pl.pr .list es):=.pr xs λR H Q s q'=>(JN q).mpr<|q' _ _ _ (k H.length) s.new
theorem We.lm(x:Ev d F cs l e (.ref A))(m:Fact F cs A o)(q:d7 (some o) pp)(xs:cI d F cs l es vs)(k:Wp F K cs pp (.ref A::vs)):We d F K cs l (.lm pp e<|el es):=
 Mt.bind (f:=λv Q H=>mj H pp v=true/\(cM Mine.G (acl d) (el es) l H λvs h2=>aQ Mine.G pp (v::vs) h2 Q)) (x (λv c=>v= .ref A/\c=cs) ⟨ag0,ag0⟩) λv c h=>by rw [h.1,h.2];intro R H Q s q';refine ⟨(agX (λo=>d7 o pp)<|m R H s).trans q, ?_⟩;exact Mt.bind (f:=λvs Q H=>aQ Mine.G pp (.ref A::vs) H Q) (xs (λvs c=>Wp F K c pp (.ref A::vs)) k) (λ_ _ h=>h) R H Q s q'
theorem We.pop(x:Ev d F cs l e (.ref A))(j:Nat)(m:nt cs j=(A,.list<|us++ [v])::t)(k:K v (ups cs j ((A,.list us)::t))):We d F K cs l (.lm .pop e<|el []):=
 .lm x (.ix j m) ag0 .nil λR H Q s q'=>(abP<|Fact.ix j m R H s).mpr (q' _ _ _ k<|s.wr m)
theorem We.sT(x:Ev d F cs l e (.ref A))(y:Ev d F cs l a v)(j:Nat)(m:nt cs j=(A,.list us)::t)(q:us.length<lim)(k:K .none (ups cs j ((A,.list<|us++ [v])::t))):We d F K cs l (.lm .append e<|el [a]):=
 .lm x (.ix j m) ag0 (.one y) λR H Q s q'=>(JR (Fact.ix j m R H s) q).mpr (q' _ _ _ k<|s.wr m)
theorem We.exl(x:Ev d F cs l e (.ref A))(ys:cI d F cs l es vs)(j:Nat)(m:nt cs j=(A,.list us)::t)(q:us.length+vs.length<=lim)(k:K .none (ups cs j ((A,.list<|us++vs)::t))):We d F K cs l (.lm .extend e<|el [Pl.pr .list es]):=by
 refine Mt.bind (f:=λv Q H=>mj H .extend v=true/\(cM Mine.G (acl d) (el [Pl.pr .list es]) l H λvs h2=>aQ Mine.G .extend (v::vs) h2 Q)) (x (λv c=>v= .ref A/\c=cs) ⟨ag0,ag0⟩) λv c h=> ?_;rw [h.1,h.2];intro R H Q s q';refine ⟨(agX (λo=>d7 o .extend)<|Fact.ix j m R H s).trans ag0, ?_⟩;refine We.ls ys (ae (dy _ _) q) (K:=λv c=>∃b,v= .ref b/\c= [(b,.list vs)]::cs) (λb=>⟨b,ag0,ag0⟩) R H _ s ?_
 rintro _ _ H' ⟨b,rfl,rfl⟩ s'
 have e1:=Fact.ix (F:=F) (cs:=[(b,.list vs)]::cs) (j+1) m R H' s';have e2:=Fact.ix (F:=F) (cs:=[(b,.list vs)]::cs) 0 ag0 R H' s';have ne:A≠b:=λe=>(dF.mp s'.1).1<|e▸eT (f:=(·.1)) (cJ _ (gy (p:=(A,O.list us)) cs j<|m▸ .head _));show aQ Mine.G .extend [.ref A,.ref b] H' Q;exact (JS e1 e2 ne q).mpr<|q' _ _ _ k (Sat.right (L:=[(b,O.list vs)])<|Hs.wr (o':=.list<|us++vs) (i:=j+1) s' m)
end
variable{a:Nat}{c:List (Fr Iv)}{D X:Int}
def RT{α:Type}(F:Ch)(cs:List Ch)(K:Kd α σ)(t:Tr α)(p:V):Prop:=∀q∈Tc K t p,Fact F cs q.1 q.2
section
variable{α:Type}{K:Kd α σ}{x:α}{l r t:Tr α}{c:List (Fr α)}
theorem RT.rt(h:RT F cs K (.nd a x l r) p):Fact F cs a (K.ob x (K.su l) (K.su r) l.ptr r.ptr p):=h (a,K.ob x (K.su l) (K.su r) l.ptr r.ptr p)<|.head _
theorem RT.le(h:RT F cs K (.nd a x l r) p):RT F cs K l (.ref a):=λq m=>h q (.tail _<|cJ _ m)
theorem RT.ri(h:RT F cs K (.nd a x l r) p):RT F cs K r (.ref a):=λq m=>h q (.tail _<|bp _ m)
theorem RT.rf:∀{t:Tr α},RT F cs K t p->RF F cs K t p
 | .nil,_=>trivial
 | .nd _ _ _ _,h=>h.rt
theorem RT.ix(i:Nat)(m:nt cs i=Tc K t p):RT F cs K t p:=λq k=>.cx (gy cs i<|m▸k)
theorem RT.zx(i:Nat)(m:nt cs i=Zp K ta rs c t):RT F cs K t (aM c):=λq k=>.cx (gy cs i<|m▸cJ _ k)
end
section
variable{t s1 s2 s3:Tr Iv}{v1:V}{b:Nat}
theorem J1(x y b c:Int):x+c+y-y+b=x+c+b:=agX (· + b)<|gm _ _
theorem J2(x y a b c:Int):x+c+(y+b+a)=y+(x+c+b)+a:=by omega
theorem abV:Co (d+3) F 8 [.ref ta,.ref a] [TI (.nd a x s3<|.nd b y s2 s1) (aM c),CI ta c S'<|.ref a] (.ref b) [TI (.nd b y (.nd a x s3 s2) s1) (aM c),CI ta c S'<|.ref b]:=λK k=>
 aw g8 ag0 (.mO (.as (.ax (.lo ag0) 0 ag0 rfl) ag0 (.xc (.cons (.lo ag0)<|.cons (.lo ag0) (.one<|.lo ag0)) [2,2,0] (wJ (s:=.nd b y s2 s1)) ag0 (.mO (.as (.ax (.lo ag0) 4 ag0 rfl) ag0
  (.put (.ie (.add (.sub (.ax (.lo ag0) 4 ag0 rfl)<|.ax (.lo ag0) 0 ag0 rfl)<|.ca (.one<|.ax (.lo ag0) 0 ag0 rfl) (gP<|.ix 1 ag0))<|J1 _ _ _ _) (.lo ag0) 4 ag0 rfl
   (.xc (.two (.lo ag0)<|.ax (.lo ag0) 0 ag0 rfl) [1,3] BP ag0 (.re [1,4,0] (.wH (.xc (.two (.lo ag0)<|.lo ag0) [0,0] (wK (s:=.nd a x s3 s2)) ag0
    (.put (.ie (.lo ag0)<|J2 _ _ _ _ _) (.lo ag0) 1 ag0 rfl<|.re [1,0,0] (.wH<|.ret (.lo ag0) k))))))))))))
noncomputable def wL(D X:Int):Bool:= !decide (D<=0)&&decide (X<D)
theorem J3(q:decide (D<=0)):wL D X=false:=agX (λb=> !b&&decide (X<D)) q
theorem J4(q:decide (D<=0)=false):wL D X=decide (X<D):=agX (λb=> !b&&decide (X<D)) q
def hR:Tr Iv->Bool
 | .nd _ x (.nd _ y s1 s2) s3=>wL (y.1+kI.su s1+kI.su s2-kI.su s3)<|(kI.su s1-(x.1+(y.1+kI.su s1+kI.su s2)+kI.su s3-(y.1+kI.su s1+kI.su s2)+kI.su s2)).natAbs
 |_=>false
def hL:Tr Iv->Bool
 | .nd _ x s3 (.nd _ y s2 s1)=>wL (y.1+kI.su s2+kI.su s1-kI.su s3)<|(kI.su s1-(x.1+kI.su s3+(y.1+kI.su s2+kI.su s1)-(y.1+kI.su s2+kI.su s1)+kI.su s2)).natAbs
 |_=>false
theorem abW(h:RT F cs kI (.nd a x s s3) p)(hp:0<=kI.su s3):Co (d+2) F 9 [.ref a] cs (.bool (hR<|.nd a x s s3)) cs:=λK k=>
 aw g9 rfl (.as (.at (.lo rfl) h.rt rfl) rfl (.as (.sub (.ca (.one (.lo rfl)) (gP h.le.rf)) (.ca (.one (.at (.lo rfl) h.rt rfl)) (gP h.ri.rf))) rfl (match s,h,k with
  | .nil,h,k=>.it (.cm (.lo ag0) .k<|agX some (agZ<|yA hp))<|.ret .k k
  | .nd b y s1 s2,h,k=>.ite (.cm (.lo ag0) .k ag0) (λq=>.ret .k<|J3 q▸k) λq=>.ret (.cm (.abs (.sub (.ca (.one<|.at (.lo ag0) h.le.rt ag0)<|gP h.le.le.rf)<|.add (.sub (.at (.lo ag0) h.rt ag0)<|.at (.lo ag0) h.le.rt ag0) (.ca (.one<|.at (.lo ag0) h.le.rt ag0)<|gP h.le.ri.rf))) (.lo ag0)<|agX some (J4 q).symm) k)))
theorem abX(h:RT F cs kI (.nd a x s3 s) p)(hp:0<=kI.su s3):Co (d+2) F 10 [.ref a] cs (.bool (hL<|.nd a x s3 s)) cs:=λK k=>
 aw ZP rfl (.as (.at (.lo rfl) h.rt rfl) rfl (.as (.sub (.ca (.one (.lo rfl)) (gP h.ri.rf)) (.ca (.one (.at (.lo rfl) h.rt rfl)) (gP h.le.rf))) rfl (match s,h,k with
  | .nil,h,k=>.it (.cm (.lo ag0) .k<|agX some (agZ<|yA hp))<|.ret .k k
  | .nd b y s1 s2,h,k=>.ite (.cm (.lo ag0) .k ag0) (λq=>.ret .k<|J3 q▸k) λq=>.ret (.cm (.abs (.sub (.ca (.one<|.at (.lo ag0) h.ri.rt ag0)<|gP h.ri.ri.rf)<|.add (.sub (.at (.lo ag0) h.rt ag0)<|.at (.lo ag0) h.ri.rt ag0) (.ca (.one<|.at (.lo ag0) h.ri.rt ag0)<|gP h.ri.le.rf))) (.lo ag0)<|agX some (J4 q).symm) k)))
end
variable{l r t':Tr Iv}{B m1 m3 k:Nat}{Y A A' s:Int}
abbrev aS:=Nat×Int×Nat
noncomputable def aq:Tr Iv->List aS
 | .nil=>[]
 | .nd a x l r=>aq l++(a,x)::aq r
def bh:List (Fr Iv)->List aS
 | []=>[]
 |⟨true,_,_,_⟩::c=>bh c
 |⟨false,a,x,o⟩::c=>bh c++(aq o++ [(a,x)])
def bE:List (Fr Iv)->List aS
 | []=>[]
 |⟨true,a,x,o⟩::c=>(a,x)::(aq o++bE c)
 |⟨false,_,_,_⟩::c=>bE c
def Pos(l:List aS):Prop:=∀e∈l,1<=e.2.1
section
variable{a b:Nat}{x:Iv}{s1 s2 s3 t:Tr Iv}{c':List (Fr Iv)}
theorem eS:∀(c:List (Fr Iv)) (t:Tr Iv),aq (up c t)=bh c++(aq t++bE c)
 | [],t=>(bc _).symm
 |⟨true,a,x,o⟩::c,t=>(eS c _).trans (agX (bh c++ ·)<|aJ _ _ _)
 |⟨false,a,x,o⟩::c,t=>(eS c _).trans<|(agX (bh c++ ·)<|(aJ (aq o) ((a,x)::aq t)<|bE c).trans (aJ (aq o) [(a,x)]<|aq t++bE c).symm).trans (aJ _ _ _).symm
theorem abY:aq (.nd b y s1<|.nd a x s2 s3)=aq (.nd a x (.nd b y s1 s2) s3):=(aJ (aq s1) ((b,y)::aq s2) ((a,x)::aq s3)).symm
theorem abZ:aq (.nd b y (.nd a x s3 s2) s1)=aq (.nd a x s3<|.nd b y s2 s1):=aJ (aq s3) ((a,x)::aq s2) ((b,y)::aq s1)
theorem Pos.sub{l m:List aS}(h:Pos m)(s:∀e∈l,e∈m):Pos l:=λe he=>h e<|s e he
theorem Pos.le(h:Pos (aq<|.nd a x l r)):Pos (aq l):=h.sub λ_=>cJ _
theorem Pos.ri(h:Pos (aq<|.nd a x l r)):Pos (aq r):=h.sub λ_ m=>bp _<|.tail _ m
theorem Pos.one(h:Pos (aq<|.nd a x l r)):1<=x.1:=h (a,x) (bp _<|.head _)
theorem Pos.dn(h:Pos (aq<|up c t)):Pos (aq t):=h.sub λe m=>eS c t▸bp _ (cJ _ m)
theorem Pos.nn:∀{t:Tr Iv},Pos (aq t)->0<=kI.su t
 | .nil,_=>eU _
 | .nd _ _ _ _,h=>lS (lS (aL (by decide) h.one) h.le.nn) h.ri.nn
def ig(B:Nat):Tr Iv->Nat
 | .nil=>0
 | .nd _ x l r=>(kI.su l-kI.su r).natAbs*B ^ (x.1+kI.su l+kI.su r).toNat+(ig B l+ig B r)
theorem wM:∀(c:List (Fr Iv)) {t t':Tr Iv},kI.su t'=kI.su t->ig B t'<ig B t->ig B (up c t')<ig B (up c t)
 | [],_,_,_,h=>h
 |⟨true,a,x,o⟩::c,t,t',e,h=>wM c (agX (λs=>x.1+s+kI.su o) e) (Ps (aF<|agX (λs=>(s-kI.su o).natAbs*B ^ (x.1+s+kI.su o).toNat) e)<|Ei h _)
 |⟨false,a,x,o⟩::c,t,t',e,h=>wM c (agX (λs=>x.1+kI.su o+s) e) (Ps (aF<|agX (λs=>(kI.su o-s).natAbs*B ^ (x.1+kI.su o+s).toNat) e)<|qQ h _)
theorem ab0{i' T A:Nat}(h1:i'<i)(h2:T<A)(h3:j<B):i'*B ^ A+j*B ^ T<i*B ^ A:=
 have p:=Nat.zero_lt_of_lt h3;have h:j*B ^ T<B ^ A:=bC (Nat.mul_lt_mul_of_pos_right h3<|Nat.pow_pos p)<|Nat.mul_comm B _▸Nat.pow_le_pow_right (n:=B) p h2
 bC (qQ h _) (Nat.succ_mul i' _▸Nat.mul_le_mul_right _ h1)
theorem J5{T S1 S2 S3:Int}{m2:Nat}(h2:0<=S2)(h3:0<=S3)(hT:S2+S3<T)(hA:T<A)(e:A=A')(hB:A'.toNat<B)(q:((S1-T).natAbs:Int)<Y-S3):
 (S1-T).natAbs*B ^ A.toNat+(m1+((S2-S3).natAbs*B ^ T.toNat+(m2+m3)))<(Y-S3).natAbs*B ^ A'.toNat+(k+(m1+m2)+m3):=by
 rw [<- e] at hB ⊢;have p:0<A:=gH (lS h2 h3) (gY hT hA);have e:((S2.natAbs+S3.natAbs:Nat):Int)=S2+S3:=by rw [ua,DU h2,DU h3]
 have j:(S2-S3).natAbs<B:=bx (Int.natAbs_sub_le _ _) (dh.mp<|e▸gY (gY hT hA) ((NM<|bZ p).mp hB));have c:=ab0 (dh.mp<|gg q Int.le_natAbs) ((EL p).mpr hA) j;rw [Nat.add_left_comm m1, <- oC];exact bC (Ei c _)<|eB (oC m1 m2 m3▸jA (dy _ k) m3) _
theorem BQ(a b:Int):(a-b).natAbs=(b-a).natAbs:=Pt b a▸Int.natAbs_neg _
theorem ab1{T S1 S2 S3:Int}{m2:Nat}(h2:0<=S2)(h3:0<=S3)(hT:S2+S3<T)(hA:T<A)(e:A=A')(hB:A'.toNat<B)(q:((S1-T).natAbs:Int)<Y-S3):
 (T-S1).natAbs*B ^ A.toNat+((S3-S2).natAbs*B ^ T.toNat+(m3+m2)+m1)<(S3-Y).natAbs*B ^ A'.toNat+(m3+(k+(m2+m1))):=by
 rw [BQ T,BQ S3 S2,BQ S3 Y,iZ m3 m2,iZ (_+_) m1,iZ m3,iZ m2 m1];exact J5 h2 h3 hT hA e hB q
theorem wN(x y S1 S2 S3:Int):y+S1+(x+S2+S3)=x+(y+S1+S2)+S3:=(J0 x y S1 S2 S3).symm
theorem wO(x y S1 S2 S3:Int):y+(x+S3+S2)+S1=x+S3+(y+S2+S1):=(J2 x y S1 S2 S3).symm
theorem J6{x a b:Int}(h:1<=x):a+b<x+a+b:=c7 x a b▸EM _ h
theorem ab2{x a b:Int}(h:1<=x):a+b<x+b+a:=yS x a b▸J6 h
theorem J7{y t:Int}(h:1<=y)(h':0<=s):t<y+t+s:=yS y s t▸EM _ (EN h h')
theorem ab3(h:Pos (aq<|.nd a x (.nd b y s1 s2) s3))(hB:(kI.su<|.nd a x (.nd b y s1 s2) s3).toNat<B)(hd:hR (.nd a x (.nd b y s1 s2) s3)):ig B (.nd b y s1<|.nd a x s2 s3)<ig B (.nd a x (.nd b y s1 s2) s3):=by have q:=agY (gC.mp hd).2;rw [JZ] at q;exact J5 h.le.ri.nn h.ri.nn (J6 h.one) (EM _<|EN h.le.one h.le.le.nn) (wN _ _ _ _ _) hB q
theorem ab4(h:Pos (aq (.nd a x s3<|.nd b y s2 s1)))(hB:(kI.su (.nd a x s3<|.nd b y s2 s1)).toNat<B)(hd:hL (.nd a x s3<|.nd b y s2 s1)):ig B (.nd b y (.nd a x s3 s2) s1)<ig B (.nd a x s3<|.nd b y s2 s1):=by have q:=agY (gC.mp hd).2;rw [J1] at q;exact ab1 h.ri.le.nn h.le.nn (ab2 h.one) (J7 h.ri.one h.ri.ri.nn) (wO _ _ _ _ _) hB q
end
variable{A:Ch}{K:SK}{t t0 t1:Tr Iv}{a b z w y:Nat}{x u:Iv}{c1:List (Fr Iv)}{x4 x5:Option V}
theorem Co.pm{c1 c0' c1':List Ch}(p0:c0.flatten.Perm c0'.flatten)(c:Co d F f vs c0' v c1')(p1:c1'.flatten.Perm c1.flatten):Co d F f vs c0 v c1:=λK k R H Q s q=>
 c (λv' c=>v'=v/\c=c1') ⟨ag0,ag0⟩ R H Q (s.perm p0) λa c' H' h s'=>q a c1 H' (h.1▸k)<|(h.2▸s').perm p1
theorem Co.jN{c0 c1:Ch}(c:Co d F f vs [c0] v [c1]):Co d F f vs [A,c0] v [A,c1]:=
 .pm (c0':=[c0,A]) (c1':=[c1,A]) (eW _ _ _) (.fr c (r:=[A])) (eW _ _ _)
structure dZ(t t':Tr Iv):Prop where
 io:aq t'=aq t
 su:kI.su t'=kI.su t
noncomputable def BR{α:Type}:List (Fr α)->Nat->Nat
 | [],d=>d
 |f::c,_=>BR c f.a
def lv(st:List Nat):List V:=(st.map V.ref).reverse
section
variable{α:Type}{f:Fr α}{t:Tr α}
theorem ab5:∀(f:Fr α) (t:Tr α),(dc f t).ptr= .ref f.a
 |⟨true,_,_,_⟩,_=>rfl
 |⟨false,_,_,_⟩,_=>rfl
theorem sU:∀(c:List (Fr α)) (t:Tr α) {a:Nat},t.ptr= .ref a->(up c t).ptr= .ref (BR c a)
 | [],_,_,e=>e
 |f::c,t,_,_=>sU c (dc f t)<|ab5 f t
theorem qm{c':List (Fr α)}:∀(c:List (Fr α)) (t:Tr α),up (c++c') t=up c' (up c t)
 | [],_=>rfl
 |f::c,t=>qm c<|dc f t
end
section
variable{s s1 s2 s3:Tr Iv}{st zs:List Nat}
theorem dZ.trans(h:dZ t t')(h':dZ t' t1):dZ t t1:=⟨h'.io.trans h.io,h'.su.trans h.su⟩
theorem dZ.up(h:dZ t t'):∀c:List (Fr Iv),dZ (up c t) (up c t'):=λc=>⟨(eS c t').trans<|h.io▸(eS c t).symm,by
 have:=h.su;clear h
 induction c generalizing t t' with
 |nil=>exact this
 |cons f c ih=>exact ih (match f with
  |⟨true,_,x,o⟩=>agX (λs=>x.1+s+kI.su o) this
  |⟨false,_,x,o⟩=>agX (λs=>x.1+kI.su o+s) this)⟩
theorem BS:∀(c:List (Fr Iv)) (t:Tr Iv),Pos (aq<|up c t)->kI.su t<=kI.su (up c t)
 | [],_,_=>eU _
 |⟨true,a,x,o⟩::c,t,h=>aL (bZ<|J7 (Pos.dn (c:=c) h).one (Pos.dn (c:=c) h).ri.nn)<|BS c (.nd a x t o) h
 |⟨false,a,x,o⟩::c,t,h=>aL (EO<|lS (bZ (Pos.dn (c:=c) h).one) (Pos.dn (c:=c) h).le.nn)<|BS c (.nd a x o t) h
theorem J8{s:Int}(e:kI.su t=s): [TI t (aM c),CI ta c s t.ptr].flatten.Perm [ZI ta c t].flatten:=e▸(ib (K:=kI)).symm
theorem ab6:Co (d+3) F 7 [.ref ta,.ref a] [ZI ta c (.nd a x (.nd b u s1 s2) s3)] (.ref b) [ZI ta c (.nd b u s1<|.nd a x s2 s3)]:=.pm (ib (K:=kI)) abT (J8<|wN x.1 u.1 _ _ _)
theorem ab7:Co (d+3) F 8 [.ref ta,.ref a] [ZI ta c (.nd a x s3<|.nd b u s2 s1)] (.ref b) [ZI ta c (.nd b u (.nd a x s3 s2) s1)]:=.pm (ib (K:=kI)) abV (J8<|wO x.1 u.1 _ _ _)
theorem BU:lv (z::zs)=lv zs++ [.ref z]:=oS
theorem ab8:lv zs++ [.ref y,.ref z]=lv (z::y::zs):=(aJ (lv zs) [.ref y] [.ref z]).symm.trans<|(agX (· ++ [V.ref z]) BU.symm).trans BU.symm
theorem J9:(lv zs).length=zs.length:=(yL).trans<|aG _
def og(s:Tr Iv)(st:List Nat):Prop:=∀z zs,st=z::zs->∃c1 x l r,s=up c1 (.nd z x l r)/\zs.Sublist (c1.map Fr.a)
theorem J':∀{c1:List (Fr Iv)} {z:Nat} {zs:List Nat},(z::zs).Sublist (c1.map Fr.a)->∃pre f c2,c1=pre++f::c2/\f.a=z/\zs.Sublist (c2.map Fr.a)
 |f::c1,z,zs,h=>match List.sublist_cons_iff.mp h with
  | .inl h=>let ⟨pre,g,c2,e1,e2,e3⟩:=J' h;⟨f::pre,g,c2,agX (gI f) e1,e2,e3⟩
  | .inr ⟨_,e,h⟩=>⟨[],f,c1,ag0,(bt e).1.symm,(bt e).2▸h⟩
theorem Ka:∀(f:Fr Iv) (t:Tr Iv),∃x l r,dc f t= .nd f.a x l r
 |⟨true,_,_,_⟩,_=>⟨_,_,_,ag0⟩
 |⟨false,_,_,_⟩,_=>⟨_,_,_,ag0⟩
theorem og.pop(h:zs.Sublist (c1.map Fr.a)):og (up c1 t) zs:=λz zs' e=>
 let ⟨pre,f,c2,e1,e2,e3⟩:=J' (e▸h)
 let ⟨x,l,r,e4⟩:=Ka f (up pre t)
 ⟨c2,x,l,r,by rw [e1,qm, <- e2, <- e4];rfl,e3⟩
end
variable{s:Tr Iv}{p:List S}{l':Loc}{n:Nat}
section
variable{s1 s2 s3:Tr Iv}{st zs:List Nat}
theorem og.mk(h:zs.Sublist (c1.map Fr.a)):og (up c1<|.nd z x l r) (z::zs):=λz' zs' e=>⟨c1,x,l,r,(bt e).1▸rfl,(bt e).2▸h⟩
theorem Kb:∀(c2:List (Fr Iv)) (f:Fr Iv) (s:Int) (v:V),∃o,(BR c2 f.a,o)∈CI ta (f::(c2++c)) s v
 | [],_,_,_=>⟨_,.head _⟩
 |g::c2,f,s,v=>let ⟨o,h⟩:=Kb c2 g (f.sm kI s) (.ref f.a);⟨o,.tail _ (bp _ h)⟩
theorem W.zo(k:W d F K (TI t (aM c)::CI ta c (kI.su t) t.ptr::cs) (l:=l') p):W d F K (ZI ta c t::cs) l' p:=.pm (ib (K:=kI)) k
theorem W.zc(k:W d F K (ZI ta c t::cs) l' p):W d F K (TI t (aM c)::CI ta c (kI.su t) t.ptr::cs) l' p:=.pm (ib (K:=kI)).symm k
theorem W.zu(k:W d F K (ZI ta c (up c1 t)::cs) l' p):W d F K (ZI ta (c1++c) t::cs) l' p:=.pm ((mM c1 t).append_right _) k
theorem W.zd(k:W d F K (ZI ta (c1++c) t::cs) l' p):W d F K (ZI ta c (up c1 t)::cs) l' p:=.pm ((mM c1 t).symm.append_right _) k
def hO(ta a w:Nat)(top:V)(x4 x5:Option V):Loc:=[some (.ref ta),some<|.ref a,some<|.ref w,some top,x4,x5,none,none]
def BV:List S:=[ak 3 (.ite (cm .is (lo 4)<|lo 3) (lo 5)<|lo 3),.expr (.lm .extend (lo 2)<|el [pr .list [lo 5,lo 4]])]
def setB:List S:=[ak 4 (.lm .pop (lo 2)<|el []),.ite (ca 9 [lo 4]) (sl (ak 5 (ca 7 [lo 0,lo 4])::BV))<|sl [.ite (ca 10 [lo 4]) (sl (ak 5 (ca 8 [lo 0,lo 4])::BV)) (sl [])]]
theorem Kc(q:zs.length+2<=lim)(k:K (.next,hO ta a w v (some<|.ref z) (some<|.ref y)) [ZI ta c (up c1 t1),[(w,.list<|lv (z::y::zs))]]):
 W d F K [ZI ta (c1++c) t1,[(w,.list<|lv zs)]] (hO ta a w v (some<|.ref z) (some<|.ref y)) [.expr (.lm .extend (lo 2)<|el [pr .list [lo 5,lo 4]])]:=
 .xp (.exl (.lo ag0) (.two (.lo ag0)<|.lo ag0) 1 ag0 (J9▸q) ⟨ag0,.zu (.nil<|ab8▸k)⟩)
theorem set_tail(e0:t0.ptr= .ref z)(e1:t1.ptr= .ref y)(m:(z,o)∈TI t1 (aM<|c1++c))(q:zs.length+2<=lim)(k:K (.next,hO ta a w (up c1 t1).ptr (some<|.ref z) (some<|.ref y)) [ZI ta c (up c1 t1),[(w,.list<|lv (z::y::zs))]]):
 W d F K [ZI ta (c1++c) t1,[(w,.list<|lv zs)]] (hO ta a w (up c1 t0).ptr (some<|.ref z) (some<|.ref y)) BV:=by
 rw [sU c1 t0 e0];rw [sU c1 t1 e1] at k;exact match c1,m,k with
 | [],m,k=>.as (.dp (.is (.lo ag0) (.lo ag0) (agX some<|agZ ag0))<|.lo ag0) rfl<|Kc (c1:=[]) q k
 |f::c2,m,k=>
  let ⟨_,m2⟩:=Kb (ta:=ta) (c:=c) c2 f (kI.su t1) t1.ptr
  .zo (.ne 0 0 m m2 λne=>.zc (.as (.eg (.is (.lo ag0) (.lo ag0) (agX some<|decide_eq_false ne))<|.lo ag0) rfl<|Kc (c1:=f::c2) q k))
theorem Ke{m':Nat}(h:m'<m):2*m'+(n+2)<2*m+(n+1):=by omega
theorem ab9(hp:Pos (aq (up c1<|.nd z u l r)))(hB:(kI.su (up c1<|.nd z u l r)).toNat<B)(sb:zs.Sublist (c1.map Fr.a))(q:zs.length+2<=lim)(hk:∀s' st x4 x5,2*ig B s'+st.length<2*ig B (up c1<|.nd z u l r)+(zs.length+1)->dZ (up c1<|.nd z u l r) s'->og s' st->K' (hO ta a w s'.ptr x4 x5) [ZI ta c s',[(w,.list<|lv st)]]):
 W (d+3) F (kb K K') [ZI ta c (up c1<|.nd z u l r),[(w,.list<|lv (z::zs))]] (hO ta a w (up c1<|.nd z u l r).ptr x4 x5) setB:=by
 have h0:=hp.dn;have hB:(kI.su<|.nd z u l r).toNat<B:=bx (yv<|BS c1 _ hp) hB;refine .bS (.pop (.lo ag0) 1 (agX (λu=>[(w,O.list u)]) BU)<|.zd (.ite (.ca (.one<|.lo ag0)<|abW (RT.zx 0 ag0) h0.ri.nn) (λhR=> ?_) λ_=>.ite (.ca (.one<|.lo ag0)<|abX (RT.zx 0 ag0) h0.le.nn) (λhL=> ?_) λ_=>.zu<|.nil (hk _ _ _ _ (eV _) ⟨ag0,ag0⟩<|.pop sb))) ag0
 ·cases l with
  |nil=>cases hR
  |nd b v s1 s2=>exact .ac (.two (.lo ag0)<|.lo ag0) [0] ab6 ag0 rfl (set_tail ag0 rfl (.tail _ (bp _<|.head _)) q<|hk (up (⟨false,b,v,s1⟩::c1)<|.nd z u s2 r) (z::b::zs) _ _ (Ke (wM c1 (wN u.1 v.1 _ _ _)<|ab3 h0 hB hR)) (dZ.up ⟨abY,wN u.1 v.1 _ _ _⟩ c1) (.mk<|sb.cons_cons _))
 ·cases r with
  |nil=>cases hL
  |nd b v s2 s1=>exact .ac (.two (.lo ag0)<|.lo ag0) [0] ab7 ag0 rfl (set_tail ag0 rfl (.tail _ (cJ _<|.head _)) q<|hk (up (⟨true,b,v,s1⟩::c1)<|.nd z u l s2) (z::b::zs) _ _ (Ke (wM c1 (wO u.1 v.1 _ _ _)<|ab4 h0 hB hL)) (dZ.up ⟨abZ,wO u.1 v.1 _ _ _⟩ c1) (.mk<|sb.cons_cons _))
theorem aca:∀(f:Fr Iv) (t:Tr Iv),(aq t).length+1<=(aq<|dc f t).length
 |⟨true,a,x,o⟩,t=>(aX (as:=aq t) (bs:=(a,x)::aq o)).symm▸eB (i9<|bq _) _
 |⟨false,a,x,o⟩,t=>(aX (as:=aq o) (bs:=(a,x)::aq t)).symm▸dy _ _
theorem BW:∀(c:List (Fr Iv)) (t:Tr Iv),(aq t).length+c.length<=(aq<|up c t).length
 | [],_=>cf _
 |f::c,t=>ae (ae (aF<|gX (aq t).length c.length 1)<|jA (aca f t) _) (BW c<|dc f t)
theorem acb:(0:Int)<((lv (z::zs)).length:Nat):=dh.mpr (by rw [J9];exact eD _)
theorem acd(h:n<=m)(h':m<=1000):n+2<=lim:=ae (jA (ae h h') 2)<|au ag0
def Kf(ta a w:Nat)(c:List (Fr Iv))(t:Tr Iv):Lp:=⟨Tr Iv×List Nat×Option V×Option V,λi=>hO ta a w i.1.ptr i.2.2.1 i.2.2.2,λi=>[ZI ta c i.1,[(w,.list<|lv i.2.1)]],λi=>dZ t i.1/\og i.1 i.2.1,λi=>2*ig ((kI.su t).toNat+1) i.1+i.2.1.length⟩
theorem ace(hp:Pos (aq t))(hl:(aq t).length<=1000)(k:∀s' x4 x5,dZ t s'->W (d+3) F K [ZI ta c s',[(w,.list<|lv [])]] (hO ta a w s'.ptr x4 x5) p):∀(st:List Nat) {s':Tr Iv} {x4 x5:Option V},dZ t s'->og s' st->Nx (Kf ta a w c t) K' (s',st,x4,x5)->Tn (d+3) F K (cm .gt (pr .len [lo 2])<|ci 0) setB p K' [ZI ta c s',[(w,.list<|lv st)]] (hO ta a w s'.ptr x4 x5)
 | [],_,_,_,sm,_,_=>.off (.cm (.len (.lo ag0)<|.ix 1 ag0) .k ag0)<|k _ _ _ sm
 |z::zs,_,_,_,sm,sk,hk=>.on (.cm (.len (.lo rfl) (.ix 1 rfl)) .k (agX some (agZ acb))) (by obtain ⟨c1,u,l',r',e,sb⟩:=sk z zs rfl;rw [e] at sm hk ⊢;exact ab9 (sm.io▸hp) (sm.su▸eV _) sb (acd (ae sb.length_le (aG Fr.a▸ae (dy _ _) (BW c1 _))) (sm.io▸hl)) λs'' st x4 x5 lt sm' sk'=>hk (s'',st,x4,x5) lt ⟨sm.trans sm',sk'⟩)
theorem acf(hp:Pos (aq<|.nd a x l r))(hl:(aq<|.nd a x l r).length<=1000):jr (d+4) F 11 [.ref ta,.ref a] [ZI ta c (.nd a x l r)] (dZ<|.nd a x l r) Tr.ptr (λs'=>[ZI ta c s']):=λK k=>
 aw ZQ ag0 (.bS (.ls (.one<|.lo ag0) (au ag0) λw=>.as (.lo ag0) ag0 (.re [1]<|.wg (Kf ta a w c<|.nd a x l r) (λi K' o hk=>ace hp hl (λs' x4 x5 sm=>.dr 1 (.ret (.lo ag0)<|k s' sm)) i.2.1 o.1 o.2 hk) (.nd a x l r,[a],none,none) ⟨⟨ag0,ag0⟩,.mk (c1:=[]) .slnil⟩ ag0 rfl)) ag0)
end
variable{K:VK}{l:Loc}{m:Int}{f:Fr Iv}{Z X:Ch}
theorem We.at(x:We d F (λv c=>∀P:Prop,(∀A o u,v= .ref A->Fact F c A o->mI o n=some u->K u c->P)->P) cs l e):We d F K cs l (at_ n e):=Mt.bind (f:=λv Q H=>aQ Mine.G (.attr n) [v] H Q) x λv c h=>h _ λA o u e1 f q k=>e1▸ .pr k λR H s Q q'=>by show wo (wD H[A]? n) H Q;rw [BM (f R H s) q];exact q'
section
variable{K:SK}{s1 s2 s3 l r:Tr Iv}{x:Iv}{n:Int}
theorem W.ze(k:W d F K (ZI ta c (dc f t)::cs) l' p):W d F K (ZI ta (f::c) t::cs) l' p:=.pm ((mL f t).append_right _) k
theorem dZ.nd(h:dZ (.nd a x l r) t):∃z y l' r',t= .nd z y l' r':=match t,h with
 | .nd _ _ _ _,_=>⟨_,_,_,_,ag0⟩
 | .nil,h=>nomatch (Pu.mp h.io.symm).2
def Kg(ta:Nat)(t0:Tr Iv):Lp:=⟨List (Fr Iv)×Tr Iv,λi=>[some (.ref ta),some<|aM i.1,none,none],λi=>[ZI ta i.1 i.2],λi=>dZ t0<|up i.1 i.2,λi=>i.1.length⟩
theorem acg(hp:Pos (aq t0))(hl:(aq t0).length<=1000)(k:∀t',dZ t0 t'->W (d+4) F K [ZI ta [] t'] [some (.ref ta),some .none,none,none] p):∀(c:List (Fr Iv)) {t':Tr Iv},dZ t0 (up c t')->Nx (Kg ta t0) K' (c,t')->Tn (d+4) F K (cm .aY (lo 1) cN) [ak 1 (at_ 4<|ca 11 [lo 0,lo 1])] p K' [ZI ta c t'] [some (.ref ta),some<|aM c,none,none]
 | [],t',o,_=>.off (.aV (.lo ag0) .k ag0)<|k t' o
 |f::c2,t',o,hk=>.on (.aV (.lo rfl) .k rfl) (.ze (by obtain ⟨x,l,r,e⟩:=Ka f t';have o':dZ t0 (up c2 (dc f t')):=o;rw [e] at o' ⊢;exact .bS (.at (.ca (.two (.lo rfl) (.lo rfl)) (jr.cl (acf (o'.io▸hp).dn (ae (ae (fh _ _) (BW c2 _)) (o'.io▸hl))) [0] rfl λs' sm=>by obtain ⟨z,y,l',r',rfl⟩:=sm.nd;exact λP g=>g z _ _ rfl (RT.zx (K:=kI) 0 rfl).rt rfl (.nil (hk (c2,_) (eV _) (o'.trans (sm.up c2))))))) rfl))
theorem wP(hp:Pos (aq<|up c t))(hl:(aq<|up c t).length<=1000):jr (d+5) F 12 [.ref ta,aM c] [ZI ta c t] (dZ<|up c t) (λ_=>.none) (λt'=>[ZI ta [] t']):=λK k=>
 aw ZR ag0 (.wg (Kg ta<|up c t) (λi K' o hk=>acg hp hl (λt' o=>.nil<|k t' o) i.1 o hk) (c,t) ⟨ag0,ag0⟩ ag0 rfl)
theorem sV:∀(f:Fr Iv) (s:Int),f.sm kI (s+m)=f.sm kI s+m
 |⟨true,_,x,o⟩,s=>(agX (· + kI.su o) (c7 _ _ _).symm).trans<|yS _ _ _
 |⟨false,_,x,o⟩,s=>(c7 _ _ _).symm
theorem Kh:∀(f:Fr Iv) (u p:V),∃q l r,∀s,f.ob kI s u p= .inst 0 [.int (f.sm kI s),q,l,r,p]
 |⟨true,_,_,_⟩,_,_=>⟨_,_,_,λ_=>ag0⟩
 |⟨false,_,_,_⟩,_,_=>⟨_,_,_,λ_=>ag0⟩
theorem Ki{x:Nat×O}{T r:Ch}:((x::(T++Z))::r::cs).flatten.Perm ([x]::Z::(T++r)::cs).flatten:=
 .cons _ (show (T++Z++(r++cs.flatten)).Perm (Z++((T++r)++cs.flatten)) from aJ T Z _▸aJ T r cs.flatten▸eW _ _ _)
theorem Kj{x:Nat×O}{T r:Ch}:([x]::Z::(T++r)::cs).flatten.Perm (Z::(x::(T++r))::cs).flatten:=show (x::(Z++((T++r)++cs.flatten))).Perm (Z++(x::((T++r)++cs.flatten))) from jb.symm
theorem Kk{x:Nat×O}{T r:Ch}(h:(r++x::(T++Z)).Perm X):(x::(T++r)++Z).Perm X:=by refine .trans ?_ h;refine .trans (.cons _ ?_) jb.symm;exact (EP<|aJ T r Z).trans<|eW _ _ _
theorem ach{r:Ch}(h:(r++A).Perm X): [A,r].flatten.Perm [X].flatten:=by rw [rB,rB,rB,List.flatten_nil,bc,bc];exact Pv.trans h
def Kl(ta:Nat)(m:Int)(X:Ch):Lp:=⟨List (Fr Iv)×Int×V×Ch,λi=>[some (aM i.1),some<|.int m,none,none],λi=>[CI ta i.1 i.2.1 i.2.2.1,i.2.2.2],λi=>(i.2.2.2++CI ta i.1 (i.2.1+m) i.2.2.1).Perm X,λi=>i.1.length⟩
theorem aci(k:W d F K [X] [some .none,some<|.int m,none,none] p):∀(c:List (Fr Iv)) {s:Int} {u:V} {r:Ch},(r++CI ta c (s+m) u).Perm X->Nx (Kl ta m X) K' (c,s,u,r)->Tn d F K (cm .aY (lo 0) cN) [.ag (.attr (lo 0) 0) (pr .add [at_ 0 (lo 0),lo 1]),ak 0 (at_ 4<|lo 0)] p K' [CI ta c s u,r] [some (aM c),some<|.int m,none,none]
 | [],s,u,r,o,_=>.off (.aV (.lo ag0) .k ag0)<|.pm (ach o) k
 |f::c2,s,u,r,o,hk=>.on (.aV (.lo rfl) .k rfl) (by obtain ⟨q,l,r',e⟩:=Kh f u (aM c2);have o:(r++(f.a,f.ob kI (s+m) u (aM c2))::(TI f.o (.ref f.a)++CI ta c2 (f.sm kI (s+m)) (.ref f.a))).Perm X:=o;rw [e,sV] at o;exact .pm Ki (e s▸ .put (.add (.ax (.lo rfl) 0 rfl rfl) (.lo rfl)) (.lo rfl) 0 rfl rfl (.as (.ax (.lo rfl) 0 rfl rfl) rfl (.pm Kj (.nil (hk (c2,f.sm kI s,.ref f.a,_) (eV _) (Kk o)))))))
theorem BX:Co (d+1) F 13 [aM c,.int m] [CI ta c n v] .none [CI ta c (n+m) v]:=λK k=>
 aw ZS ag0 (.pm (c1:=[CI ta c n v,[]]) (.refl _)<|.wg (Kl ta m<|CI ta c (n+m) v) (λi K' o hk=>aci (.nil k) i.1 o hk) (c,n,v,[]) (.refl _) ag0 rfl)
end
variable{p pc:V}{b:Bool}{r:Tr Iv}{x y:Iv}{n:Int}{e:aS}
structure RZ{α σ:Type}(F:Ch)(cs:List Ch)(K:Kd α σ)(ta:Nat)(rs:List V)(c:List (Fr α))(t:Tr α):Prop where
 f:∀q∈Zp K ta rs c t,Fact F cs q.1 q.2
 n:((Zp K ta rs c t).map (·.1)).Nodup
section
variable{α:Type}{K:Kd α σ}{x y:α}{l r t:Tr α}{c c1:List (Fr α)}{f:Fr α}
theorem RZ.pm{c':List (Fr α)}{t':Tr α}(h:RZ F cs K ta rs c t)(p:(Zp K ta rs c' t').Perm (Zp K ta rs c t)):RZ F cs K ta rs c' t':=⟨λq m=>h.f q<|p.mem_iff.mp m,(p.map _).nodup_iff.mpr h.n⟩
theorem RZ.dn(h:RZ F cs K ta rs c (up c1 t)):RZ F cs K ta rs (c1++c) t:=h.pm<|mM c1 t
theorem RZ.eq{T:Tr α}(h:RZ F cs K ta rs c T)(e:t=T):RZ F cs K ta rs c t:=e▸h
theorem RZ.up(h:RZ F cs K ta rs (c1++c) t):RZ F cs K ta rs c (up c1 t):=h.pm (mM c1 t).symm
theorem RZ.u1(h:RZ F cs K ta rs (f::c) t):RZ F cs K ta rs c (dc f t):=h.pm (mL f t).symm
theorem RZ.tr(h:RZ F cs K ta rs c t):RT F cs K t (aM c):=λq m=>h.f q<|cJ _ m
theorem RZ.fr(h:RZ F cs K ta rs (f::c) t):Fact F cs f.a (f.ob K (K.su t) t.ptr<|aM c):=h.f (f.a,f.ob K (K.su t) t.ptr<|aM c) (bp _<|.head _)
theorem RZ.rt(h:RZ F cs K ta rs [] t):Fact F cs ta (K.rt rs t.ptr):=h.f (ta,K.rt rs t.ptr) (bp _<|.head _)
theorem RZ.ne{x':α}{l' r':Tr α}(h:RZ F cs K ta rs (⟨b,z,y,.nd a x l r⟩::c) (.nd q x' l' r')):q≠a:=
 (kj.mp<|Eq.mp (agX List.Nodup bK) h.n).2.2 q (.head _) a (.tail _<|bB.mpr ⟨(a,_),cJ _<|.head _,ag0⟩)
end
noncomputable def jt(pc:V):List (Fr Iv)->V
 | []=>pc
 |f::_=>.ref f.a
def Cp(pc:V):List (Fr Iv)->Int->V->Ch
 | [],_,_=>[]
 |f::c,s,v=>(f.a,f.ob kI s v<|jt pc c)::(TI f.o (.ref f.a)++Cp pc c (f.sm kI s) (.ref f.a))
theorem sW:∀(c:List (Fr Iv)) (t:Tr Iv),(TI t (jt pc c)++Cp pc c (kI.su t) t.ptr).Perm (TI (up c t) pc)
 | [],t=>.of_eq<|bc _
 |⟨true,a,x,o⟩::c,t=>(jb.trans (.of_eq<|agX (gI _) (aJ _ _ _).symm)).trans (sW c<|.nd a x t o)
 |⟨false,a,x,o⟩::c,t=>(jb.trans<|.cons _ ((eW _ _ _).trans<|.of_eq (aJ _ _ _).symm)).trans (sW c<|.nd a x o t)
theorem RT.dn(h:RT F cs kI (up c t) pc):RT F cs kI t (jt pc c):=λq m=>h q ((sW c t).mem_iff.mp<|cJ _ m)
theorem RT.eq(h:RT F cs kI t pc)(e:t'=t):RT F cs kI t' pc:=e▸h
abbrev RI(F:Ch)(cs:List Ch)(ta:Nat)(c:List (Fr Iv))(t:Tr Iv):Prop:=RZ F cs kI ta [] c t
section
variable{T l:Tr Iv}{jj:Int}
theorem acj(a b c:Int):a+b+c-b-c=a:=by rw [yS,gm,gm]
theorem oh(h:RT F cs kI (.nd a x l r) v):Co (d+2) F 2 [.ref a] cs (.int x.1) cs:=λK k=>
 aw g2 ag0 (.ret (.ie (.sub (.sub (.at (.lo ag0) h.rt ag0) (.ca (.one<|.at (.lo ag0) h.rt ag0)<|gP h.le.rf)) (.ca (.one<|.at (.lo ag0) h.rt ag0)<|gP h.ri.rf))<|acj _ _ _) k)
theorem lA(h:RI F cs ta [] T):Co (d+2) F 3 [.ref ta] cs (.int<|kI.su T) cs:=λK k=>
 aw g3 ag0 (.ret (.ca (.one<|.at (.lo ag0) h.rt ag0)<|gP h.tr.rf) k)
def bg:List (Fr Iv)->Int
 | []=>0
 |⟨true,_,_,_⟩::c=>bg c
 |⟨false,_,x,o⟩::c=>bg c+kI.su o+x.1
theorem Km:(aq l).length<(aq<|.nd a x l r).length:=(aX (as:=aq l) (bs:=(a,x)::aq r)).symm▸nq (eD _)
theorem Kn:(aq r).length<(aq<|.nd a x l r).length:=(aX (as:=aq l) (bs:=(a,x)::aq r)).symm▸bC (eV _) (dy _ _)
theorem ack{b l r x a:Int}(h:a<b+(x+l+r)):a<b+l+x+r:=by rwa [fG x l, <- c7, <- c7] at h
def Ko(cs:List Ch)(ta:Nat)(T:Tr Iv)(jj:Int):Lp:=⟨List (Fr Iv)×Tr Iv×Option V×Option V,λi=>[some (.ref ta),some<|.int jj,some i.2.1.ptr,some (.int<|bg i.1),i.2.2.1,i.2.2.2,none,none],λ_=>cs,λi=>up i.1 i.2.1=T/\bg i.1<=jj/\jj<bg i.1+kI.su i.2.1,λi=>(aq i.2.1).length⟩
theorem qn(h:RI F cs ta [] T)(h0:0<=jj)(h1:jj<kI.su T)(k:∀c a x l r,up c (.nd a x l r)=T->bg c+kI.su l<=jj->jj<bg c+kI.su l+x.1->K (.tup [.ref a,.int<|bg c+kI.su l]) cs):Cl (d+3) F K cs 14 [.ref ta,.int jj]:=by
 have step:∀(t:Tr Iv) {c:List (Fr Iv)} {x4 x5:Option V} {K':Loc->List Ch->Prop},up c t=T/\bg c<=jj/\jj<bg c+kI.su t->Nx (Ko cs ta T jj) K' (c,t,x4,x5)->W (d+2) F (kb (fK K) K') cs [some (.ref ta),some<|.int jj,some t.ptr,some (.int<|bg c),x4,x5,none,none] [ak 4 (ca 1 [at_ 2 (lo 2)]),ak 5<|ca 2 [lo 2],.ite (cm .lt (lo 1)<|pr .add [lo 3,lo 4]) (sl [ak 2 (at_ 2<|lo 2)])<|sl [.ite (cm .lt (lo 1)<|pr .add [pr .add [lo 3,lo 4],lo 5]) (sl [.ret (pr .tup [lo 2,pr .add [lo 3,lo 4]])]) (sl [ak 3 (pr .add [pr .add [lo 3,lo 4],lo 5]),ak 2 (at_ 3<|lo 2)])]]
  | .nil,c,_,_,_,o,_=>absurd o.2.2 (cH.mpr<|show bg c+0<=jj from (dS<|bg c).symm▸o.2.1)
  | .nd a x l r,c,_,_,_,o,hk=>
   have hr:RT F cs kI (.nd a x l r) (aM<|c++ []):=(RZ.dn<|o.1▸h).tr
   .as (.ca (.one<|.at (.lo ag0) hr.rt ag0)<|gP hr.le.rf) ag0 (.as (.ca (.one<|.lo ag0)<|oh hr) ag0 (.ite (.cm (.lo ag0) (.add (.lo ag0)<|.lo ag0) ag0) (λq=>.as (.at (.lo ag0) hr.rt ag0) ag0 (.nil<|hk (⟨true,a,x,r⟩::c,l,_,_) Km ⟨o.1,o.2.1,agY q⟩))
    λq=>.ite (.cm (.lo ag0) (.add (.add (.lo ag0)<|.lo ag0)<|.lo ag0) ag0) (λq2=>.ret (.tp (.two (.lo ag0) (.add (.lo ag0)<|.lo ag0))<|au ag0) (k c a x l r o.1 (cH.mp<|of_decide_eq_false q)<|agY q2))
    λq2=>.as (.add (.add (.lo ag0)<|.lo ag0)<|.lo ag0) rfl<|.as (.at (.lo ag0) hr.rt ag0) ag0 (.nil<|hk (⟨false,a,x,l⟩::c,r,_,_) Kn ⟨o.1,cH.mp<|of_decide_eq_false q2,ack o.2.2⟩)))
 exact aw ZT rfl<|.as (.at (.lo ag0) h.rt ag0) ag0 (.as .k rfl<|.wg (Ko cs ta T jj) (λi K' o hk=>.on .k<|step i.2.1 o hk) ([],T,none,none) ⟨ag0,h0,(dR<|kI.su T).symm▸h1⟩ ag0 rfl)
noncomputable def ii:List aS->V
 | []=>.none
 |e::_=>.ref e.1
def mP(l:List aS):V:=ii l.reverse
theorem wQ{l:List aS}:mP (l++ [e])= .ref e.1:=agX ii<|List.reverse_append (as:=l) (bs:=[e])
def wR(cs:List Ch)(t:Tr Iv)(X:List (Fr Iv)->Prop)(g:Tr Iv->Tr Iv->Tr Iv):Lp:=⟨List (Fr Iv)×Nat×Iv×Tr Iv×Tr Iv,λi=>[some (.ref i.2.1),none,none],λ_=>cs,λi=>up i.1 (.nd i.2.1 i.2.2.1 i.2.2.2.1 i.2.2.2.2)=t/\X i.1,λi=>(aq<|g i.2.2.2.1 i.2.2.2.2).length⟩
theorem BY(h:RT F cs kI (.nd a x l r) v)(k:∀c1 z y r',up c1 (.nd z y .nil r')= .nd a x l r->bh c1= []->K (.ref z) cs):Cl (d+1) F K cs 15 [.ref a]:=by
 have step:∀(l':Tr Iv) {c1:List (Fr Iv)} {z:Nat} {y:Iv} {r':Tr Iv} {K':Loc->List Ch->Prop},up c1 (.nd z y l' r')= .nd a x l r/\bh c1= []->Nx (wR cs (.nd a x l r) (λc=>bh c= []) λl _=>l) K' (c1,z,y,l',r')->Tn d F (fK K) (cm .aY (at_ 2<|lo 0) cN) [ak 0 (at_ 2<|lo 0)] [.ret (lo 0)] K' cs [some (.ref z),none,none]
  | .nil,_,_,_,_,_,o,_=>.off (.aV (.at (.lo ag0) (RT.dn<|h.eq o.1).rt ag0) .k ag0) (.ret (.lo ag0)<|k _ _ _ _ o.1 o.2)
  | .nd z2 y2 l2 r2,c1,z,y,r',_,o,hk=>
   have hr:=(RT.dn<|h.eq o.1).rt
   .on (.aV (.at (.lo ag0) hr ag0) .k ag0) (.as (.at (.lo ag0) hr ag0) ag0 (.nil<|hk (⟨true,z,y,r'⟩::c1,z2,y2,l2,r2) Km o))
 exact aw ZU rfl<|.wg (wR cs (.nd a x l r) (λc=>bh c= []) λl _=>l) (λi K' o hk=>step i.2.2.2.1 o hk) ([],a,x,l,r) ⟨ag0,ag0⟩ ag0 rfl
theorem acm(h:RT F cs kI (.nd a x l r) v)(k:∀c1 z y l',up c1 (.nd z y l' .nil)= .nd a x l r->bE c1= []->K (.ref z) cs):Cl (d+1) F K cs 16 [.ref a]:=by
 have step:∀(r':Tr Iv) {c1:List (Fr Iv)} {z:Nat} {y:Iv} {l':Tr Iv} {K':Loc->List Ch->Prop},up c1 (.nd z y l' r')= .nd a x l r/\bE c1= []->Nx (wR cs (.nd a x l r) (λc=>bE c= []) λ_ r=>r) K' (c1,z,y,l',r')->Tn d F (fK K) (cm .aY (at_ 3<|lo 0) cN) [ak 0 (at_ 3<|lo 0)] [.ret (lo 0)] K' cs [some (.ref z),none,none]
  | .nil,_,_,_,_,_,o,_=>.off (.aV (.at (.lo ag0) (RT.dn<|h.eq o.1).rt ag0) .k ag0) (.ret (.lo ag0)<|k _ _ _ _ o.1 o.2)
  | .nd z2 y2 l2 r2,c1,z,y,l',_,o,hk=>
   have hr:=(RT.dn<|h.eq o.1).rt
   .on (.aV (.at (.lo ag0) hr ag0) .k ag0) (.as (.at (.lo ag0) hr ag0) ag0 (.nil<|hk (⟨false,z,y,l'⟩::c1,z2,y2,l2,r2) Kn o))
 exact aw ZV rfl<|.wg (wR cs (.nd a x l r) (λc=>bE c= []) λ_ r=>r) (λi K' o hk=>step i.2.2.2.2 o hk) ([],a,x,l,r) ⟨ag0,ag0⟩ ag0 rfl
def wS(F:Ch)(cs:List Ch)(ta:Nat)(g:List (Fr Iv)->V)(v:V):Lp:=⟨List (Fr Iv)×Nat×Iv×Tr Iv×Tr Iv,λi=>[some (.ref i.2.1),none,none],λ_=>cs,λi=>RI F cs ta i.1 (.nd i.2.1 i.2.2.1 i.2.2.2.1 i.2.2.2.2)/\g i.1=v,λi=>i.1.length⟩
theorem acn(k:K v cs):∀(c:List (Fr Iv)) {z:Nat} {y:Iv} {l' r':Tr Iv},RI F cs ta c (.nd z y l' r')->ii (bE c)=v->Nx (wS F cs ta (λc=>ii<|bE c) v) K' (c,z,y,l',r')->
 Tn d F (fK K) (.and (cm .aY (at_ 4<|lo 0) cN) (cm .is (at_ 3 (at_ 4<|lo 0))<|lo 0)) [ak 0 (at_ 4<|lo 0)] [.ret (at_ 4<|lo 0)] K' cs [some (.ref z),none,none]
 | [],_,_,_,_,h,e,_=>.off (.ew<|.aV (.at (.lo ag0) h.tr.rt ag0) .k ag0) (.ret (.at (.lo ag0) h.tr.rt ag0)<|(agX (K · cs) e).mpr k)
 |⟨false,fa,fx,fo⟩::c2,_,_,_,_,h,e,hk=>.on (.cS (.aV (.at (.lo ag0) h.tr.rt ag0) .k ag0)<|.is (.at (.at (.lo ag0) h.tr.rt ag0) h.fr ag0) (.lo ag0) (agX some<|agZ ag0))<|.as (.at (.lo ag0) h.tr.rt ag0) ag0 (.nil<|hk (c2,fa,fx,fo,_) (eV _) ⟨h.u1,e⟩)
 |⟨true,fa,fx,.nil⟩::c2,_,_,_,_,h,e,_=>.off (.cS (.aV (.at (.lo ag0) h.tr.rt ag0) .k ag0)<|.is (.at (.at (.lo ag0) h.tr.rt ag0) h.fr ag0) (.lo ag0) ag0) (.ret (.at (.lo ag0) h.tr.rt ag0)<|(agX (K · cs) e).mpr k)
 |⟨true,fa,fx,.nd z3 y3 l3 r3⟩::c2,_,_,_,_,h,e,_=>.off (.cS (.aV (.at (.lo ag0) h.tr.rt ag0) .k ag0)<|.is (.at (.at (.lo ag0) h.tr.rt ag0) h.fr ag0) (.lo ag0) (agX some<|decide_eq_false h.ne.symm)) (.ret (.at (.lo ag0) h.tr.rt ag0)<|(agX (K · cs) e).mpr k)
theorem Kq(h:RI F cs ta c (.nd a x l r)):Co (d+2) F 17 [.ref a] cs (ii<|aq r++bE c) cs:=λK k=>
 aw ZW rfl (match r,h,k with
  | .nd z y l' r',h,k=>.it (.aV (.at (.lo ag0) h.tr.rt ag0) .k ag0)<|.rc (.one<|.at (.lo ag0) h.tr.rt ag0) (BY h.tr.ri λc1 z2 y2 r2 e e2=>by have:=eS c1<|.nd z2 y2 .nil r2;rw [e,e2] at this;rw [this] at k;exact k)
  | .nil,h,k=>.el (.aV (.at (.lo ag0) h.tr.rt ag0) .k ag0)<|.wg (wS F cs ta (λc=>ii<|bE c) (ii<|bE c)) (λi K' o hk=>acn k i.1 o.1 o.2 hk) (c,a,x,l,.nil) ⟨h,ag0⟩ ag0 rfl)
theorem aco(k:K v cs):∀(c:List (Fr Iv)) {z:Nat} {y:Iv} {l' r':Tr Iv},RI F cs ta c (.nd z y l' r')->mP (bh c)=v->Nx (wS F cs ta (λc=>mP<|bh c) v) K' (c,z,y,l',r')->
 Tn d F (fK K) (.and (cm .aY (at_ 4<|lo 0) cN) (cm .is (at_ 2 (at_ 4<|lo 0))<|lo 0)) [ak 0 (at_ 4<|lo 0)] [.ret (at_ 4<|lo 0)] K' cs [some (.ref z),none,none]
 | [],_,_,_,_,h,e,_=>.off (.ew<|.aV (.at (.lo ag0) h.tr.rt ag0) .k ag0) (.ret (.at (.lo ag0) h.tr.rt ag0)<|(agX (K · cs) e).mpr k)
 |⟨true,fa,fx,fo⟩::c2,_,_,_,_,h,e,hk=>.on (.cS (.aV (.at (.lo ag0) h.tr.rt ag0) .k ag0)<|.is (.at (.at (.lo ag0) h.tr.rt ag0) h.fr ag0) (.lo ag0) (agX some<|agZ ag0))<|.as (.at (.lo ag0) h.tr.rt ag0) ag0 (.nil<|hk (c2,fa,fx,_,fo) (eV _) ⟨h.u1,e⟩)
 |⟨false,fa,fx,.nil⟩::c2,_,_,_,_,h,e,_=>.off (.cS (.aV (.at (.lo ag0) h.tr.rt ag0) .k ag0)<|.is (.at (.at (.lo ag0) h.tr.rt ag0) h.fr ag0) (.lo ag0) ag0) (.ret (.at (.lo ag0) h.tr.rt ag0)<|(agX (K · cs) ((wQ (l:=bh c2++ [])).symm.trans<|(agX mP<|aJ _ _ _).trans e)).mpr k)
 |⟨false,fa,fx,.nd z3 y3 l3 r3⟩::c2,_,_,_,_,h,e,_=>.off (.cS (.aV (.at (.lo ag0) h.tr.rt ag0) .k ag0)<|.is (.at (.at (.lo ag0) h.tr.rt ag0) h.fr ag0) (.lo ag0) (agX some<|decide_eq_false h.ne.symm)) (.ret (.at (.lo ag0) h.tr.rt ag0)<|(agX (K · cs) ((wQ (l:=bh c2++aq (.nd z3 y3 l3 r3))).symm.trans<|(agX mP<|aJ _ _ _).trans e)).mpr k)
theorem acp(h:RI F cs ta c (.nd a x l r)):Co (d+2) F 18 [.ref a] cs (mP<|bh c++aq l) cs:=λK k=>
 aw BE rfl (match l,h,k with
  | .nd z y l' r',h,k=>.it (.aV (.at (.lo ag0) h.tr.rt ag0) .k ag0)<|.rc (.one<|.at (.lo ag0) h.tr.rt ag0) (acm h.tr.le λc1 z2 y2 r2 e e2=>by have:aq (.nd z y l' r')=bh c1++(aq r2++ [(z2,y2)]):=e▸(eS c1<|.nd z2 y2 r2 .nil).trans (by rw [e2,bc];rfl);rw [this, <- aJ, <- aJ,wQ] at k;exact k)
  | .nil,h,k=>.el (.aV (.at (.lo ag0) h.tr.rt ag0) .k ag0)<|.wg (wS F cs ta (λc=>mP<|bh c) (mP<|bh c)) (λi K' o hk=>aco (bc (bh c)▸k) i.1 o.1 o.2 hk) (c,a,x,.nil,r) ⟨h,ag0⟩ ag0 rfl)
end
variable{K:SK}{b:Nat}{C:List (Fr Iv)}{lc:Loc}{p:List S}{L M X:List aS}{B:Ch}
section
variable{T l:Tr Iv}{x:Iv}
theorem RZ.Kr{α:Type}{m':(α->Hp->Prop)->Hp->Prop}{K:α->List Ch->Prop}(i:Nat)(m:nt cs i=ZI ta c t)(k:RI F cs ta c t->Mt F cs m' K):Mt F cs m' K:=λR H Q s q=>by have n:=(kj.mp<|bK▸(Sat.perm s<|(lz cs i).append_right _).1).1;exact k ⟨λq k=>.cx (gy cs i<|m▸k),(agX (λc=>(c.map (·.1)).Nodup) m).mp (kj.mp<|bK▸n).1⟩ R H Q s q
theorem RZ.ix(i:Nat)(m:nt cs i=ZI ta c t)(k:RI F cs ta c t->W d F K cs lc p):W d F K cs lc p:=RZ.Kr i m k
theorem Tn.rz{e:E}{s1:List S}(i:Nat)(m:nt cs i=ZI ta c t)(k:RI F cs ta c t->Tn d F K e s1 p K' cs lc):Tn d F K e s1 p K' cs lc:=RZ.Kr i m k
theorem BZ{x:Nat×O}:([x]::A::B::cs).flatten.Perm ((x::(A++B))::cs).flatten:=.of_eq (show x::(A++(B++cs.flatten))=x::((A++B)++cs.flatten) from agX (gI x) (aJ A B cs.flatten).symm)
theorem W.fo(k:W d F K (CI ta (⟨false,z,x,l⟩::c) S' v::cs) lc p):W d F K (ni z (x.1+kI.su l+S') x.2 l.ptr v (aM c)::TI l (.ref z)::CI ta c (x.1+kI.su l+S') (.ref z)::cs) lc p:=.pm BZ k
theorem W.fi(k:W d F K (CI ta (⟨true,z,x,r⟩::c) S' v::cs) lc p):W d F K (ni z (x.1+S'+kI.su r) x.2 v r.ptr (aM c)::TI r (.ref z)::CI ta c (x.1+S'+kI.su r) (.ref z)::cs) lc p:=.pm BZ k
theorem acq:Co (d+1) F 13 [aM c,.int m] [CI ta c 0 v] .none [CI ta c m v]:=(agX (λn=>Co (d+1) F 13 [aM c,.int m] [CI ta c 0 v] .none [CI ta c n v])<|dR m).mp BX
theorem qo:∀(c:List (Fr Iv)),bh (c++C)=bh C++bh c
 | []=>(bc _).symm
 |⟨true,_,_,_⟩::c=>qo c
 |⟨false,a,x,o⟩::c=>(agX (· ++ (aq o++ [(a,x)]))<|qo c).trans<|aJ _ _ _
theorem qp:∀(c:List (Fr Iv)),bE (c++C)=bE c++bE C
 | []=>rfl
 |⟨true,a,x,o⟩::c=>(agX (λl=>(a,x)::(aq o++l))<|qp c).trans<|agX (gI (a,x)) (aJ _ _ _).symm
 |⟨false,_,_,_⟩::c=>qp c
noncomputable abbrev leaf(b:Nat)(x:Iv):Tr Iv:=.nd b x .nil .nil
theorem Ks{u:V}{K:VK}(e:aq (up (f::C)<|leaf b x)=L)(hp:Pos L)(hl:L.length<=1000)(k:∀t',aq t'=L->K .none [ZI ta [] t']):
 W (d+5) F (fK K) [TI (leaf b x) (.ref f.a),CI ta (f::C) 0<|.ref b] [some (.ref ta),some u,some<|.ref b,none,none] [.expr (ca 13 [at_ 4 (lo 2),at_ 0<|lo 2]),.expr<|ca 12 [lo 0,at_ 4<|lo 2]]:=
 .xc (.two (.ax (.lo ag0) 0 ag0 rfl)<|.ax (.lo ag0) 0 ag0 rfl) [1] (acq (c:=f::C) (m:=kI.su<|leaf b x)) ag0 (.re [1,0] (.zc (c:=f::C)<|.xC (.two (.lo ag0)<|.at (.lo ag0) (RT.zx (K:=kI) (c:=f::C) (t:=leaf b x) 0 ag0).rt ag0) [0] (wP (e▸hp)<|e▸hl) ag0 λt' sm=>.nil (k t'<|sm.io.trans e)))
theorem W.zf(k:W d F K (ZI ta (f::c) t::cs) lc p):W d F K (ZI ta c (dc f t)::cs) lc p:=.pm ((mL f t).symm.append_right _) k
theorem W.zr(e:t'=t)(k:W d F K (ZI ta c t'::cs) lc p):W d F K (ZI ta c t::cs) lc p:=e▸k
theorem B0:(ZI ta c t).Perm (ZI ta []<|up c t):=(agX (λc'=>(ZI ta c' t).Perm (ZI ta []<|up c t))<|bc c).mp<|mM (c:=[]) c t
theorem W.d0(k:W d F K (ZI ta c t::cs) lc p):W d F K (ZI ta [] (up c t)::cs) lc p:=.pm (B0.symm.append_right _) k
theorem W.u0(k:W d F K (ZI ta [] (up c t)::cs) lc p):W d F K (ZI ta c t::cs) lc p:=.pm (B0.append_right _) k
theorem RZ.d0(h:RI F cs ta [] (Wl.up c t)):RI F cs ta c t:=h.pm B0
theorem Pos.ins(h:Pos (M++X))(he:1<=e.2.1):Pos (M++e::X):=λg m=>(aO.mp<|jb.mem_iff.mp m).elim (λq=>q▸he)<|h g
theorem Kt(h:(M++X).length<=999):(M++e::X).length<=1000:=jb.length_eq▸i9 h
theorem acr(hm:1<=u.1)(hp:Pos (bh (⟨false,z,x,l⟩::c)++(aq r++bE c)))(hl:(bh (⟨false,z,x,l⟩::c)++(aq r++bE c)).length<=999):
 jr (d+6) F 19 [.ref ta,.ref z,.ref b] [ZI ta c (.nd z x l r),TI (leaf b u) .none] (λt'=>aq t'=bh (⟨false,z,x,l⟩::c)++(b,u)::(aq r++bE c)) (λ_=>.none) (λt'=>[ZI ta [] t']):=λK k=>
 aw ZX rfl (match r,hp,hl,k with
  | .nil,hp,hl,k=>.zo (.mO<|.it (.is (.ax (.lo ag0) 0 ag0 rfl) .k ag0) (.xc (.two (.lo ag0)<|.lo ag0) [4,0] (BP (s:=leaf b u)) rfl<|.re [1,1,2] (.fo<|.re [1,0] (.dr 2<|Ks (f:=⟨false,z,x,l⟩) (eS _ _) (hp.ins (e:=(b,u)) hm) (Kt (e:=(b,u)) hl) k))))
  | .nd z2 y2 l2 r2,hp,hl,k=>RZ.ix 0 ag0 λh=>.el (.is (.at (.lo ag0) h.tr.rt ag0) .k ag0) (.bS (.ca (.one<|.at (.lo ag0) h.tr.rt ag0) (BY h.tr.ri λc1 w y r' e e2=>
   .zf (f:=⟨false,z,x,l⟩) (.zr e (.zd (.zo (.mO (.xc (.two (.lo ag0)<|.lo ag0) [4,0] (wK (s:=leaf b u)) ag0 (.re [1,2,2] (.fi (.re [1,0] (.dr 2 (Ks (f:=⟨true,w,y,r'⟩) (by
    rw [eS, <- e,eS c1];show bh (c1++_)++((b,u)::(w,y)::(aq r'++bE (c1++_)))=_;rw [qo,qp,e2,bc,List.nil_append,aJ]
    rfl) (hp.ins (e:=(b,u)) hm) (Kt (e:=(b,u)) hl) k)))))))))))) ag0))
end
variable{K:VK}{KS:List V->List Ch->Prop}{l:Loc}{e:E}{u:V}{ic:Nat}{t:Ch}{j:Int}
section
variable{a b c:E}{w:V}{n f A:Nat}{x y z:Int}{o1 o2:Op}
theorem Ev.j9(p:Ev d F cs l a (.int x))(r:Ev d F cs l b (.int y))(q1:qk x y o1=some true)(s:Ev d F cs l c (.int z))(q2:qk y z o2=some tt):Ev d F cs l (.chain a o1 b o2 c) (.bool tt):=λK k=>
 Mt.bind (f:=λva Q H=>aH Mine.G (acl d) b l H λvb h2=>wq (bR h2 o1 va vb) (aH Mine.G (acl d) c l h2 λvc h3=>wr (bR h3 o2 vb vc) h3 Q)<|Q (.bool false) h2) (p (λv c=>v= .int x/\c=cs) ⟨ag0,ag0⟩) λv _ h=>by rw [h.1,h.2];refine Mt.bind (f:=λvb Q H=>wq (bR H o1 (.int x) vb) (aH Mine.G (acl d) c l H λvc h3=>wr (bR h3 o2 vb vc) h3 Q)<|Q (.bool false) H) (r (λv c=>v= .int y/\c=cs) ⟨ag0,ag0⟩) λv _ h=> ?_;rw [h.1,h.2];intro R H Q s' q';show wq (bR H o1 (.int x)<|.int y) _ _;rw [sR q1];exact Mt.bind (f:=λvc Q H=>wr (bR H o2 (.int y) vc) H Q) (s (λv c=>v= .int z/\c=cs) ⟨ag0,ag0⟩) (λv _ h=>by rw [h.1,h.2];exact .pr k λR H s Q q=>by show wr (bR H o2 (.int y)<|.int z) H Q;rw [sR q2];exact q) R H Q s' q'
theorem Ev.qq(p:Ev d F cs l a (.int x))(r:Ev d F cs l b (.int y))(q1:qk x y o1=some false):Ev d F cs l (.chain a o1 b o2 c) (.bool false):=λK k=>
 Mt.bind (f:=λva Q H=>aH Mine.G (acl d) b l H λvb h2=>wq (bR h2 o1 va vb) (aH Mine.G (acl d) c l h2 λvc h3=>wr (bR h3 o2 vb vc) h3 Q)<|Q (.bool false) h2) (p (λv c=>v= .int x/\c=cs) ⟨ag0,ag0⟩) λv _ h=>by rw [h.1,h.2];refine Mt.bind (f:=λvb Q H=>wq (bR H o1 (.int x) vb) (aH Mine.G (acl d) c l H λvc h3=>wr (bR h3 o2 vb vc) h3 Q)<|Q (.bool false) H) (r (λv c=>v= .int y/\c=cs) ⟨ag0,ag0⟩) λv _ h=> ?_;rw [h.1,h.2];exact .pr k λR H s Q q=>by show wq (bR H o1 (.int x)<|.int y) _ _;rw [sR q1];exact q
theorem d9.co(x:Ev d F cs l e v)(k:d9 d F (λvs=>KS (v::vs)) cs l es):d9 d F KS cs l (e::es):=
 Mt.bind (f:=λv Q H=>cM Mine.G (acl d) (el es) l H λvs h2=>Q (v::vs) h2) (x (λv c=>d9 d F (λvs=>KS (v::vs)) c l es) k) λv c h R H Q s q=>h R H (λvs h2=>Q (v::vs) h2) s λvs=>q (v::vs)
theorem d9.ef(x:We d F (λv=>KS [v]) cs l e):d9 d F KS cs l [e]:=Mt.bind (f:=λv Q H=>Q [v] H) x λv c h=>.ret h
theorem We.cw(x:d9 d F (λvs c=>Cl d F K c f vs) cs l es):We d F K cs l (Pl.ca f es):=Mt.bind x λ_ _ h=>h
theorem We.new(g:∀k:Nat->Prop,k f->wG ic k)(xs:cI d F cs l es vs)(k:∀a,Cl d F (λr c=>r= .none/\K (.ref a) c) ([(a,.inst ic [])]::cs) f (.ref a::vs)):We d F K cs l (nw ic es):=
 Mt.bind (f:=λ(vs:List V) (Q:bA) (H:Hp)=>wG ic λf=>acl d f (V.ref H.length::vs) (H++ [O.inst ic []]) λr h2=>uZ r<|Q (V.ref H.length) h2) (xs (λus c=>us=vs/\c=cs) ⟨ag0,ag0⟩) λus c h=>by rw [h.1,h.2];exact λR H Q s q=>g _ (k H.length R _ _ s.new λr c H' h s'=>by rw [h.1];exact q _ c H' h.2 s')
end
section
variable{K:SK}{t T l:Tr Iv}{x:Iv}
theorem Ku:Co (d+1) F 106 [.ref b,.int n,.ref q] [[(b,.inst 0 [])]] .none [ni b n q .none .none .none]:=λK k=>
 aw aaZ ag0 (.put (.lo ag0) (.lo ag0) 0 ag0 rfl<|.put (.lo ag0) (.lo ag0) 0 ag0 rfl (.put .k (.lo ag0) 0 ag0 rfl<|.put .k (.lo ag0) 0 ag0 rfl (.put .k (.lo ag0) 0 ag0 rfl<|.nil k)))
theorem qr:(aq (up c<|.nd a x l r)).Perm ((a,x)::(bh c++(aq l++(aq r++bE c)))):=
 ((EP ((eS c<|.nd a x l r).trans<|agX (bh c++ ·) (aJ (aq l) ((a,x)::aq r)<|bE c))).trans<|jb.append_left _).trans jb
theorem Pos.rl(h:Pos (aq (up c<|.nd a x l r)))(h':1<=y.1):Pos (aq (up c<|.nd a y l r)):=λe m=>(aO.mp<|qr.mem_iff.mp m).elim (λq=>q▸h') λm=>h e (qr.mem_iff.mpr<|.tail _ m)
theorem acs:(aq (up c<|.nd a y l r)).length=(aq (up c<|.nd a x l r)).length:=qr.length_eq.trans (qr (x:=x)).length_eq.symm
noncomputable def az:List aS->Int
 | []=>0
 |e::l=>e.2.1+az l
theorem ju:∀(L M:List aS),az (L++M)=az L+az M
 | [],M=>(dR _).symm
 |e::L,M=>(agX (e.2.1+ ·)<|ju L M).trans (c7 _ _ _).symm
theorem gz:∀t:Tr Iv,az (aq t)=kI.su t
 | .nil=>rfl
 | .nd a x l r=>(ju _ _).trans<|show az (aq l)+(x.1+az (aq r))=x.1+kI.su l+kI.su r from by rw [gz l,gz r, <- c7,fG<|kI.su l]
theorem B1:∀c:List (Fr Iv),az (bh c)=bg c
 | []=>rfl
 |⟨true,_,_,_⟩::c=>B1 c
 |⟨false,a,x,o⟩::c=>(ju _ _).trans (by rw [ju,B1 c,gz o, <- c7];exact agX (bg c+kI.su o+ ·)<|dS _)
theorem ij:az (bh c++aq l)=bg c+kI.su l:=(ju _ _).trans<|by rw [B1,gz]
theorem kf(h:up c (.nd a x l r)=T):aq T=(bh c++aq l)++(a,x)::(aq r++bE c):=h▸(eS c<|.nd a x l r).trans ((agX (bh c++ ·) (aJ (aq l) ((a,x)::aq r)<|bE c)).trans (aJ _ _ _).symm)
theorem act(e:x.1+(S'+m)+kI.su r=y.1+S'+kI.su r)(e2:x.2=y.2):CI ta (⟨true,a,x,r⟩::c) (S'+m) v=CI ta (⟨true,a,y,r⟩::c) S' v:=by show (a,O.inst 0 [.int (x.1+(S'+m)+kI.su r),.ref x.2,v,r.ptr,aM c])::(TI r (.ref a)++CI ta c (x.1+(S'+m)+kI.su r) (.ref a))=(a,O.inst 0 [.int (y.1+S'+kI.su r),.ref y.2,v,r.ptr,aM c])::(TI r (.ref a)++CI ta c (y.1+S'+kI.su r) (.ref a));rw [e,e2]
theorem Kw:Co (d+1) F 13 [.ref a,.int m] [ZI ta c (.nd a x l r)] .none [ZI ta c (.nd a (x.1+m,x.2) l r)]:=
 .pm (.trans (.of_eq ag0) (.trans ((mL (K:=kI) (ta:=ta) (rs:=[]) (c:=c) ⟨true,a,x,r⟩ l).symm.append_right [])<|ib (K:=kI) (cs:=[])))
  (.jN<|BX (c:=⟨true,a,x,r⟩::c))
  (.trans (.of_eq (agX (λC=>[TI l (.ref a),C].flatten)<|act (y:=(x.1+m,x.2)) (agX (· + kI.su r)<|by rw [fG (kI.su l) m, <- c7]) ag0)) (.trans (ib (K:=kI) (c:=⟨true,a,(x.1+m,x.2),r⟩::c) (t:=l) (cs:=[])).symm<|(mL (K:=kI) (ta:=ta) (rs:=[]) (c:=c) ⟨true,a,(x.1+m,x.2),r⟩ l).append_right []))
theorem Kx(x y:Int):x+(0-(x-y))=y:=by rw [EQ,Pt,fG,nu]
theorem acu{K:VK}(hp:Pos (aq T))(hl:(aq T).length<=998)(k1:(j<=0\/kI.su T<=j\/∃u v,aq T=u++v/\az u=j)->K .none [ZI ta [] T])(k2:∀pre e post b T',aq T=pre++e::post->az pre<j->j<az pre+e.2.1->aq T'=pre++(e.1,j-az pre,e.2.2)::(b,e.2.1-(j-az pre),e.2.2)::post->K .none [ZI ta [] T']):Cl (d+7) F K [ZI ta [] T] 21 [.ref ta,.int j]:=
 aw ZY rfl (RZ.ix 0 rfl λh=>match q1:decide (0<j),q2:decide (j<kI.su T) with
  |false,_=>.it (.mK (.qq .k (.lo ag0)<|agX some q1))<|.ret .k (k1<|.inl (cH.mp<|of_decide_eq_false q1))
  |true,false=>.it (.mK (.j9 .k (.lo ag0) (agX some q1) (.ca (.one<|.lo ag0)<|lA h)<|agX some q2)) (.ret .k<|k1 (.inr<|.inl (cH.mp<|of_decide_eq_false q2)))
  |true,true=>.el (.sS (.j9 .k (.lo ag0) (agX some q1) (.ca (.one<|.lo ag0)<|lA h)<|agX some q2)) (.tu (.ca (.two (.lo ag0)<|.lo ag0) (qn h (bZ<|agY q1) (agY q2) λc a x l r e w1 w2=>by
   have hr:RT F [ZI ta [] T] kI (.nd a x l r) (aM c):=(RZ.d0<|h.eq e).tr;refine .ite (.cm (.lo ag0) (.lo ag0) ag0) (λq=>.ret .k<|k1 (.inr<|.inr ⟨_,_,kf e,ij.trans<|agY q⟩)) λq=>.as (.sub (.ca (.one<|.lo ag0)<|oh hr) (.sub (.lo ag0)<|.lo ag0)) ag0 ?_;have lt:bg c+kI.su l<j:=yT.mpr ⟨w1,of_decide_eq_false q⟩
   refine .zr e (.d0 (.xc (.two (.lo ag0) (.sub .k<|.lo ag0)) [0] Kw ag0 (.xp (.cw (.co (.lo ag0) (.co (.lo ag0) (.ef (.new (λ_ k=>k) (.two (.ie (.lo ag0) ((dS _).trans<|dS _).symm)<|.at (.lo ag0) (RT.zx (K:=kI) 0 ag0).rt ag0) λb=>
    Ku.cl [0] ag0 ⟨ag0,(acr (u:=(x.1-(j-(bg c+kI.su l)),x.2)) ?_ ?_ ?_).cl [1,0] ag0 λt' et=>⟨ag0,.nil<|k2 _ _ _ b t' (kf e) (ij▸lt) (ij▸w2) ?_⟩⟩))))))))
   ·exact pg<|Pw w2
   ·exact eS (⟨false,a,_,l⟩::c) r▸(Pos.rl (e▸hp) ((Kx x.1 _).symm▸pg lt):Pos (aq (up c<|.nd a (x.1+(0-(x.1-(j-(bg c+kI.su l)))),x.2) l r)))
   ·exact eS (⟨false,a,_,l⟩::c) r▸ae (aF (acs.trans<|agX (λt=>(aq t).length) e)) (ae hl<|oV _)
   ·rw [et,ij,Kx];exact (agX (· ++ _) (aJ (bh c) (aq l) [(a,j-(bg c+kI.su l),x.2)]).symm).trans (aJ (bh c++aq l) [(a,j-(bg c+kI.su l),x.2)] _))) ag0 rfl))
end
variable{x yr:Iv}{L X Y:Ch}{zr:Nat}
section
variable{K:SK}{t l T:Tr Iv}{u1 u3 x6 x7:Option V}
theorem W.pd(k:W d F K (TI t (jt pc c1)::Cp pc c1 (kI.su t) t.ptr::cs) lc p):W d F K (TI (up c1 t) pc::cs) lc p:=.pm ((.trans ((sW c1 t).symm.append_right _) (.of_eq<|aJ _ _ _))) k
theorem W.pu(k:W d F K (TI (up c1 t) pc::cs) lc p):W d F K (TI t (jt pc c1)::Cp pc c1 (kI.su t) t.ptr::cs) lc p:=.pm ((.trans (.of_eq (aJ _ _ _).symm)<|(sW c1 t).append_right _)) k
theorem W.fip(k:W d F K (Cp pc (⟨true,z,x,r⟩::c) S' v::cs) lc p):W d F K (ni z (x.1+S'+kI.su r) x.2 v r.ptr (jt pc c)::TI r (.ref z)::Cp pc c (x.1+S'+kI.su r) (.ref z)::cs) lc p:=.pm BZ k
theorem B2:∀(c:List (Fr Iv)) {t t':Tr Iv},kI.su t'=kI.su t+m->kI.su (up c t')=kI.su (up c t)+m
 | [],_,_,h=>h
 |⟨true,a,x,o⟩::c,t,t',h=>B2 c<|(agX (λs=>x.1+s+kI.su o) h).trans (sV ⟨true,a,x,o⟩<|kI.su t)
 |⟨false,a,x,o⟩::c,t,t',h=>B2 c<|(agX (λs=>x.1+kI.su o+s) h).trans (sV ⟨false,a,x,o⟩<|kI.su t)
def Ky(ta a w:Nat)(pc:V)(l:Tr Iv)(Z Y:Ch):Lp:=⟨List (Fr Iv)×Int×V×Ch,λi=>[some (.ref ta),some<|.ref a,some pc,none,some l.ptr,some<|jt pc i.1,none,none],λi=>[Cp pc i.1 i.2.1 i.2.2.1,i.2.2.2,TI l<|.ref w,Z],λi=>(i.2.2.2++Cp pc i.1 (i.2.1+kI.su l) i.2.2.1).Perm Y,λi=>i.1.length⟩
theorem acw{r:Ch}(o:(r++ []).Perm Y): [[],r,A,X].flatten.Perm [A,Y,X].flatten:=(eW r A _).trans<|(((bc r)▸o).append_right _).append_left A
theorem acx{l1 l2:Tr Iv}(hz:pc= .none\/∃b o,pc= .ref b/\(b,o)∈X)(k:W d F K [TI (.nd b y l1 l2) (.ref w),Y,X] [some (.ref ta),some<|.ref a,some pc,none,some<|.ref b,some pc,none,none] p):∀(c:List (Fr Iv)) {s:Int} {u:V} {r:Ch},(r++Cp pc c (s+kI.su (.nd b y l1 l2)) u).Perm Y->Nx (Ky ta a w pc (.nd b y l1 l2) X Y) K' (c,s,u,r)->
 Tn d F K (cm .aY (lo 5)<|lo 2) [.ag (.attr (lo 5) 0) (pr .add [at_ 0 (lo 5),at_ 0<|lo 4]),ak 5 (at_ 4<|lo 5)] p K' [Cp pc c s u,r,TI (.nd b y l1 l2)<|.ref w,X] [some (.ref ta),some<|.ref a,some pc,none,some<|.ref b,some<|jt pc c,none,none]
 | [],s,u,r,o,_=>.off (.aV (.lo ag0) (.lo ag0)<|hz.elim (λe=>e▸rfl) λ⟨_,_,e,_⟩=>e▸agX (dq not) (agX some<|agZ ag0))<|.pm (acw o) k
 |f::c2,s,u,r,o,hk=>by
  obtain ⟨q,l,r',e⟩:=Kh f u (jt pc c2);have o:(r++(f.a,f.ob kI (s+kI.su (.nd b y l1 l2)) u (jt pc c2))::(TI f.o (.ref f.a)++Cp pc c2 (f.sm kI (s+kI.su (.nd b y l1 l2))) (.ref f.a))).Perm Y:=o;rw [e,sV] at o
  have go:(gn (.ref f.a) pc).map not=some true->Tn d F K (cm .aY (lo 5)<|lo 2) [.ag (.attr (lo 5) 0) (pr .add [at_ 0 (lo 5),at_ 0<|lo 4]),ak 5 (at_ 4<|lo 5)] p K' [Cp pc (f::c2) s u,r,TI (.nd b y l1 l2)<|.ref w,X] [some (.ref ta),some<|.ref a,some pc,none,some<|.ref b,some<|.ref f.a,none,none]:=λq=>
   .on (.aV (.lo ag0) (.lo ag0) q) (.pm Ki<|e s▸ .put (.add (.ax (.lo ag0) 0 ag0 rfl)<|.ax (.lo ag0) 3 ag0 rfl) (.lo ag0) 0 ag0 rfl (.as (.ax (.lo ag0) 0 ag0 rfl) ag0 (.pm Kj<|.nil (hk (c2,f.sm kI s,.ref f.a,_) (eV _)<|Kk o))))
  rcases hz with rfl|⟨g,o',rfl,m⟩
  ·exact go ag0
  ·exact Mt.ne (p1:=(f.a,f.ob kI s u<|jt (.ref g) c2)) 0 2 (.head _) m λne=>go<|agX (dq not) (agX some<|decide_eq_false ne)
theorem W.ce(e:S'=n)(k:W d F K (CI ta c n v::cs) lc p):W d F K (CI ta c S' v::cs) lc p:=e▸k
theorem acy(x l r:Int):x+l+r+(0-x)=l+r:=by rw [EQ,c7 x,fG x,Int.add_neg_cancel_right]
noncomputable def Kz(ta a:Nat)(pc:V):Loc:=[some (.ref ta),some<|.ref a,some pc,none,none,none,none,none]
theorem acz(k:W (d+5) F K [ni a (x.1+kI.su l+kI.su r) x.2 l.ptr r.ptr (aM c),TI l<|.ref a,TI r<|.ref a,CI ta c (kI.su l+kI.su r)<|.ref a] (Kz ta a<|aM c) p):
 W (d+5) F K [ZI ta c (.nd a x l r)] [some (.ref ta),some<|.ref a,none,none,none,none,none,none] (.expr (ca 13 [at_ 4 (lo 1),pr .sub [ci 0,ca 2 [lo 1]]])::ak 2 (at_ 4<|lo 1)::p):=
 .zo (.xc (.two (.ax (.lo ag0) 0 ag0 rfl) (.sub .k<|.ca (.one<|.lo ag0) (oh<|RT.ix 0 ag0))) [1] BX ag0 (.ce (acy _ _ _)<|.re [1] (.mO<|.as (.ax (.lo ag0) 0 ag0 rfl) ag0 k)))
theorem drop_one{K:VK}(e:aq (up c s)=L')(hp:Pos L')(hl:L'.length<=1000)(k:∀t',aq t'=L'->K .none [ZI ta [] t']):
 W (d+5) F (fK K) [TI s (.ref a),CI ta c (kI.su s)<|.ref a,ni a n q u v<|aM c] [some (.ref ta),some<|.ref a,some<|aM c,some s.ptr,none,none,none,none] (.expr (ca 4 [lo 0,lo 1,lo 3]):: .expr (ca 12 [lo 0,lo 2]):: .ret cN::p):=
 .xc (.cons (.lo ag0)<|.cons (.lo ag0) (.one<|.lo ag0)) [] wJ ag0 (.dr 2 (.zc<|.xC (.two (.lo ag0)<|.lo ag0) [] (wP (e▸hp)<|e▸hl) ag0 λt' sm=>.ret .k (k t'<|sm.io.trans e)))
theorem W.tr(e:t'=t)(k:W d F K (TI t' v::cs) lc p):W d F K (TI t v::cs) lc p:=e▸k
theorem W.zs(e:kI.su t=n)(e2:t.ptr=v)(k:W d F K (ZI ta c t::cs) lc p):W d F K (TI t (aM c)::CI ta c n v::cs) lc p:=e▸e2▸ .zc k
theorem acA{K:VK}{l1 l2 r1 r2:Tr Iv}(hp:Pos (bh c++(aq (.nd b y l1 l2)++(aq (.nd zr yr r1 r2)++bE c))))(hl:(bh c++(aq (.nd b y l1 l2)++(aq (.nd zr yr r1 r2)++bE c))).length<=1000)(k:∀t',aq t'=bh c++(aq (.nd b y l1 l2)++(aq (.nd zr yr r1 r2)++bE c))->K .none [ZI ta [] t']):
 W (d+5) F (fK K) [ni a n q (.ref b) (.ref zr) (aM c),TI (.nd b y l1 l2)<|.ref a,TI (.nd zr yr r1 r2)<|.ref a,CI ta c (kI.su (.nd b y l1 l2)+kI.su (.nd zr yr r1 r2))<|.ref a] (Kz ta a<|aM c)
  [ak 4 (at_ 2<|lo 1),ak 5<|ca 15 [at_ 3 (lo 1)],.expr<|ca 4 [lo 0,lo 1,at_ 3<|lo 1],.expr<|ca 5 [lo 5,lo 4],.while (cm .aY (lo 5)<|lo 2)<|sl [.ag (.attr (lo 5) 0) (pr .add [at_ 0 (lo 5),at_ 0<|lo 4]),ak 5 (at_ 4<|lo 5)],.expr<|ca 12 [lo 0,at_ 4<|lo 4]]:=
 .as (.ax (.lo ag0) 0 ag0 rfl) ag0 (.bS (.ca (.one<|.ax (.lo ag0) 0 ag0 rfl) (BY (RT.ix 2 ag0) λc1 w yw r' e e2=>by
  have es:kI.su (up (⟨true,w,yw,r'⟩::c1)<|.nd b y l1 l2)=kI.su (.nd b y l1 l2)+kI.su (.nd zr yr r1 r2):=((B2 c1 (t:=.nd w yw .nil r') (t':=.nd w yw (.nd b y l1 l2) r') (m:=kI.su<|.nd b y l1 l2) ((agX (Fr.sm kI ⟨true,w,yw,r'⟩) (dR _).symm).trans<|sV ⟨true,w,yw,r'⟩ 0)).trans<|agX (kI.su · + kI.su (.nd b y l1 l2)) e).trans<|fG _ _;have ei:aq (up ((⟨true,w,yw,r'⟩::c1)++c)<|.nd b y l1 l2)=bh c++(aq (.nd b y l1 l2)++(aq (.nd zr yr r1 r2)++bE c)):=by rw [eS,qo,qp, <- e,eS c1];show bh c++bh c1++_=_;rw [e2,bc];rfl
  refine .xc (.cons (.lo ag0)<|.cons (.lo ag0) (.one<|.ax (.lo ag0) 0 ag0 rfl)) [2,2,0] (wJ (s:=.nd zr yr r1 r2)) ag0 (.tr e<|.pd (.mO<|.xc (.two (.lo ag0)<|.lo ag0) [6,0] (wK (s:=.nd b y l1 l2)) ag0 (.re [1,2,2]<|.fip (.dr 4<|.dr 2 ?_))))
  refine .pm (c1:=[Cp (aM c) (⟨true,w,yw,r'⟩::c1) 0 (.ref b),[],TI (.nd b y l1 l2)<|.ref w,CI ta c (kI.su (.nd b y l1 l2)+kI.su (.nd zr yr r1 r2))<|.ref zr]) (.refl _) (.wg (Ky ta a w (aM c) (.nd b y l1 l2) (CI ta c (kI.su (.nd b y l1 l2)+kI.su (.nd zr yr r1 r2))<|.ref zr) (Cp (aM c) (⟨true,w,yw,r'⟩::c1) (kI.su<|.nd b y l1 l2)<|.ref b))
   (λi K' o hk=>acx ?_ (.pu (c1:=⟨true,w,yw,r'⟩::c1)<|.zs es ?_ (.zd<|.xC (.two (.lo ag0)<|.at (.lo ag0) (RT.zx (K:=kI) 0 ag0).rt ag0) [0] (wP (ei▸hp)<|ei▸hl) ag0 λt' sm=>.nil (k t'<|sm.io.trans ei))) i.1 o hk) (⟨true,w,yw,r'⟩::c1,0,.ref b,[]) ?_ ag0 rfl)
  ·exact match c with
    | []=>.inl ag0
    |g::c'=>.inr ⟨g.a,_,ag0,.head _⟩
  ·exact (sU c1 (.nd w yw (.nd b y l1 l2) r') ag0).trans ((sU c1 (.nd w yw .nil r') ag0).symm.trans<|agX Tr.ptr e)
  ·exact .of_eq (agX (λs=>Cp (aM c) (⟨true,w,yw,r'⟩::c1) s<|.ref b)<|dR _))) ag0)
theorem acB(hp:Pos (aq (up c<|.nd a x l r))):Pos (bh c++(aq l++(aq r++bE c))):=λe m=>hp e (qr.mem_iff.mpr<|.tail _ m)
theorem acC(hl:(aq (up c<|.nd a x l r)).length<=1000):(bh c++(aq l++(aq r++bE c))).length<=1000:=ae (oV _)<|ae (aF (qr (c:=c) (a:=a) (x:=x)).length_eq.symm) hl
theorem acD(hp:Pos (aq (up c<|.nd a x l r)))(hl:(aq (up c<|.nd a x l r)).length<=1000):jr (d+6) F 22 [.ref ta,.ref a] [ZI ta c (.nd a x l r)] (λt'=>aq t'=bh c++(aq l++(aq r++bE c))) (λ_=>.none) (λt'=>[ZI ta [] t']):=λK k=>
 aw BF rfl (acz (match l,r,acB hp,acC hl,k with
  | .nil,.nil,hp,hl,k=>.it (.mJ<|.is (.ax (.lo ag0) 0 ag0 rfl) .k ag0)<|.as (.dp (.is (.ax (.lo ag0) 0 ag0 rfl) .k ag0)<|.ax (.lo ag0) 0 ag0 rfl) ag0 (.re [1,2,0]<|drop_one (s:=.nil) (eS c .nil) hp hl k)
  | .nd b y l1 l2,.nil,hp,hl,k=>.it (.iS (.is (.ax (.lo ag0) 0 ag0 rfl) .k ag0)<|.is (.ax (.lo ag0) 0 ag0 rfl) .k ag0)<|.as (.dp (.is (.ax (.lo ag0) 0 ag0 rfl) .k ag0)<|.ax (.lo ag0) 0 ag0 rfl) ag0 (.re [3]<|.ce (dS _) (.re [2,0,0]<|drop_one (s:=.nd b y l1 l2) (eS c _) hp hl k))
  | .nil,.nd b y l1 l2,hp,hl,k=>.it (.mJ<|.is (.ax (.lo ag0) 0 ag0 rfl) .k ag0)<|.as (.eg (.is (.ax (.lo ag0) 0 ag0 rfl) .k ag0)<|.ax (.lo ag0) 0 ag0 rfl) ag0 (.re [3]<|.ce (dR _) (.re [3,0,0]<|drop_one (s:=.nd b y l1 l2) (eS c _) hp hl k))
  | .nd b y l1 l2,.nd z u r1 r2,hp,hl,k=>.el (.iS (.is (.ax (.lo ag0) 0 ag0 rfl) .k ag0)<|.is (.ax (.lo ag0) 0 ag0 rfl) .k ag0)<|acA hp hl k))
end
variable{K:SK}{it:It}{iv:IV}{w:V}{j A:Nat}{z:Int}{t:List Nat}
structure Lf where
 ι:Type
 L:Nat->ι->Loc
 D:Nat->ι->List Ch
 ok:Nat->ι->Prop
def Nf(P:Lf)(K':Loc->List Ch->Prop)(k:Nat):Prop:=∀j,P.ok k j->K' (P.L k j) (P.D k j)
def Src(d:Nat)(F:Ch)(cs:List Ch)(l:Loc)(it:It)(iv:IV):Prop:=Mt F cs (λ(Q:IV->Hp->Prop) H=>ml Mine.G (acl d) it l H Q) λiv' c=>iv'=iv/\c=cs
def Gives(F:Ch)(iv:IV)(vs:List V)(k:Nat)(cs:List Ch):Prop:=∀R H,Hs F R cs H->iv.next H k=some vs[k]?
section
variable{b:List S}{n:Nat}{z1 z2:Int}
theorem wT:∀(l:Loc) (i:Nat),l.set i (some v)=st l i v
 | [],_=>rfl
 |_::_,0=>rfl
 |x::l,i+1=>agX (gI x)<|wT l i
theorem wU(q:aR i l.length):bindL [i] v l=some (st l i v):=(if_pos<|au q).trans (agX some<|wT l i)
theorem KB(q:aR i l.length)(q2:aR j l.length):bindL [i,j] (.tup [v,w]) l=some (st (st l i v) j w):=
 (agX (jJ · (pP [j] [w])) (if_pos<|au q)).trans ((agX (jJ · (pP [] [])) (if_pos<|lU (au q2) tR.symm)).trans (agX some<|(wT _ j).trans (agX (λl=>st l j w)<|wT l i)))
def Lo(d:Nat)(F:Ch)(K:SK)(t:List Nat)(b p:List S)(l:Loc)(iv:IV)(cs:List Ch):Prop:=Mt F cs (λQ H=>∃n,mq t iv (bP Mine.G (acl d)<|sl b) (wk (λf l' H'=>Q (f,l') H') λl' h'=>bP Mine.G (acl d) (sl p) l' h' λf l' H'=>Q (f,l') H') n 0 l H) K
theorem W.for(x:Mt F cs (λ(Q:IV->Hp->Prop) H=>ml Mine.G (acl d) it l H Q) (Lo d F K t b p l)):W d F K cs l (.for t it (sl b)::p):=Mt.bind x λ_ _ h=>h
theorem Lo.fw(P:Lf)(hn:∀k i,P.ok k i->Gives F iv vs k (P.D k i))(step:∀k v i K',vs[k]? = some v->P.ok k i->Nf P K' (k+1)->∃l1,bindL t v (P.L k i)=some l1/\W d F (kb K K') (P.D k i) l1 b)(fin:∀i,P.ok vs.length i->W d F K (P.D vs.length i) (P.L vs.length i) p)(i:P.ι)(h:P.ok 0 i)(hl:P.L 0 i=l)(hc:P.D 0 i=cs):Lo d F K t b p l iv cs:=λR H Q s q=>
 abN (vs:=vs) (S':=wk (λf l' H'=>Q (f,l') H') λl' h'=>bP Mine.G (acl d) (sl p) l' h' λf l' H'=>Q (f,l') H') (λk l h=>∃j,P.ok k j/\P.L k j=l/\Hs F R (P.D k j) h) (λk l h ⟨j,o,_,sj⟩=>hn k j o R h sj) (λk v l h kk hv ⟨j,o,e,sj⟩ hk=>
  let ⟨l1,e1,w⟩:=step k v j (λl c=>∀H',Hs F R c H'->kk l H') hv o λj' o' H' s'=>hk _ H' ⟨j',o',ag0,s'⟩
  ⟨l1,e▸e1,w R h (λa H'=>wk (λf l' H'=>Q (f,l') H') kk a.1 a.2 H') sj λa c H2 k' s2=>match a,k' with
   |(.next,l'),k'=>k' H2 s2
   |(.ret v,l'),k'=>q _ c H2 k' s2⟩) (λl h ⟨j,o,e,sj⟩=>e▸fin j o R h Q sj q) ⟨i,h,hl,hc▸s⟩
theorem Src.to(x:Src d F cs l it iv)(k:Lo d F K t b p l iv cs):W d F K cs l (.for t it (sl b)::p):=.for λR H Q s q=>x R H Q s λa c H' h s'=>q a c H' (h.1▸h.2▸k) s'
theorem Wi.lst{KI:IV->List Ch->Prop}(x:We d F (λv c=>∀X:Prop,(∀A vs,v= .ref A->Fact F c A (.list vs)->KI (.lst A) c->X)->X) cs l e):Mt F cs (λ(Q:IV->Hp->Prop) H=>ml Mine.G (acl d) (.seq e) l H Q) KI:=
 Mt.bind (f:=λv (Q:IV->Hp->Prop) H=>wv v H Q) x λv c h=>h _ λA vs e m k=>e▸ .pr k λR H s Q q'=>by show JO H[A]? _;rw [m R H s];exact q'
theorem W.f1{t:Nat}(x:Src d F cs l it iv)(P:Lf)(hn:∀k i,P.ok k i->Gives F iv vs k (P.D k i))(q:∀k i,aR t (P.L k i).length)(step:∀k v i K',vs[k]? = some v->P.ok k i->Nf P K' (k+1)->W d F (kb K K') (P.D k i) (st (P.L k i) t v) b)(fin:∀i,P.ok vs.length i->W d F K (P.D vs.length i) (P.L vs.length i) p)(i:P.ι)(h:P.ok 0 i)(hl:P.L 0 i=l)(hc:P.D 0 i=cs):W d F K cs l (.for [t] it (sl b)::p):=
 x.to (.fw P hn (λk v i K' hv o hk=>⟨_,wU<|q k i,step k v i K' hv o hk⟩) fin i h hl hc)
theorem Lo.f1{t:Nat}(P:Lf)(hn:∀k i,P.ok k i->Gives F iv vs k (P.D k i))(q:∀k i,aR t (P.L k i).length)(step:∀k v i K',vs[k]? = some v->P.ok k i->Nf P K' (k+1)->W d F (kb K K') (P.D k i) (st (P.L k i) t v) b)(fin:∀i,P.ok vs.length i->W d F K (P.D vs.length i) (P.L vs.length i) p)(i:P.ι)(h:P.ok 0 i)(hl:P.L 0 i=l)(hc:P.D 0 i=cs):Lo d F K [t] b p l iv cs:=
 .fw P hn (λk v i K' hv o hk=>⟨_,wU<|q k i,step k v i K' hv o hk⟩) fin i h hl hc
theorem W.f2{t t':Nat}(x:Src d F cs l it iv)(P:Lf)(hn:∀k i,P.ok k i->Gives F iv vs k (P.D k i))(q:∀k i,aR t (P.L k i).length)(q':∀k i,aR t' (P.L k i).length)(step:∀k v i K',vs[k]? = some v->P.ok k i->Nf P K' (k+1)->∃u w,v= .tup [u,w]/\W d F (kb K K') (P.D k i) (st (st (P.L k i) t u) t' w) b)(fin:∀i,P.ok vs.length i->W d F K (P.D vs.length i) (P.L vs.length i) p)(i:P.ι)(h:P.ok 0 i)(hl:P.L 0 i=l)(hc:P.D 0 i=cs):W d F K cs l (.for [t,t'] it (sl b)::p):=
 x.to (.fw P hn (λk v i K' hv o hk=>let ⟨u,w,e,h⟩:=step k v i K' hv o hk;⟨_,e▸KB (q k i) (q' k i),h⟩) fin i h hl hc)
theorem Src.aN(x:Ev d F cs l e (.int (n:Nat)))(q:n<=lim):Src d F cs l (.aN e) (.aN 0 n):=Mt.bind (f:=λv (Q:IV->Hp->Prop) H=>wz v λi=>0<=i/\i<=lim/\Q (.aN 0 i.toNat) H) (x (λv c=>v= .int (n:Nat)/\c=cs) ⟨ag0,ag0⟩) λv c h=>by rw [h.1,h.2];exact .pr (x:=IV.aN 0 n) ⟨ag0,ag0⟩ λR H s Q q'=>⟨c6 n,cz.mpr q,q'⟩
theorem Src.lst(x:Ev d F cs l e (.ref A))(m:Fact F cs A (.list vs)):Src d F cs l (.seq e) (.lst A):=Mt.bind (f:=λv (Q:IV->Hp->Prop) H=>wv v H Q) (x (λv c=>v= .ref A/\c=cs) ⟨ag0,ag0⟩) λv c h=>by rw [h.1,h.2];exact .pr (x:=IV.lst A) ⟨ag0,ag0⟩ λR H s Q q'=>by show JO H[A]? _;rw [m R H s];exact q'
theorem Src.tup(x:Ev d F cs l e (.tup vs)):Src d F cs l (.seq e) (.vals vs):=Mt.bind (f:=λv (Q:IV->Hp->Prop) H=>wv v H Q) (x (λv c=>v= .tup vs/\c=cs) ⟨ag0,ag0⟩) λv c h=>by rw [h.1,h.2];exact .pr (x:=IV.vals vs) ⟨ag0,ag0⟩ λR H s Q q'=>q'
theorem Gives.lst(m:Fact F cs A (.list vs)):Gives F (.lst A) vs k cs:=λR H s=>(agX (λo=>nxO o k)<|m R H s)
theorem Gives.aN:Gives F (.aN z n) ((aT n).map λ(j:Nat)=>V.int<|z+(j:Int)) k cs:=λR H s=>JQ
theorem Gives.tup:Gives F (.vals vs) vs k cs:=λR H s=>ag0
theorem Ev.fB(x:Ev d F cs l e1 (.ref A))(y:Ev d F cs l e2 (.int z))(m:Fact F cs A (.list us))(s:small z)(q:fP us z=some v):Ev d F cs l (Pl.pr .item [e1,e2]) v:=λK k=>We.pr (.two x y)<|.pr k λR H s' Q q'=>(BI (m R H s') s q).mpr q'
theorem Ev.bT(x:Ev d F cs l e1 (.tup us))(y:Ev d F cs l e2 (.int z))(s:small z)(q:fP us z=some v):Ev d F cs l (Pl.pr .item [e1,e2]) v:=λK k=>We.pr (.two x y)<|.pr k λR H s' Q q'=>(dK (p:=.item) (vs:=[.tup us,.int z]) (w:=v) (h':=H)<|(agX (dq (·,H)) ((if_pos s).trans q):dq (·,H) (if small z then fP us z else none)=some (v,H))).mpr q'
end
variable{l m:List Kv}{e:Kv}{p:Nat}
section
variable{r:List Kv}
theorem wV(q:e.1=n):fV (e::r) n=some 0:=if_pos q
theorem sX(q:¬e.1=n):fV (e::r) n=(fV r n).map (· + 1):=if_neg q
theorem kg(q:e.1=n):lk (e::r) n=some e.2:=if_pos q
theorem im(q:¬e.1=n):lk (e::r) n=lk r n:=if_neg q
theorem sY:∀(l:List Kv) (n:Int) {P:Prop},(fV l n=none->lk l n=none->P)->(∀i v,fV l n=some i->lk l n=some v->l[i]? = some (n,v)->P)->P
 | [],_,_,h,_=>h ag0 rfl
 |e::r,n,_,h0,h1=>if q:e.1=n then h1 0 e.2 (wV q) (kg q) (agX some<|q▸rfl) else
  sY r n (λa b=>h0 ((sX q).trans<|agX (dq (· + 1)) a)<|(im q).trans b) λi v a b c=>h1 (i+1) v ((sX q).trans<|agX (dq (· + 1)) a) ((im q).trans b)<|tS.trans c
end
theorem lB(h:k<=4000):small (k:Int):=⟨aL (by decide)<|c6 k,aL (cz.mpr h)<|by decide⟩
theorem lF(e:vs[j]? = some v):fP vs (j:Int)=some v:=(if_pos<|c6 j).trans e
theorem sZ{n:Nat}(h:((aT n).map λ(j:Nat)=>V.int (0+(j:Int)))[k]? = some v){P:Prop}(g:k<n->v= .int k->P):P:=by rw [fb] at h;obtain ⟨j,h1,h2⟩:=bF.mp h;obtain ⟨h3,h4⟩:=fF.mp h1;rw [Ew] at h4;exact g (lU h3 c5) (h2.symm.trans (by rw [h4,dR]))
theorem KC{α:Type}{l:List α}{e:α}(h:l[k]? = some e):l.drop k=e::l.drop (k+1):=by obtain ⟨h1,h2⟩:=fF.mp h;rw [List.drop_eq_getElem_cons h1,h2]
theorem acE{α β:Type}{f:α->β}{l:List α}(h:k<(l.map f).length):∃e,l[k]? = some e/\(l.map f)[k]? = some (f e):=
 have h:k<l.length:=aG f▸h
 ⟨l[k],de h,(fb).trans (agX (dq f)<|de h)⟩
def pfP(cs:List Ch)(p:Nat)(l:List Kv)(n:Int):Lf:=⟨Option V,λ_ i=>[some (.ref p),some<|.int n,i,none,none],λ_ _=>cs,λk _=>fV l n=(fV (l.drop k) n).map (· + k)⟩
theorem wW(h:Fact F cs p (.list<|l.map d8))(hl:l.length<=100):Co (d+1) F 48 [.ref p,.int n] cs (.int (Pl.fI<|fV l n)) cs:=λK kk=>by
 have hl':(l.map d8).length<=4000:=ae (aF<|aG _) (ae hl<|by decide);refine aw Z9 rfl<|.f1 (.aN (.len (.lo ag0) h) hl') (pfP cs p l n) (λ_ _ _=>.aN) (λ_ _=>ag0) (λk v i K' hv o hk=>sZ hv λhk' ev=> ?_) (λi o=> ?_) none ?_ ag0 rfl
 ·obtain ⟨e,h1,h2⟩:=acE hk';rw [ev];have o:fV l n=(fV (l.drop k) n).map (· + k):=o;rw [KC h1] at o;refine .ite (.cm (.bT (.fB (.lo rfl) (.lo rfl) h (lB (ae (cV hk') hl')) (lF h2)) .k (by decide) rfl) (.lo rfl) rfl) (λq=>.ret (.lo rfl) ?_) λq=>.nil (hk _ ?_)
  ·rw [wV (agY q)] at o;exact (agX (λf=>K (.int (Pl.fI f)) cs) (o.trans (agX some (jF k)))).mp kk
  ·exact o.trans ((agX (dq (· + k)) (sX<|of_decide_eq_false q)).trans<|(Option.map_map _ _ _).trans (agX (λg=>dq g<|fV (l.drop<|k+1) n)<|funext λj=>gX j 1 k))
 ·have o:fV l n=(fV (l.drop _) n).map _:=o;rw [aG,c5,aG,Px] at o;exact .ret (.neg .k)<|(agX (λf=>K (.int<|Pl.fI f) cs) o).mp kk
 ·exact Option.map_id'.symm
variable{c R:Ch}{K:VK}{l:Loc}{e:E}{ws:List V}{n:Nat}{m:(V->Hp->Prop)->Hp->Prop}{p:List S}
theorem Fact.wk(f:Fact F cs a o):Fact F (c::cs) a o:=λR H s=>f (c++R) H<|Sat.perm s (by rw [rB,aJ,aJ];exact eW _ _ _)
def En(d:Nat)(F:Ch)(cs:List Ch)(l:Loc)(e:E)(us:List V):Prop:=∀K:VK,(∀a,K (.ref a) ([(a,.list us)]::cs))->We d F K cs l e
section
variable{a b:E}{f:Nat}
theorem Hs.drop(s:Hs F R cs H)(i:Nat):Hs F R (cR cs i) H:=Sat.right (Sat.perm s<|((lz cs i).append_right _).trans (.of_eq<|aJ _ _ _))
theorem Mt.dk{α:Type}{m:(α->Hp->Prop)->Hp->Prop}{K:α->List Ch->Prop}(i:Nat)(x:Mt F cs m λa c=>K a<|cR c i):Mt F cs m K:=λR H Q s q=>x R H Q s λa c' H' k s'=>q a _ H' k<|s'.drop i
theorem Mt.mk(k:∀a,K (.ref a) ([(a,.list us)]::cs))(h:∀R H,Hs F R cs H->∀Q:V->Hp->Prop,Q (.ref H.length) (H++ [.list us])->m Q H):Mt F cs m K:=λR H Q s q=>h R H s Q<|q _ _ _ (k H.length) s.new
theorem En.ls(xs:cI d F cs l es vs)(q:vs.length<=lim):En d F cs l (Pl.pr .list es) vs:=λK k=>.ls xs q k
theorem En.to(x:Ev d F cs l a (.ref A))(y:Ev d F cs l b (.int z))(m:Fact F cs A (.list us))(q:0<=z/\z<=lim)(q2:(us.take z.toNat).length<=lim):En d F cs l (Pl.pr .sliceTo [a,b]) (us.take z.toNat):=λK k=>We.pr (.two x y)<|.mk k λR H s Q q'=>(abQ (m R H s) q q2).mpr q'
theorem En.from(x:Ev d F cs l a (.ref A))(y:Ev d F cs l b (.int z))(m:Fact F cs A (.list us))(q:0<=z/\z<=lim)(q2:(us.drop z.toNat).length<=lim):En d F cs l (Pl.pr .sliceFrom [a,b]) (us.drop z.toNat):=λK k=>We.pr (.two x y)<|.mk k λR H s Q q'=>(abR (m R H s) q q2).mpr q'
theorem We.p2(x:We d F (λv c=>We d F (λw c'=>Wp F K c' pp [v,w]) c l b) cs l a):We d F K cs l (Pl.pr pp [a,b]):=
 Mt.bind (f:=λv Q H=>cM Mine.G (acl d) (el [b]) l H λvs h2=>aQ Mine.G pp (v::vs) h2 Q) x λv c h=>Mt.bind (f:=λw Q H=>aQ Mine.G pp [v,w] H Q) h λw c' h=>h
theorem Wp.bT(s:small z)(q:fP us z=some u)(k:K u cs):Wp F K cs .item [.tup us,.int z]:=.pr k λR H _ Q q'=>(dK (p:=.item) (vs:=[.tup us,.int z]) (w:=u) (h':=H)<|(agX (dq (·,H)) ((if_pos s).trans q):dq (·,H) (if small z then fP us z else none)=some (u,H))).mpr q'
theorem En.ad(x:En d F cs l a us)(y:∀c,En d F (c::cs) l b ws)(q:(us++ws).length<=lim):En d F cs l (Pl.pr .add [a,b]) (us++ws):=λK k=>.p2<|x _ λA=>y _ _ λB=>Mt.dk 1 (Mt.dk 1<|.mk k λR H s Q q'=>(BJ (Fact.ix 1 ag0 R H s) (Fact.ix 0 ag0 R H s) q).mpr q')
theorem En.al(x:Ev d F cs l a (.ref A))(m:Fact F cs A (.list us))(y:En d F cs l b ws)(q:(us++ws).length<=lim):En d F cs l (Pl.pr .add [a,b]) (us++ws):=λK k=>.p2<|x _ (y _ λB=>Mt.dk 1<|.mk k λR H s Q q'=>(BJ (m.wk R H s) (Fact.ix 0 ag0 R H s) q).mpr q')
end
section
variable{K:SK}
theorem W.rn(x:En d F cs l e us)(k:∀a,K (.ret<|.ref a,l) ([(a,.list us)]::cs)):W d F K cs l (.ret e::p):=.s<|Mt.bind (f:=λv Q H=>Q (Fl.ret v,l) H) (x (λv c=>K (.ret v,l) c) k) λv c h=>.ret h
theorem W.an(x:En d F cs l e us)(q:aR i l.length)(k:∀a,W d F K ([(a,.list us)]::cs) (st l i<|.ref a) p):W d F K cs l (ak i e::p):=.bS (x _ k) q
end
section
variable{p:Nat}{l m:List Kv}{n:Int}{e:Kv}
theorem dL{n:Nat}(h:n<=1000):n<=lim:=ae h<|au ag0
theorem lG{α:Type}{us ws:List α}(h1:us.length<=a)(h2:ws.length<=b):(us++ws).length<=a+b:=aX▸jK h1 h2
theorem B3{α:Type}{us:List α}(n:Nat)(h:us.length<=100):(us.take n).length<=100:=ae (t9 n us) h
theorem KD{α:Type}{us:List α}(n:Nat)(h:us.length<=100):(us.drop n).length<=100:=ae (aF iA)<|ae (lQ _ _) h
theorem KE(h:i<=1000):(0:Int)<=(i:Int)/\(i:Int)<=(lim:Nat):=⟨c6 i,cz.mpr<|dL h⟩
theorem KG(h:Fact F cs p (.list (l.map d8)))(hl:l.length<=100):Co (d+2) F 49 [.ref p,.int n] cs (match lk l n with|some v=>.tup [v]|none=>.none) cs:=λK kk=>by
 refine aw Z' ag0 (.as (.ca (.two (.lo ag0)<|.lo ag0)<|wW h hl) rfl<|sY l n (λa b=> ?_) λi v a b c=> ?_)
 ·rw [b] at kk;rw [a];exact .ret (.eg (.cm (.lo ag0) .k ag0) .k) kk
 ·rw [b] at kk;rw [a];have hi:i<l.length:=(fF.mp c).1;exact .ret (.dp (.cm (.lo ag0) .k (agX some (agZ (c6 i)))) (.tp (.one (.bT (.fB (.lo ag0) (.lo ag0) h (lB (ae (cV hi) (ae hl (by decide)))) (lF ((fb).trans (agX (dq d8) c)))) .k (by decide) ag0)) (au ag0))) kk
theorem KH:∀{l:List Kv},fV l n=none->dY l n v=l++ [(n,v)]
 | [],_=>rfl
 |e::r,h=>if q:e.1=n then nomatch (wV q).symm.trans h else (if_neg q).trans (agX (gI e)<|KH (Option.map_eq_none_iff.mp<|(sX q).symm.trans h))
theorem KJ:∀{l:List Kv} {i:Nat},fV l n=some i->dY l n v=l.take i++([(n,v)]++l.drop (i+1))
 |e::r,i,h=>if q:e.1=n then (av ((wV q).symm.trans h))▸if_pos q else by obtain ⟨j,a,b⟩:=bF.mp ((sX q).symm.trans h);rw [<- b];exact (if_neg q).trans (agX (gI e) (KJ a))
theorem KL(h:Fact F cs p (.list<|l.map d8))(hl:l.length<100)(k:∀q,K (.ref q) ([(q,.list<|(dY l n v).map d8)]::cs)):Cl (d+2) F K cs 50 [.ref p,.int n,v]:=by
 have hle:l.length<=100:=cV hl;have hm:(l.map d8).length<=100:=ae (aF<|aG _) hle;refine aw g50 ag0 (.as (.ca (.two (.lo ag0)<|.lo ag0)<|wW h hle) rfl<|sY l n (λa b=> ?_) λi u a b c=> ?_)
 ·rw [a];rw [KH a,bK] at k;exact .it (.cm (.lo ag0) .k ag0) (.rn (.al (.lo ag0) h (.ls (.one (.tp (.two (.lo ag0) (.lo ag0)) (au ag0))) (au ag0)) (ae (lG (b:=1) hm (cf _)) (au ag0))) k)
 ·rw [a];rw [KJ a,bK,bK,N1,List.map_drop] at k;have hi:i<l.length:=(fF.mp c).1;have hi':i<=1000:=ae (cV hi) (ae hle (by decide));refine .el (.cm (.lo ag0) .k (agX some (decide_eq_false (cH.mpr (c6 i))))) (.rn (.ad (.ad (.to (.lo ag0) (.lo ag0) h (KE hi') (dL (ae (B3 i hm) (by decide)))) (λ_=>.ls (.one (.tp (.two (.lo ag0) (.lo ag0)) (au ag0))) (au ag0)) (ae (lG (b:=1) (B3 i hm) (cf _)) (au ag0))) (λ_=>.from (.lo ag0) (.add (.lo ag0) .k) h.wk (KE (i:=i+1) (ES (bC hi (ae hle (by decide))))) (dL (ae (KD _ hm) (by decide)))) (ae (lG (lG (b:=1) (B3 i hm) (cf _)) (KD _ hm)) (au ag0))) λq=>(agX (λu=>K (.ref q) ([(q,.list u)]::cs)) (aJ _ _ _).symm).mp (k q))
end
variable{k:Bool}{t m:Nat}{op:Op}{fs:List V}{X:Prop}
theorem acG{a b:Int}(h:V.int a=V.int b):a=b:=by cases h;rfl
theorem tupI{a b:List V}(h:V.tup a=V.tup b):a=b:=by cases h;rfl
theorem KM(h:V.ref a=V.ref b):a=b:=by cases h;rfl
noncomputable def sy(n:Nat):V:=.tup [.str 10,.int n]
def B4:V:=.tup [.str 11,sy 21,sy 22]
inductive PV:V->Prop
 |n:PV .none
 |s (n:Nat):PV (sy n)
 |l:PV B4
def Rd(F:Ch)(cs:List Ch)(P:Ch):Prop:=∀q∈P,Fact F cs q.1 q.2
inductive TV(P:Ch):V->Prop
 |n:TV P .none
 |t (a:Nat) (fs:List V) (m:(a,O.inst 9 fs)∈P):TV P (.ref a)
def VP(P:Ch):Bool->V->Prop
 |false,v=>PV v
 |true,v=>TV P v
section
variable{a b:E}{P:Ch}
theorem Ev.cv(p:Ev d F cs l a v)(r:Ev d F cs l b w)(q:∀R H,Hs F R cs H->bR H op v w=some tt):Ev d F cs l (Pl.cm op a b) (.bool tt):=λK k=>We.pr (.two p r) (.pr k λR H s Q q'=>by show wr (bR H op v w) H Q;rw [q R H s];exact q')
theorem Ev.KO(p:Ev d F cs l a v)(q:∀R H,Hs F R cs H->jV H v=some t):Ev d F cs l (Pl.pr .isBool [a]) (.bool<|t == 1):=λK k=>We.pr (.one p) (.pr k λR H s Q q'=>by show JT (jV H v) (λt=>t == 1) H Q;rw [q R H s];exact q')
theorem acH(e:sy n=sy m):n=m:=uv<|acG (bt (bt<|tupI e).2).1
theorem acI(ha:PV v)(hb:PV w){P:Prop}(g:∀r,(∀H,bR H .eq v w=some r)->(r=true↔v=w)->P):P:=by
 cases ha<;>cases hb
 ·exact g true (λ_=>ag0) ⟨λ_=>ag0,λ_=>ag0⟩
 iterate 3 exact g false (λ_=>ag0) ⟨nofun,nofun⟩
 ·rename_i n m;exact g (decide<|(n:Int)=m) (λ_=>agX some<|oY _) ⟨λh=>agX (λi=>V.tup [.str 10,.int i])<|agY h,λh=>agZ (agX yU<|acH h)⟩
 ·exact g false (λ_=>ag0) ⟨nofun,λh=>nomatch (bt<|tupI h).1⟩
 ·exact g false (λ_=>ag0) ⟨nofun,nofun⟩
 ·exact g false (λ_=>ag0) ⟨nofun,λh=>nomatch (bt<|tupI h).1⟩
 ·exact g true (λ_=>ag0) ⟨λ_=>ag0,λ_=>ag0⟩
theorem B5{a:Nat}(e:H[a]? = some (.inst 9 fs)):jV H (.ref a)=some 109:=(agX (jJ · FV) e).trans ag0
theorem acJ{a:Nat}(e:H[a]? = some (.inst 9 fs)):bR H .eq .none (.ref a)=some false:=(agX (jJ · n9) e).trans ag0
theorem acK{a:Nat}(e:H[a]? = some (.inst 9 fs)):bR H .eq (.ref a) .none=some false:=(agX (jJ · n9) e).trans ag0
theorem acL{a b:Nat}{gs:List V}(e:H[a]? = some (.inst 9 fs))(e':H[b]? = some (.inst 9 gs)):bR H .eq (.ref a) (.ref b)=some (decide<|a=b):=(agX (jJ · λo=>H[b]?.bind λo'=>nJ (eJ H 7) a b o o') e).trans<|(agX (jJ · (nJ (eJ H 7) a b<|.inst 9 fs)) e').trans ag0
theorem acM(hP:Rd F cs P):∀{v w:V},TV P v->TV P w->(g:∀r,(∀R H,Hs F R cs H->bR H .eq v w=some r)->(r=true↔v=w)->X)->X
 |_,_,.n,.n,g=>g true (λ_ _ _=>ag0) ⟨λ_=>ag0,λ_=>ag0⟩
 |_,_,.n,.t b gs m,g=>g false (λR H s=>acJ<|hP _ m R H s) ⟨nofun,nofun⟩
 |_,_,.t a fs m,.n,g=>g false (λR H s=>acK<|hP _ m R H s) ⟨nofun,nofun⟩
 |_,_,.t a fs m,.t b gs m',g=>g (decide<|a=b) (λR H s=>acL (hP _ m R H s)<|hP _ m' R H s) ⟨λh=>agX V.ref<|agY h,λh=>agZ<|KM h⟩
theorem B6(hP:Rd F cs P)(ha:VP P k v)(hb:VP P k w)(g:∀r,(∀R H,Hs F R cs H->bR H .eq v w=some r)->(r=true↔v=w)->X):X:=by
 cases k
 ·exact acI ha hb λr e i=>g r (λ_ H _=>e H) i
 ·exact acM hP ha hb g
theorem acN:∀{v:V},PV v->(∀t,(∀H,jV H v=some t)->(t == 1)=false->X)->X
 |_,.n,g=>g 0 (λ_=>ag0) ag0
 |_,.s _,g=>g 4 (λ_=>ag0) ag0
 |_,.l,g=>g 4 (λ_=>ag0) ag0
theorem acO(hP:Rd F cs P):∀{v:V},TV P v->(∀t,(∀R H,Hs F R cs H->jV H v=some t)->(t == 1)=false->X)->X
 |_,.n,g=>g 0 (λ_ _ _=>ag0) ag0
 |_,.t a fs m,g=>g 109 (λR H s=>B5<|hP _ m R H s) ag0
theorem KP(hP:Rd F cs P)(ha:VP P k v)(g:∀t,(∀R H,Hs F R cs H->jV H v=some t)->(t == 1)=false->X):X:=by
 cases k
 ·exact acN ha λt e=>g t λ_ H _=>e H
 ·exact acO hP ha g
theorem wX(hP:Rd F cs P)(ha:VP P k v)(hb:VP P k w)(kk:∀r,(r=true↔v=w)->K (.bool r) cs):Cl (d+1) F K cs 47 [v,w]:=
 B6 hP ha hb λr e i=>KP hP ha λt t1 t2=>KP hP hb λu u1 u2=>
  aw Z8 ag0 (.el (.iS (t2▸Ev.KO (.lo ag0) t1)<|u2▸Ev.KO (.lo ag0) u1) (.ret (.cv (.lo ag0) (.lo ag0) e)<|kk r i))
end
variable{a b:E}{m:List Kv}{n:Int}
theorem We.cS(x:Ev d F cs l a (.bool true))(y:We d F K cs l b):We d F K cs l (.and a b):=x.wb (e2:=.cst<|.bool false) y
theorem We.ew(x:Ev d F cs l a (.bool false))(k:K (.bool false) cs):We d F K cs l (.and a b):=x.ew K k
def ntK(K:VK):VK:=λv c=>match v with
 | .bool b=>K (.bool<|!b) c
 |_=>False
theorem We.not(x:We d F (ntK K) cs l a):We d F K cs l (.not a):=Mt.bind (f:=λv Q H=>wt v H Q) x λv c h=>match v,h with
 | .bool b,h=>.ret h
section
variable{K:SK}{s1 s2:List S}
theorem W.rw(x:We d F (λv c=>K (.ret v,l) c) cs l e):W d F K cs l (.ret e::p):=.s<|Mt.bind (f:=λv Q H=>Q (Fl.ret v,l) H) x λv c h=>.ret h
def tsK(d:Nat)(F:Ch)(K:SK)(l:Loc)(s1 s2:List S):VK:=λv c=>match v with
 | .bool true=>W d F K c l s1
 | .bool false=>W d F K c l s2
 |_=>False
theorem W.iT(x:We d F (tsK d F K l (s1++p)<|s2++p) cs l e):W d F K cs l (.ite e (sl s1) (sl s2)::p):=
 Mt.bind (f:=λv Q H=>wb v (bP Mine.G (acl d) (sl s1) l H (wk (λf l' H'=>Q (f,l') H') λl h=>bP Mine.G (acl d) (sl p) l h λf l' H'=>Q (f,l') H')) (bP Mine.G (acl d) (sl s2) l H (wk (λf l' H'=>Q (f,l') H') λl h=>bP Mine.G (acl d) (sl p) l h λf l' H'=>Q (f,l') H'))) x λv c h=>match v,h with
  | .bool true,h=>W.app h
  | .bool false,h=>W.app h
end
structure TP(P:Ch)(p:Nat)(l:List Kv):Prop where
 m:(p,O.list (l.map d8))∈P
 len:l.length<=100
 nd:(l.map (·.1)).Nodup
 ty:∀e∈l,VP P (kd e.1) e.2
section
variable{l:List Kv}{e:Kv}
theorem jQ:∀{l:List Kv},lk l n=some v->(n,v)∈l
 |e::r,h=>if q:e.1=n then by
  have:=av<|(kg q).symm.trans h;rw [<- this, <- q];exact .head _
  else .tail _ (jQ<|(im q).symm.trans h)
theorem B7:∀{l:List Kv},(l.map (·.1)).Nodup->e∈l->lk l e.1=some e.2
 |g::r,nd,h=>by obtain ⟨n1,n2⟩:=dF.mp nd;refine (aO.mp h).elim (λq=>q▸kg rfl) λh=>(im λq=>n1 ?_).trans (B7 n2 h);exact bB.mpr ⟨e,h,q.symm⟩
theorem KQ:∀{l m:List Int},l.Nodup->(∀x∈l,x∈m)->m.length<=l.length->∀x∈m,x∈l
 | [],m,_,_,h,x,hx=>kA (Py.mp h)▸hx
 |a::l,m,nd,hs,h,x,hx=>if q:x=a then q▸ .head _ else by obtain ⟨n1,n2⟩:=dF.mp nd;refine .tail _ (KQ n2 (λy hy=>(ET (show y≠a from λe=>n1 (e▸hy))).mpr (hs y (.tail _ hy))) ?_ x ((ET q).mpr hx));rw [Pz (hs a (.head _))];exact Nat.sub_le_of_le_add h
theorem B8(h:lk l n=some v):n∈l.map (·.1):=bB.mpr ⟨_,jQ h,ag0⟩
theorem mf(h:n∉l.map (·.1)):lk l n=none:=by
 cases q:lk l n with
 |none=>rfl
 |some v=>exact absurd (B8 q) h
theorem KU(nd:(l.map (·.1)).Nodup)(h:n∈l.map (·.1)):∃v,lk l n=some v:=by obtain ⟨e,he,rfl⟩:=bB.mp h;exact ⟨_,B7 nd he⟩
theorem acR(n1:(l.map (·.1)).Nodup)(n2:(m.map (·.1)).Nodup)(hl:l.length=m.length)(h:∀e∈l,lk m e.1=some e.2)(n:Int):lk l n=lk m n:=by
 cases q:lk l n with
 |some v=>exact (h _<|jQ q).symm
 |none=>
  refine (mf λk=> ?_).symm;have hs:∀x∈l.map (·.1),x∈m.map (·.1):=λx hx=>by obtain ⟨e,he,rfl⟩:=bB.mp hx;exact B8 (h e he)
  obtain ⟨v,e⟩:=KU n1 (KQ n1 hs (by rw [aG,aG,hl];exact cf _) n k);rw [q] at e;cases e
theorem acS(n1:(l.map (·.1)).Nodup)(n2:(m.map (·.1)).Nodup)(h:∀n,lk l n=lk m n):l.length=m.length:=by
 have key:∀{l m:List Kv},(l.map (·.1)).Nodup->(∀n,lk l n=lk m n)->∀x∈l.map (·.1),x∈m.map (·.1):=λn1 h x hx=>by obtain ⟨v,e⟩:=KU n1 hx;exact B8 ((h x).symm.trans e)
 have:=(List.perm_ext_iff_of_nodup n1 n2).mpr λx=>⟨key n1 h x,key n2 (λn=>(h n).symm) x⟩;exact (aG _).symm.trans (this.length_eq.trans<|aG _)
end
variable{p k:Nat}{l:List Kv}{e:Kv}
section
variable{P:Ch}
theorem acT(h:k<=100):small (k:Int):=lB (ae h<|by decide)
theorem KW(hP:Rd F cs P)(h:TP P p l)(ht:∀u,lk l n=some u->∃k,VP P k u/\VP P k v)(kk:∀r,(r=true↔lk l n=some v)->K (.bool r) cs):Cl (d+2) F K cs 51 [.ref p,.int n,v]:=by
 have hp:=hP _ h.m;refine aw JB ag0 (.as (.ca (.two (.lo ag0)<|.lo ag0)<|wW hp h.len) rfl<|sY l n (λa b=> ?_) λi u a b c=> ?_)
 ·rw [a];rw [b] at kk;exact .ret (.ew (.cm (.lo ag0) .k ag0)) (kk false ⟨nofun,nofun⟩)
 ·rw [a];rw [b] at kk;obtain ⟨k,k1,k2⟩:=ht u b;have hi:i<=100:=ae (cV (fF.mp c).1) h.len;exact .rw (.cS (.cm (.lo rfl) .k (agX some (agZ (c6 i)))) (.ca (.two (.bT (.fB (.lo rfl) (.lo rfl) hp (acT hi) (lF ((fb).trans (agX (dq d8) c)))) .k (by decide) rfl) (.lo rfl)) (wX hP k1 k2 λr i=>kk r (i.trans ⟨agX some,av⟩))))
def spP(cs:List Ch)(p q:Nat)(l m:List Kv):Lf:=⟨Option V×Option V,λ_ i=>[some (.ref p),some<|.ref q,i.1,i.2,none,none],λ_ _=>cs,λk _=>∀e∈l.take k,lk m e.1=some e.2⟩
theorem take_snoc{α:Type}{l:List α}{e:α}(h:l[k]? = some e):l.take (k+1)=l.take k++ [e]:=List.take_add_one.trans<|h▸rfl
theorem kh{α β:Type}{f:α->β}{l:List α}{v:β}(h:(l.map f)[k]? = some v)(g:∀e,l[k]? = some e->v=f e->X):X:=
 let ⟨e,h1,h2⟩:=bF.mp ((fb).symm.trans h)
 g e h1 h2.symm
theorem KY(hP:Rd F cs P)(h1:TP P p l)(h2:TP P q m)(kk:∀r,(r=true↔∀n,lk l n=lk m n)->K (.bool r) cs):Cl (d+3) F K cs 52 [.ref p,.ref q]:=by
 have e1:=hP _ h1.m;have e2:=hP _ h2.m;refine aw g52 ag0 (.ite (.cm (.len (.lo ag0) e1) (.len (.lo ag0) e2) ag0) (λc=>.ret .k<|kk false ⟨nofun,λh=>absurd (agX Int.ofNat<|acS h1.nd h2.nd h) ?_⟩) λc=>.f2 (.lst (.lo ag0) e1) (spP cs p q l m) (λ_ _ _=>.lst e1) (λ_ _=>ag0) (λ_ _=>ag0) (λk v i K' hv o hk=>kh hv λe he ev=>⟨_,_,ev,.iT<|.not (.ca (.cons (.lo ag0)<|.cons (.lo ag0) (.one<|.lo ag0))<|KW hP h2 (λu hu=>⟨kd e.1,h2.ty _<|jQ hu,h1.ty e<|cG he⟩) λr hr=> ?_)⟩) (λi o=>.ret .k<|kk true ⟨λ_=>acR h1.nd h2.nd ?_ λe he=>o e ?_,λ_=>ag0⟩) (none,none) (λe he=>nomatch he) ag0 rfl)
 ·have:=agY c;rw [aG,aG] at this;exact this
 ·cases r with
  |false=>exact .ret .k<|kk false ⟨nofun,λh=>hr.mpr<|(h e.1).symm.trans (B7 h1.nd<|cG he)⟩
  |true=>exact .nil (hk (some<|.int e.1,some e.2) λg hg=>by rw [take_snoc he] at hg;exact (b9.mp hg).elim (o g) λhg=>(cr.mp hg)▸hr.mp ag0)
 ·have:=of_decide_eq_false c;rw [aG,aG] at this;exact uv<|PA.mp this
 ·rw [aG,kH];exact he
end
variable{P':Ch}{f f':Int->Int->Option V}{L post:List aS}{b sz j:Int}{T' t:Tr Iv}{e:aS}{pa a:Nat}{c:List (Fr Iv)}
theorem oi:∀(t:Tr Iv) {pre post:List aS} {e:aS},aq t=pre++e::post->∃c l r,up c (.nd e.1 e.2 l r)=t/\bh c++aq l=pre/\aq r++bE c=post
 | .nil,pre,_,_,h=>nomatch (Pu.mp h.symm).2
 | .nd a x l r,pre,post,e,h=>match yV.mp (show aq l++(a,x)::aq r=pre++e::post from h) with
  | .inl ⟨[],e1,e2⟩=>(bt e2).1▸⟨[],l,r,ag0,(e1.trans<|bc _).symm,(bc _).trans (bt e2).2⟩
  | .inl ⟨g::u,e1,e2⟩=>
   let ⟨c,l',r',h1,h2,h3⟩:=oi r (bt e2).2
   ⟨c++ [⟨false,a,x,l⟩],l',r',(qm (c':=[⟨false,a,x,l⟩]) c _).trans<|agX (Tr.nd a x l) h1,by rw [qo,e1, <- (bt e2).1,aJ,h2];exact aJ (aq l) [(a,x)] u,(agX (aq r'++ ·) ((qp c).trans<|bc _)).trans h3⟩
  | .inr ⟨[],e1,e2⟩=>(bt e2).1▸⟨[],l,r,ag0,e1.trans<|bc _,(bc _).trans (bt e2).2.symm⟩
  | .inr ⟨g::u,e1,e2⟩=>
   let ⟨c,l',r',h1,h2,h3⟩:=oi l (e1.trans (agX (λg=>pre++g::u) (bt e2).1.symm))
   ⟨c++ [⟨true,a,x,r⟩],l',r',(qm (c':=[⟨true,a,x,r⟩]) c _).trans<|agX (Tr.nd a x · r) h1,(agX (· ++ aq l')<|qo (C:=[⟨true,a,x,r⟩]) c).trans h2,by rw [qp, <- aJ,h3];exact (agX (u++(a,x):: ·)<|bc _).trans (bt e2).2.symm⟩
structure TK(P:Ch)(p:Nat)(l:List Kv):Prop where
 tp:TP P p l
 ks:∀e∈l,e.1∈ [(10:Int),11,12]
def s6(P:Ch)(f:Int->Int->Option V)(b:Int)(e:aS):Prop:=∃l,TK P e.2.2 l/\∀i,b<=i->i<b+e.2.1->∀n,lk l n=f i n
def SG(P:Ch)(f:Int->Int->Option V):Int->List aS->Prop
 |_,[]=>True
 |b,e::r=>s6 P f b e/\SG P f (b+e.2.1) r
structure TS(P:Ch)(sz:Int)(f:Int->Int->Option V)(T:Tr Iv):Prop where
 ps:Pos (aq T)
 sm:kI.su T=sz
 sg:SG P f 0 (aq T)
section
variable{P:Ch}{pre:List aS}{T l:Tr Iv}
theorem SG.app:∀{L:List aS} {b:Int},SG P f b (L++M)↔SG P f b L/\SG P f (b+az L) M
 | [],b=>⟨λh=>⟨trivial,(dS b).symm▸h⟩,λh=>(dS b)▸h.2⟩
 |e::L,b=>⟨λh=>have g:=SG.app.mp h.2;⟨⟨h.1,g.1⟩,(c7 b e.2.1<|az L)▸g.2⟩,λh=>⟨h.1.1,SG.app.mpr ⟨h.1.2,(c7 b e.2.1<|az L).symm▸h.2⟩⟩⟩
theorem Rd.ix(i:Nat)(m:nt cs i=P):Rd F cs P:=λq k=>.cx (gy cs i<|m▸k)
theorem Rd.at(h:Rd F cs P)(m:(a,o)∈P):Fact F cs a o:=h (a,o) m
theorem TS.len(h:TS P sz f T)(hz:sz<=100):(aq T).length<=100:=by
 have key:∀L:List aS,Pos L->(L.length:Int)<=az L:=λL=>by
  induction L with
  |nil=>exact λ_=>eU _
  |cons e L ih=>exact λh=>aL (lW<|fG (L.length:Int) 1)<|N4 (h e<|.head _) (ih λg m=>h g<|.tail _ m)
 exact cz.mp (aL (key _ h.ps)<|aL (lW<|(gz T).trans h.sm) hz)
theorem TS.at(h:TS P sz f T)(hi:aq T=pre++e::post):s6 P f (az pre) e:=(dR<|az pre)▸(SG.app.mp (hi▸h.sg:SG P f 0 (pre++e::post))).2.1
theorem VP.mono(s:∀q∈P,q∈P'):∀{k:Bool} {v:V},VP P k v->VP P' k v
 |false,_,h=>h
 |true,_,h=>match (show TV P _ from h) with
  | .n=>TV.n
  | .t a fs m=>TV.t a fs<|s _ m
theorem TP.mono{l:List Kv}(s:∀q∈P,q∈P')(h:TP P p l):TP P' p l:=⟨s _ h.m,h.len,h.nd,λe he=>(h.ty e he).mono s⟩
theorem s6.mono(s:∀q∈P,q∈P')(h:s6 P f b e):s6 P' f b e:=let ⟨l,h1,h2⟩:=h;⟨l,⟨h1.tp.mono s,h1.ks⟩,h2⟩
theorem SG.mono(s:∀q∈P,q∈P'):∀{L:List aS} {b:Int},SG P f b L->SG P' f b L
 | [],_,_=>trivial
 |_::_,_,h=>⟨h.1.mono s,SG.mono s h.2⟩
end
variable{l:Tr Iv}{g:aS}
section
variable{P:Ch}{pre:List aS}{T:Tr Iv}{lg le:List Kv}
theorem ip:az (L++e::M)=az L+(e.2.1+az M):=ju L (e::M)
theorem TS.join(h:TS P sz f T)(hi:aq T=L++g::e::post)(g1:TK P g.2.2 lg)(g2:∀i,az L<=i->i<az L+g.2.1->∀n,lk lg n=f i n)(e2:∀i,az (L++ [g])<=i->i<az (L++ [g])+e.2.1->∀n,lk le n=f i n)(same:∀n,lk lg n=lk le n)(hi':aq T'=L++(g.1,g.2.1+e.2.1,g.2.2)::post):TS P sz f T':=by
 have hs:=h.sg;rw [hi] at hs;obtain ⟨s1,-,-,s2⟩:=SG.app.mp hs;have e3:az (L++ [g])=az L+g.2.1:=ip.trans (agX (az L+ ·) (dS _));rw [e3] at e2;refine ⟨hi'▸ ?_, ?_,hi'▸SG.app.mpr ⟨s1,⟨lg,g1,λi a1 a2 n=> ?_⟩, ?_⟩⟩
 ·have hp:=h.ps;rw [hi] at hp;exact λu m=>(b9.mp m).elim (λm=>hp u<|cJ _ m) λm=>(aO.mp m).elim (λq=>q▸aL (hp g (bp _<|.head _)) (jc<|aL (by decide) (hp e<|bp _ (.tail _<|.head _)))) λm=>hp u<|bp _ (.tail _<|.tail _ m)
 ·rw [<- h.sm, <- gz, <- gz,hi,hi',ip,ip];exact agX (az L+ ·) (c7 _ _ _)
 ·rw [dR] at a1 a2
  by_cases q:i<az L+g.2.1
  ·exact g2 i a1 q n
  ·exact (same n).trans<|e2 i (cH.mp q) (c7 (az L) _ _▸a2) n
 ·exact (agX (SG P f · post)<|c7 _ _ _).mp s2
theorem acV{α:Type}:∀{L:List α},L≠ []->∃M g,L=M++ [g]:=λh=>⟨_,_,(List.dropLast_concat_getLast h).symm⟩
theorem KZ(hS:TS P sz f T)(hz:sz<=100)(hpa:(pa,O.inst 7 [.ref ta])∈P):jr (d+7) F 69 [.ref pa,.int j] [ZI ta [] T,P] (λT'=>TS P sz f T') (λ_=>.none) (λT'=>[ZI ta [] T',P]):=λK k=>by
 have pf:∀{T:Tr Iv},Fact F [ZI ta [] T,P] pa (.inst 7 [.ref ta]):=(Rd.ix 1 ag0).at hpa;have pf':∀{c:List (Fr Iv)} {T:Tr Iv},Fact F [ZI ta c T,P] pa (.inst 7 [.ref ta]):=(Rd.ix 1 ag0).at hpa;have hl:=hS.len hz
 refine aw g69 rfl (RZ.ix 0 rfl λh=>match q1:decide (0<j),q2:decide (j<kI.su T) with
  |false,_=>.it (.mK (.qq .k (.lo ag0)<|agX some q1)) (.ret .k<|k T hS)
  |true,false=>.it (.mK (.j9 .k (.lo ag0) (agX some q1) (.ca (.one<|.at (.lo ag0) pf ag0)<|lA h)<|agX some q2)) (.ret .k<|k T hS)
  |true,true=>.el (.sS (.j9 .k (.lo ag0) (agX some q1) (.ca (.one<|.at (.lo ag0) pf ag0)<|lA h)<|agX some q2)) (.tu (.ca (.two (.at (.lo ag0) pf ag0)<|.lo ag0) (qn h (bZ<|agY q1) (agY q2) λc a x l r e w1 w2=>
   .ite (.cm (.lo ag0) (.lo ag0) ag0) (λ_=>.ret .k<|k T hS) λq=> ?_)) ag0 rfl))
 have q:bg c+kI.su l=j:=PA.mp (of_decide_eq_false q);obtain ⟨L,g,hg⟩:=acV (L:=bh c++aq l) (λn=>by have:=ij (c:=c) (l:=l);rw [n,q] at this;exact absurd (agY q1) (this▸ny 0));have hi:aq T=L++g::(a,x)::(aq r++bE c):=(kf e).trans ((agX (· ++ _) hg).trans (aJ L [g] _));have hi2:aq T=(L++ [g])++(a,x)::(aq r++bE c):=hi.trans (aJ L [g] _).symm;obtain ⟨lg,g1,g2⟩:=hS.at hi;obtain ⟨le,e1,e2⟩:=hS.at hi2;obtain ⟨c2,l2,r2,z1,z2,z3⟩:=oi T hi;have ha:=(RZ.d0 (h.eq e)).tr.rt;have hgf:=(RZ.d0 (h.eq z1)).tr.rt;have pc:=acp (d:=d+4) (RZ.d0 (h.eq e));rw [hg,wQ] at pc;refine .as (.ca (.one (.lo rfl)) pc) rfl (.iT (.ca (.two (.at (.lo rfl) hgf rfl) (.at (.lo rfl) ha rfl)) (KY (Rd.ix 1 rfl) g1.tp e1.tp λs hs=> ?_)));cases s with
 |false=>exact .nil<|k T hS
 |true=>refine .as (.ca (.one (.lo rfl)) (oh (RZ.d0 (h.eq e)).tr)) rfl (.zr e (.d0 (.xC (.two (.at (.lo rfl) pf' rfl) (.lo rfl)) [0] (acD (e▸hS.ps) (e▸ae hl (by decide))) rfl λT2 i2=> ?_)));have i2:aq T2=L++g::(aq r++bE c):=i2.trans ((aJ _ _ _).symm.trans ((agX (· ++ (aq r++bE c)) hg).trans (aJ L [g] _)));obtain ⟨c3,l3,r3,u1,u2,u3⟩:=oi T2 i2;have i3:aq (up c3 (.nd g.1 (g.2.1+x.1,g.2.2) l3 r3))=L++(g.1,g.2.1+x.1,g.2.2)::(aq r++bE c):=(kf rfl).trans (by rw [u2,u3]);have ts:=λT'=>hS.join (T':=T') hi g1 g2 e2 (hs.mp rfl);refine .zr u1 (.d0 (.xc (.two (.lo rfl) (.lo rfl)) [0] Kw rfl (.zf (f:=⟨true,g.1,(g.2.1+x.1,g.2.2),r3⟩) (.xC (.two (.at (.lo rfl) pf' rfl) (.lo rfl)) [0] (wP (c:=⟨true,g.1,(g.2.1+x.1,g.2.2),r3⟩::c3) (t:=l3) (ts _ i3).ps (ae ((ts _ i3).len hz) (by decide))) rfl λT' sm=>.nil (k T' (ts T' (sm.io.trans i3)))))))
end
variable{be en:Int}
section
variable{P:Ch}{pre:List aS}{T:Tr Iv}
def K5(P:Ch)(pa ta:Nat)(sz be en:Int)(f:Int->Int->Option V):Lp:=⟨Tr Iv×Int×Option V×Option V×Option V,λi=>[some (.ref pa),some<|.int be,some<|.int en,some<|.int i.2.1,i.2.2.1,i.2.2.2.1,i.2.2.2.2,none,none],λi=>[ZI ta [] i.1,P],λi=>TS P sz f i.1/\0<=i.2.1,λi=>(sz-i.2.1).toNat⟩
theorem acW(hS:TS P sz f T)(hz:sz<=100)(hb:0<=be)(hpa:(pa,O.inst 7 [.ref ta])∈P):jr (d+8) F 70 [.ref pa,.int be,.int en] [ZI ta [] T,P] (λT'=>TS P sz f T') (λ_=>.none) (λT'=>[ZI ta [] T',P]):=λK k=>by
 refine aw g70 rfl (.as (.lo rfl) rfl (.wg (K5 P pa ta sz be en f) (λi K' o hk=> ?_) (T,be,none,none,none) ⟨hS,hb⟩ rfl rfl));obtain ⟨T,j,x4,x5,x6⟩:=i;obtain ⟨hS,hj⟩:=o;have pf:Fact F [ZI ta [] T,P] pa (.inst 7 [.ref ta]):=(Rd.ix 1 rfl).at hpa;refine Tn.rz 0 rfl λh=> ?_;have off:W (d+7) F (fK K) [ZI ta [] T,P] ((K5 P pa ta sz be en f).L (T,j,x4,x5,x6)) [.expr (ca 69 [lo 0,lo 2])]:=.xC (.two (.lo rfl) (.lo rfl)) [] (KZ hS hz hpa) rfl λT' h'=>.nil (k T' h')
 exact match q1:decide (j<=en),q2:decide (j<kI.su T) with
  |false,_=>.off (.ew (.cm (.lo ag0) (.lo ag0)<|agX some q1)) off
  |true,false=>.off (.cS (.cm (.lo ag0) (.lo ag0)<|agX some q1) (.cm (.lo ag0) (.ca (.one<|.at (.lo ag0) pf ag0)<|lA h)<|agX some q2)) off
  |true,true=>.on (.cS (.cm (.lo ag0) (.lo ag0)<|agX some q1) (.cm (.lo ag0) (.ca (.one<|.at (.lo ag0) pf ag0)<|lA h)<|agX some q2)) (.tu (.ca (.two (.at (.lo ag0) pf ag0)<|.lo ag0) (qn h hj (agY q2) λc a x l r e w1 w2=>
   .as (.add (.lo ag0) (.ca (.one<|.lo ag0)<|oh (RZ.d0<|h.eq e).tr)) ag0 (.xC (.two (.lo ag0)<|.lo ag0) [] (KZ hS hz hpa) ag0 λT' h'=>.as (.lo ag0) ag0 (.nil<|hk (T',bg c+kI.su l+x.1,_,_,_) ((EL (pg<|hS.sm▸agY q2)).mpr<|PB w2 sz) ⟨h',bZ<|gH hj w2⟩)))) ag0 rfl)
end
variable{td mid:List aS}{q:Int}{e1 e2:aS}{w b:Nat}{KS:SK}
def Bd(L:List aS)(q:Int):Prop:=∃u v,L=u++v/\az u=q
section
variable{P:Ch}{pre p1 p2 q1 q2:List aS}{T:Tr Iv}{pr:List S}
theorem oo:∀{L:List aS},Pos L->0<=az L
 | [],_=>eU _
 |e::_,h=>lS (aL (by decide) (h e<|.head _)) (oo λg m=>h g<|.tail _ m)
theorem Bd.split(h:Bd (pre++e::post) q)(he:e1.2.1+e2.2.1=e.2.1):Bd (pre++e1::e2::post) q:=by
 obtain ⟨u,v,h1,h2⟩:=h;exact match yV.mp h1 with
 | .inl ⟨[],a1,_⟩=>⟨pre,_,ag0,by rw [<- h2,a1,bc]⟩
 | .inl ⟨g::w,a1,a2⟩=>⟨pre++e1::e2::w,v,by rw [(bt a2).2,aJ];rfl,by rw [<- h2,a1, <- (bt a2).1,ip,ip, <- he];exact agX (az pre+ ·) (c7 _ _ _).symm⟩
 | .inr ⟨w,a1,a2⟩=>⟨u,w++e1::e2::post,by rw [a1,aJ],h2⟩
theorem TS.split(h:TS P sz f T)(hi:aq T=pre++e::post)(w1:az pre<j)(w2:j<az pre+e.2.1)(hi':aq T'=pre++(e.1,j-az pre,e.2.2)::(b,e.2.1-(j-az pre),e.2.2)::post):TS P sz f T':=by
 have hs:=h.sg;rw [hi] at hs;obtain ⟨s1,⟨l,o1,o2⟩,s3⟩:=SG.app.mp hs;have ee:(j-az pre)+(e.2.1-(j-az pre))=e.2.1:=by rw [fG,nu]
 rw [dR] at o2 s3;have e5:az pre+(j-az pre)=j:=by rw [fG,nu]
 refine ⟨hi'▸ ?_, ?_,hi'▸SG.app.mpr ⟨s1, ?_⟩⟩
 ·have hp:=h.ps;rw [hi] at hp;exact λu m=>(b9.mp m).elim (λm=>hp u<|cJ _ m) λm=>(aO.mp m).elim (λq=>q▸pg w1) λm=>(aO.mp m).elim (λq=>q▸pg (Pw w2)) λm=>hp u (bp _<|.tail _ m)
 ·rw [<- h.sm, <- gz, <- gz,hi,hi',ip,ip];exact agX (az pre+ ·) ((c7 _ _ _).symm.trans (agX (· + az post) ee))
 ·rw [dR];refine ⟨⟨l,o1,λi a1 a2 n=>o2 i a1 (gY (show i<az pre+(j-az pre) from a2) (e5.symm▸w2)) n⟩,⟨l,o1,λi a1 a2 n=>o2 i (aL (bZ (e5.symm▸w1)) a1) ?_ n⟩, ?_⟩
  ·exact (c7 (az pre) _ _).trans (agX (az pre+ ·) ee)▸a2
  ·exact (agX (SG P f · post) ((c7 (az pre) _ _).trans<|agX (az pre+ ·) ee)).mpr s3
theorem K6(h:TS P sz f T)(hz:sz<=100)(h0:0<=j)(h1:j<=sz)(k:∀T',TS P sz f T'->Bd (aq T') j->(∀q,Bd (aq T) q->Bd (aq T') q)->K .none [ZI ta [] T',P]):Cl (d+7) F K [ZI ta [] T,P] 21 [.ref ta,.int j]:=
 .of [0] (acu (K:=λv c=>K v<|c++ [P]) h.ps (ae (h.len hz)<|by decide) (λhc=>k T h (by
  rcases hc with hc|hc|hc
  ·exact ⟨[],_,ag0,ph h0 hc⟩
  ·exact ⟨aq T,[],(bc _).symm,(gz T).trans (ph hc<|h.sm▸h1)⟩
  ·exact hc) λ_ h=>h) λpre e post b T' hi w1 w2 hi'=>k T' (h.split hi w1 w2 hi') (hi'▸⟨pre++ [(e.1,j-az pre,e.2.2)],_,(aJ _ [_] _).symm,by
   rw [ip];show az pre+((j-az pre)+0)=j;rw [dS,fG,nu]⟩) λq hq=>hi'▸(hi▸hq:Bd (pre++e::post) q).split (by show (j-az pre)+(e.2.1-(j-az pre))=e.2.1;rw [fG,nu])) ag0 λ_ _ h=>h
theorem acX(h:p1++e1::q1=p2++e2::q2)(hp:Pos (p1++e1::q1))(a1:az p1<=j)(a2:j<az p1+e1.2.1)(b1:az p2<=j)(b2:j<az p2+e2.2.1):p1=p2/\e1=e2:=by
 have no:∀{p p' u:List aS} {e:aS},p'=p++e::u->Pos u->az p'<=j->j<az p+e.2.1->False:=λe1 hu b1 a2=>by rw [e1,ip, <- c7] at b1;exact absurd (gg a2 (jc<|oo hu))<|cH.mpr b1
 exact match yV.mp h with
 | .inl ⟨[],c1,c2⟩=>⟨(c1.trans<|bc _).symm,(bt c2).1⟩
 | .inl ⟨g::u,c1,c2⟩=>(no (c1.trans<|agX (λg=>p1++g::u) (bt c2).1.symm) (λx m=>hp x<|bp _ (.tail _<|(bt c2).2▸cJ _ m)) b1 a2).elim
 | .inr ⟨[],c1,c2⟩=>⟨c1.trans<|bc _,(bt c2).1.symm⟩
 | .inr ⟨g::u,c1,c2⟩=>(no (c1.trans<|agX (λg=>p2++g::u) (bt c2).1.symm) (λx m=>hp x (cJ _<|c1▸bp _ (.tail _ m))) a1 b2).elim
end
variable{dn:List aS}{p:List S}
noncomputable def rv(L:List aS):List V:=L.map λe=>.ref e.1
section
variable{P:Ch}{pre:List aS}{T:Tr Iv}{p:Nat}{pr:List S}
theorem asc(a b:Int):a+b-a=b:=fG b a▸gm b a
def K7(pa ta w:Nat)(be en:Int)(T:Tr Iv)(P:Ch)(mid post:List aS):Lp:=⟨List aS×List aS,λi=>[some (.ref pa),some<|.int be,some<|.int en,some (ii<|i.2++post),some<|.ref w,some (.int<|az i.2),none,none],λi=>[[(w,.list<|rv i.1)],ZI ta [] T,P],λi=>mid=i.1++i.2,λi=>i.2.length⟩
theorem acY(hp:Pos (aq T))(hl:(aq T).length<=100)(hi:aq T=pre++(mid++post)){p:List S}(k:W (d+7) F KS [[(w,.list<|rv mid)],ZI ta [] T,P] [some (.ref pa),some<|.int be,some<|.int en,some<|ii post,some<|.ref w,some<|.int 0,none,none] p):∀(td:List aS) {dn:List aS},mid=dn++td->Nx (K7 pa ta w be en T P mid post) K' (dn,td)->
 Tn (d+7) F KS (cm .gt (lo 5)<|ci 0) [.expr (.lm .append (lo 4)<|el [lo 3]),ak 5<|Pl.pr .sub [lo 5,ca 2 [lo 3]],ak 3<|ca 17 [lo 3]] p K' [[(w,.list<|rv dn)],ZI ta [] T,P] [some (.ref pa),some<|.int be,some<|.int en,some (ii<|td++post),some<|.ref w,some (.int<|az td),none,none]
 | [],dn,hm,_=>.off (.cm (.lo ag0) .k ag0)<|(bc dn▸hm)▸k
 |g::td,dn,hm,hk=>by
  have hi2:aq T=(pre++dn)++g::(td++post):=hi.trans (by rw [hm,aJ,aJ];rfl);obtain ⟨c,l,r,u1,u2,u3⟩:=oi T hi2;have hg:1<=g.2.1:=hp g (hi2▸bp _ (.head _));have ht:0<=az td:=oo λx m=>hp x (hi2▸bp _ (.tail _ (cJ _ m)));have hd:(rv dn).length<lim:=by have e:=agX cu hi2;rw [aX,aX] at e;exact bx (ae (aF (aG _)) (ae (ae (dy _ _) (fh _ _)) (e▸hl))) (au rfl)
  refine .on (.cm (.lo ag0) .k<|agX some (agZ<|EN hg ht)) (.xp<|.sT (.lo ag0) (.lo ag0) 0 ag0 hd ⟨ag0,RZ.ix 1 ag0 λh=> ?_⟩);have hz:=RZ.d0<|h.eq u1;have fc:=Kq (d:=d+5) hz;rw [u3] at fc;refine .as (.ie (.sub (.lo ag0) (.ca (.one<|.lo ag0)<|oh hz.tr)) (asc g.2.1<|az td)) ag0 (.as (.ca (.one<|.lo ag0) fc) rfl<|.nil ?_);have:=hk (dn++ [g],td) (eV _)<|hm.trans (aJ dn [g] td).symm;exact (agX (λu=>K' [some (.ref pa),some<|.int be,some<|.int en,some (ii<|td++post),some<|.ref w,some (.int<|az td),none,none] [[(w,.list u)],ZI ta [] T,P])<|bK (l₁:=dn) (l₂:=[g]) (f:=λe:aS=>V.ref e.1)).mp this
theorem acZ(hS:TS P sz f T)(hz:sz<=100)(h0:0<=be)(h1:be<en)(h2:en<=sz)(hpa:(pa,O.inst 7 [.ref ta])∈P)(k:∀T' w pre mid post,TS P sz f T'->aq T'=pre++(mid++post)->az pre=be->az mid=en-be->K (.ref w) [[(w,.list<|rv mid)],ZI ta [] T',P]):Cl (d+8) F K [ZI ta [] T,P] 68 [.ref pa,.int be,.int en]:=by
 have pf:∀{T:Tr Iv},Fact F [ZI ta [] T,P] pa (.inst 7 [.ref ta]):=(Rd.ix 1 rfl).at hpa;refine aw g68 rfl (.el (.cm (.lo rfl) (.lo rfl) (agX some (decide_eq_false (i8.mpr h1)))) (.xp (.ca (.two (.at (.lo rfl) pf rfl) (.lo rfl)) (K6 hS hz h0 (aL (bZ h1) h2) λT2 t2 b2 _=>⟨rfl,.xp (.ca (.two (.at (.lo rfl) pf rfl) (.lo rfl)) (K6 t2 hz (aL h0 (bZ h1)) h2 λT3 t3 b3 b4=>⟨rfl, ?_⟩))⟩))));obtain ⟨pre,r1,hr1,hs1⟩:=b4 _ b2;obtain ⟨pr2,post,hr2,hs2⟩:=b3;have hps:=t3.ps
 obtain ⟨mid,hm1,hm2⟩:∃mid,aq T3=pre++(mid++post)/\az mid=en-be:=match yV.mp (hr1.symm.trans hr2) with
  | .inl ⟨u,c1,c2⟩=>⟨u,hr1.trans<|agX (pre++ ·) c2,by rw [<- hs2,c1,ju,hs1];exact (asc _ _).symm⟩
  | .inr ⟨u,c1,c2⟩=>by rw [c1,ju,hs2] at hs1;exact absurd (jc (oo λx m=>hps x<|hr1▸cJ _ (c1▸bp _ m))) (i8.mpr<|hs1▸h1)
 refine RZ.ix 0 ag0 λh=> ?_
 induction mid with
 |nil=>exact absurd (pg h1)<|hm2▸ny 0
 |cons e mid'=>refine .bS (.p2 (.ca (.two (.at (.lo rfl) pf rfl) (.lo rfl)) (qn h h0 (t3.sm.symm▸gg h1 h2) λc a x l r e3 w1 w2=>.ev .k (.bT (by decide) rfl (.an (.ls .nil (au rfl)) rfl λw=>.as (.sub (.lo rfl) (.lo rfl)) rfl ?_))))) rfl;obtain ⟨-,eu⟩:=acX (j:=be) ((kf e3).symm.trans hm1) (kf e3▸hps) (ij▸w1) (ij▸w2) (lW hs1) (hs1▸EU _ (hps e (hm1▸bp _ (.head _))));exact .wg (K7 pa ta w be en T3 P (e::mid') post) (λi K' o hk=>acY hps (t3.len hz) hm1 (.ret (.lo rfl) (k T3 w pre _ post t3 hm1 hs1 hm2)) i.2 o hk) ([],e::mid') rfl (by rw [<- hm2, <- eu];rfl) rfl
end
variable{num i m:Int}{ll l':List Kv}{ee:Kv}
noncomputable def upd(f:Int->Int->Option V)(b e n:Int)(v:V):Int->Int->Option V:=λi m=>bif decide (b<=i)&&(decide (i<e)&&decide (m=n)) then some v else f i m
section
variable{P:Ch}{pre:List aS}{T l:Tr Iv}{p:Nat}{pr:List S}
theorem K8{q':Int}(h:i<q↔i<q'):upd f be q n v i m=upd f be q' n v i m:=agX (λx=>bif decide (be<=i)&&(x&&decide (m=n)) then some v else f i m)<|decide_eq_decide.mpr h
theorem K9(h:¬i<q):upd f be q n v i m=f i m:=(agX (λx=>bif decide (be<=i)&&(x&&decide (m=n)) then some v else f i m)<|decide_eq_false h).trans (agX (λx=>bif x then some v else f i m)<|m9 _)
theorem ac0(h:be<=i)(h2:i<q):upd f be q n v i m=bif decide (m=n) then some v else f i m:=(agX (λx=>bif x&&(decide (i<q)&&decide (m=n)) then some v else f i m)<|agZ h).trans (agX (λx=>bif true&&(x&&decide (m=n)) then some v else f i m)<|agZ h2)
theorem SG.congr:∀{L:List aS} {b:Int},Pos L->SG P f b L->(∀i,b<=i->i<b+az L->∀n,f i n=f' i n)->SG P f' b L
 | [],_,_,_,_=>trivial
 |e::L,b,hp,h,w=>
  have hl:Pos L:=λg m=>hp g (.tail _ m)
  ⟨let ⟨l,h1,h2⟩:=h.1;⟨l,h1,λi a1 a2 n=>(h2 i a1 a2 n).trans (w i a1 (gg a2 (lX (jc (oo hl)) b)) n)⟩,SG.congr hl h.2 λi a1 a2 n=>w i (aL (jc (aL (by decide) (hp e (.head _)))) a1) ((c7 b e.2.1 (az L))▸a2) n⟩
theorem B9:∀{l m:List Int},l.Nodup->(∀x∈l,x∈m)->l.length<=m.length
 | [],_,_,_=>bq _
 |a::l,m,nd,hs=>by obtain ⟨n1,n2⟩:=dF.mp nd;have:=B9 (m:=m.erase a) n2 λy hy=>(ET (show y≠a from λe=>n1 (e▸hy))).mpr (hs y (.tail _ hy));rw [Pz (hs a (.head _))] at this;exact Nat.add_le_of_le_sub (List.length_pos_of_mem (hs a (.head _))) this
theorem wY(q:ee.1=n):dY (ee::ll) n v=(n,v)::ll:=if_pos q
theorem s7(q:¬ee.1=n):dY (ee::ll) n v=ee::dY ll n v:=if_neg q
theorem s9:∀{l:List Kv} {ee:Kv},ee∈dY l n v->ee=(n,v)\/ee∈l
 | [],_,h=>.inl<|cr.mp h
 |g::l,_,h=>if q:g.1=n then (aO.mp<|wY q▸h).imp id (.tail _) else (aO.mp<|s7 q▸h).elim (λe=>.inr (aO.mpr<|.inl e)) λh=>(s9 h).imp id<|.tail _
theorem wZ:∀{l:List Kv},(l.map (·.1)).Nodup->((dY l n v).map (·.1)).Nodup
 | [],_=>dF.mpr ⟨nofun,Pr⟩
 |g::l,h=>if q:g.1=n then (agX (λL:List Kv=>(L.map (·.1)).Nodup)<|wY q).mpr (q▸h) else (agX (λL:List Kv=>(L.map (·.1)).Nodup)<|s7 q).mpr (dF.mpr ⟨λw=>
  let ⟨e,he,e2⟩:=bB.mp w
  (s9 he).elim (λe3=>q (e2.symm.trans<|agX (·.1) e3)) λhe=>(dF.mp h).1<|bB.mpr ⟨e,he,e2⟩,wZ (dF.mp h).2⟩)
theorem B':∀{l:List Kv},lk (dY l n v) m=bif decide (m=n) then some v else lk l m
 | []=>if q:m=n then (kg q.symm).trans (agX (λx=>bif x then some v else lk [] m)<|agZ q).symm else (im<|cU q).trans (agX (λx=>bif x then some v else lk [] m)<|decide_eq_false q).symm
 |g::l=>if q:g.1=n then (agX (lk · m)<|wY q).trans (if q2:m=n then (kg q2.symm).trans (agX (λx=>bif x then some v else lk (g::l) m)<|agZ q2).symm else ((im<|cU q2).trans (im λe=>q2<|e.symm.trans q).symm).trans (agX (λx=>bif x then some v else lk (g::l) m)<|decide_eq_false q2).symm) else (agX (lk · m)<|s7 q).trans (if q2:g.1=m then ((kg q2).trans (kg q2).symm).trans (agX (λx=>bif x then some v else lk (g::l) m) (decide_eq_false λe=>q<|q2.trans e)).symm else (im q2).trans (B'.trans<|agX (λo=>bif decide (m=n) then some v else o) (im q2).symm))
theorem TK.len{l:List Kv}(h:TK P p l):l.length<=3:=ae (aF (aG _).symm) (B9 (l:=l.map (·.1)) (m:=[10,11,12]) h.tp.nd λx hx=>let ⟨e,he,q⟩:=bB.mp hx;q▸h.ks e he)
theorem TK.dY{q:Nat}{l:List Kv}(h:TK P p l)(hv:VP P (kd n) v)(hn:n∈ [(10:Int),11,12])(m:(q,O.list<|(dY l n v).map d8)∈P')(s:∀q∈P,q∈P'):TK P' q (dY l n v):=
 have ks:∀e∈Pl.dY l n v,e.1∈ [(10:Int),11,12]:=λe he=>(s9 he).elim (λq=>q▸hn) (h.ks e)
 ⟨⟨m,ae (ae (aF (aG _).symm) (B9 (l:=(Pl.dY l n v).map (·.1)) (m:=[(10:Int),11,12]) (wZ h.tp.nd) λx hx=>let ⟨e,he,q⟩:=bB.mp hx;q▸ks e he)) (by decide),wZ h.tp.nd,λe he=>(s9 he).elim (λq=>q▸hv.mono s) λhe=>(h.tp.ty e he).mono s⟩,ks⟩
theorem Ca{a b c:Int}:a+b+c=a+(b+c):=c7 a b c
theorem TS.put(ts:TS P sz (upd f be (be+az dn) num v) T)(hi:aq T=(pre++dn)++e::post)(s1:az pre=be)(ol:∀i,be+az dn<=i->i<be+az dn+e.2.1->∀n,lk ll n=upd f be (be+az dn) num v i n)(s:∀q∈P,q∈P')(i3:aq T'=(pre++dn)++(e.1,e.2.1,p)::post)(o3:TK P' p l')(hl:∀m,lk l' m=bif decide (m=num) then some v else lk ll m):
 TS P' sz (upd f be (be+(az dn+e.2.1)) num v) T':=by
 have hps:=ts.ps;have hsg:=ts.sg;have sdn:az (pre++dn)=be+az dn:=(ju _ _).trans (agX (· + az dn) s1);rw [hi] at hps hsg;obtain ⟨g1,-,g2⟩:=SG.app.mp hsg;rw [dR,sdn] at g2;have hp1:Pos (pre++dn):=λu m=>hps u (cJ _ m);have hep:=hps e (bp _ (.head _));have le:be+az dn<=be+(az dn+e.2.1):=lX (jc (aL (by decide) hep)) be;have hd:be<=be+az dn:=jc (oo λu m=>hp1 u (bp _ m));refine ⟨i3▸λu m=>(b9.mp m).elim (hp1 u) λm=>(aO.mp m).elim (λq=>q▸hep) λm=>hps u (bp _ (.tail _ m)), ?_,i3▸SG.app.mpr ⟨(g1.mono s).congr hp1 λi a1 a2 m=> ?_,⟨l',o3,λi a1 a2 m=> ?_⟩, ?_⟩⟩
 ·exact ((gz T').symm.trans ((agX az i3).trans<|ip.trans (ip (e:=e)).symm)).trans ((agX az hi).symm.trans<|(gz T).trans ts.sm)
 ·rw [dR,sdn] at a2;exact K8 ⟨λ_=>gg a2 le,λ_=>a2⟩
 ·rw [dR,sdn] at a1 a2;rw [hl,ol i a1 a2,K9 (cH.mpr a1)];exact (ac0 (aL hd a1) (Ca▸a2)).symm
 ·rw [dR,sdn]
  exact (g2.mono s).congr (λu m=>hps u (bp _<|.tail _ m)) λi a1 a2 m=>
   have a1:be+(az dn+e.2.1)<=i:=Ca▸a1
   K8 ⟨λh=>absurd (gg h le)<|cH.mpr a1,λh=>absurd h<|cH.mpr a1⟩
end
variable{P2 A C:Ch}{rr:Bool}{l:Loc}
def ac1(d:Nat)(F:Ch)(K:SK)(l:Loc)(p:List S)(e0:E)(n:Nat):VK:=λv c=>∀X:Prop,(∀{A o o' t} (i:Nat),Ev d F c l e0 (.ref A)->nt c i=(A,o)::t->sP o n v=some o'->W d F K (ups c i ((A,o')::t)) l p->X)->X
structure PI(P:Ch)(us:List V)(pre post:List aS)(f:Int->Int->Option V)(be en num:Int)(v:V)(sz:Int)(k:Nat)(T:Tr Iv)(dn td:List aS)(P':Ch):Prop where
 ts:TS P' sz (upd f be (be+az dn) num v) T
 io:aq T=(pre++dn)++(td++post)
 ln:dn.length=k
 us:rv (dn++td)=us
 sm:be+az dn+az td=en
 sb:∀q∈P,q∈P'
section
variable{P:Ch}{pre:List aS}{T l:Tr Iv}{p:Nat}{pr:List S}{n:Int}
theorem W.pw{l:Loc}{p:List S}{e:E}{n:Nat}(x:We d F (ac1 d F KS l p e0 n) cs l e):W d F KS cs l (.ag (.attr e0 n) e::p):=
 .s (Mt.bind (f:=λv Q H=>aH Mine.G (acl d) e0 l H λo h1=>sO o h1 n v λh2=>Q (Fl.next,l) h2) x λv c h=>h _ λ{A o o' t} i y m q k=>by refine Mt.bind (f:=λu Q H=>sO u H n v λh2=>Q (Fl.next,l) h2) (y (λw c'=>w= .ref A/\c'=c) ⟨ag0,ag0⟩) λw c h=> ?_;rw [h.1,h.2];intro R H Q s q';show oP (wE H A H[A]? n v) _;rw [BN (Fact.ix i m R H s) q];exact q' _ _ _ k<|s.wr m)
theorem ac2(h:q=be):upd f be q n v i m=f i m:=if w:i<q then agX (λx=>bif x&&(decide (i<q)&&decide (m=n)) then some v else f i m) (decide_eq_false (i8.mpr<|h▸w)) else K9 w
theorem La:∀(dn:List aS) {k:Nat},dn.length=k->(rv<|dn++td)[k]? = some v->∀{X:Prop},(∀e td',td=e::td'->v= .ref e.1->X)->X
 | [],_,h,q,_,g=>match td,h▸q,g with
  |e::td',q,g=>g e td' ag0 (av q).symm
 |_::dn,_,h,q,_,g=>La dn ag0 (tS.symm.trans<|h▸q) g
def Lb(P:Ch)(us:List V)(pre post:List aS)(f:Int->Int->Option V)(be en num:Int)(v:V)(sz:Int)(pa ta w:Nat):Lf:=⟨(Tr Iv×List aS×List aS×Ch)×Bool×Option V,λ_ i=>[some (.ref pa),some<|.int be,some<|.int en,some<|.int num,some v,some<|.bool i.2.1,i.2.2,none,none],λ_ i=>[[(w,.list us)],ZI ta [] i.1.1,i.1.2.2.2],λk i=>PI P us pre post f be en num v sz k i.1.1 i.1.2.1 i.1.2.2.1 i.1.2.2.2⟩
theorem PI.next{q:Nat}(o:PI P us pre post f be en num v sz k T dn (e::td) P')(s1:az pre=be)(ol:∀i,be+az dn<=i->i<be+az dn+e.2.1->∀n,lk ll n=upd f be (be+az dn) num v i n)(s:∀q∈P',q∈P2)(i3:aq T'=(pre++dn)++(e.1,e.2.1,q)::(td++post))(o3:TK P2 q l')(hl:∀m,lk l' m=bif decide (m=num) then some v else lk ll m):
 PI P us pre post f be en num v sz (k+1) T' (dn++ [(e.1,e.2.1,q)]) td P2:=by
 have e1:az (dn++ [(e.1,e.2.1,q)])=az dn+e.2.1:=ip.trans (agX (az dn+ ·)<|dS _);refine ⟨e1▸o.ts.put o.io s1 ol s i3 o3 hl, ?_, ?_, ?_, ?_,λq m=>s q<|o.sb q m⟩
 ·exact i3.trans<|(aJ (pre++dn) [(e.1,e.2.1,q)]<|td++post).symm.trans (agX (· ++ (td++post))<|aJ pre dn [(e.1,e.2.1,q)])
 ·rw [aX,o.ln];rfl
 ·exact ((agX rv<|aJ dn [(e.1,e.2.1,q)] td).trans<|(bK (l₁:=dn) (l₂:=(e.1,e.2.1,q)::td)).trans (bK (l₁:=dn) (l₂:=e::td)).symm).trans o.us
 ·rw [e1, <- c7,Ca];exact o.sm
theorem ac3{W:Ch}:([B,A,W,C].flatten).Perm ([W,B,A++C].flatten):=by show (B++(A++(W++(C++ [])))).Perm (W++(B++((A++C)++ [])));rw [aJ];exact ((eW A W _).append_left B).trans<|eW B W _
theorem ac4(h:dn.length=(rv mid).length)(q:rv (dn++td)=rv mid):td= []:=by have:=(aG (f:=λe:aS=>V.ref e.1) (as:=dn++td)).symm.trans<|(agX cu q).trans h.symm;rw [aX] at this;exact kA (Nt<|this.trans (Nat.add_zero _).symm)
theorem ac5(hn:num∈ [(10:Int),11,12])(hv:VP P (kd num) v)(s1:az pre=be)(q:us[k]? = some u)(o:PI P us pre post f be en num v sz k T dn td P')(hk:Nf (Lb P us pre post f be en num v sz pa ta w) K' (k+1)):
 W (d+8) F (kb (fK K) K') [[(w,.list us)],ZI ta [] T,P'] [some (.ref pa),some<|.int be,some<|.int en,some<|.int num,some v,some<|.bool rr,some u,none,none] [.ite (.not<|ca 51 [at_ 1 (lo 6),lo 3,lo 4]) (sl [.ag (.attr (lo 6) 1) (ca 50 [at_ 1 (lo 6),lo 3,lo 4]),ak 5 cT]) (sl [])]:=by
 refine La dn o.ln (o.us▸q) λe td' e1 e2=> ?_;rw [e1] at o;rw [e2];obtain ⟨c,l,r,u1,u2,u3⟩:=oi T o.io;obtain ⟨ll,ol,of⟩:=o.ts.at o.io;rw [ju,s1] at of;refine .re [1] (.zr u1 (.d0 ?_));have hr:RT F [ZI ta c (.nd e.1 e.2 l r),[(w,.list us)],P'] kI (.nd e.1 e.2 l r) (aM c):=RT.zx 0 rfl;have hP:Rd F [ZI ta c (.nd e.1 e.2 l r),[(w,.list us)],P'] P':=.ix 2 rfl;have i3:∀q:Nat,aq (Wl.up c (.nd e.1 (e.2.1,q) l r))=(pre++dn)++(e.1,e.2.1,q)::(td'++post):=λq=>(kf rfl).trans (by rw [u2,u3];rfl);refine .iT (.not (.ca (.cons (.at (.lo rfl) hr.rt rfl) (.two (.lo rfl) (.lo rfl))) (KW hP ol.tp (λu hu=>⟨kd num,ol.tp.ty _ (jQ hu),hv.mono o.sb⟩) λb hb=> ?_)))
 induction b with
 |true=>exact .u0<|.re [1] (.nil<|hk ((Wl.up c<|.nd e.1 e.2 l r,dn++ [(e.1,e.2.1,e.2.2)],td',P'),rr,_) (o.next s1 of (λ_ m=>m) (i3 e.2.2) ol λm=>if q:m=num then by rw [agZ q,q];exact hb.mp ag0 else by rw [decide_eq_false q];rfl))
 |false=>exact .pw<|.ca (.cons (.at (.lo ag0) hr.rt ag0) (.two (.lo ag0)<|.lo ag0)) (KL (hP _ ol.tp.m) (bx ol.len<|by decide) λq=>λX g=>g 1 (.lo ag0) ag0 rfl<|.as .k ag0 (.re [1]<|.u0 (c:=c) (t:=.nd e.1 (e.2.1,q) l r) (.pm ac3<|.nil (hk ((Wl.up c<|.nd e.1 (e.2.1,q) l r,dn++ [(e.1,e.2.1,q)],td',_),true,_)<|o.next s1 of (λ_ m=>.tail _ m) (i3 q) (ol.dY (hv.mono o.sb) hn (.head _) λ_ m=>.tail _ m) λm=>B'))))
theorem ac6(hS:TS P sz f T)(hz:sz<=100)(h0:0<=be)(h1:be<en)(h2:en<=sz)(hpa:(pa,O.inst 7 [.ref ta])∈P)(hn:num∈ [(10:Int),11,12])(hv:VP P (kd num) v)(k:∀T' P' r,(∀q∈P,q∈P')->TS P' sz (upd f be en num v) T'->K (.bool r) [ZI ta [] T',P']):Cl (d+9) F K [ZI ta [] T,P] 71 [.ref pa,.int be,.int en,.int num,v]:=by
 refine aw g71 ag0 (.as .k rfl<|.for (Wi.lst<|.ca (.cons (.lo ag0) (.two (.lo ag0)<|.lo ag0)) (acZ hS hz h0 h1 h2 hpa λT1 w pre mid post t1 hi s1 s2 X g=>g w (rv mid) ag0 (.ix 0 ag0)<|.f1 (Lb P (rv mid) pre post f be en num v sz pa ta w) (λ_ _ _=>.lst<|.ix 0 ag0) (λ_ _=>ag0) (λk u i K' hv' o hk=>ac5 hn hv s1 hv' o hk) (λi o=> ?_) ((T1,[],mid,P),false,none) ⟨⟨t1.ps,t1.sm,t1.sg.congr t1.ps λi a1 a2 n=>(ac2 ?_).symm⟩,(agX (· ++ (mid++post)) (bc pre).symm).subst hi,ag0,ag0, ?_,λ_ m=>m⟩ ag0 rfl)))
 ·have o:PI P (rv mid) pre post f be en num v sz (rv mid).length i.1.1 i.1.2.1 i.1.2.2.1 i.1.2.2.2:=o;have e1:be+az i.1.2.1=en:=(dS _).symm.trans<|(agX (λtd=>be+az i.1.2.1+az td)<|ac4 o.ln o.us).symm.trans o.sm;exact .dr 0 (.xC (.cons (.lo ag0) (.two (.lo ag0)<|.lo ag0)) [] (acW (e1▸o.ts) hz h0<|o.sb _ hpa) ag0 λT' h'=>.ret (.lo ag0)<|k T' _ _ o.sb h')
 ·exact dS be
 ·show be+0+az mid=en;rw [dS,s2,fG,nu]
end
variable{at':Int}{e:E}
section
variable{P:Ch}{pre:List aS}{li:Int}{T l:Tr Iv}{e:aS}{p:Nat}{pr:List S}{n:Int}
theorem TS.fd(hS:TS P sz f T)(e:up c (.nd a x l r)=T)(w1:bg c+kI.su l<=j)(w2:j<bg c+kI.su l+x.1)(g:∀ll,TK P x.2 ll->(∀n,lk ll n=f j n)->X):X:=
 let ⟨ll,h1,h2⟩:=hS.at (kf e)
 g ll h1 λn=>h2 j (ij▸w1) (ij▸w2) n
theorem We.atw{l:Loc}{e:E}{n:Nat}(x:We d F (λv c=>∀X:Prop,(∀{A o} w,v= .ref A->Fact F c A o->mI o n=some w->K w c->X)->X) cs l e):We d F K cs l (at_ n e):=
 Mt.bind (f:=λvs (Q:V->Hp->Prop) H=>aQ Mine.G (.attr n) vs H Q) (d9.ef (KS:=λvs c=>Mt F c (λ(Q:V->Hp->Prop) H=>aQ Mine.G (.attr n) vs H Q) K)<|Mt.bind (f:=λv Q H=>Q v H) x λv c h=>.ret (h _ λ{A o} w e m q k=>e▸ .pr k λR H s Q q'=>by show wo (wD H[A]? n) H Q;rw [BM (m R H s) q];exact q')) λ_ _ h=>h
theorem Lc(h:RI F cs ta [] T)(hS:TS P sz f T)(hpa:Fact F cs pa (.inst 7 [.ref ta]))(h0:0<=j)(h1:j<sz)(k:∀q l,TK P q l->(∀n,lk l n=f j n)->K (.ref q) cs):Cl (d+4) F K cs 67 [.ref pa,.int j]:=
 aw g67 ag0 (.el (.cm (.lo ag0) (.ca (.one<|.at (.lo ag0) hpa ag0)<|lA h) (agX some<|decide_eq_false (i8.mpr<|hS.sm.symm▸h1)))<|.rw (.atw<|.p2 (.ca (.two (.at (.lo ag0) hpa ag0)<|.lo ag0)<|qn h h0 (hS.sm.symm▸h1) λc a x l r e w1 w2=>.ev .k (.bT (by decide) ag0 λX g=>hS.fd e w1 w2 λll h1 h2=>g (.ref x.2) ag0 (RZ.d0<|h.eq e).tr.rt rfl<|k _ ll h1 h2))))
def Cb(cs:List Ch)(T:Tr Iv)(f:Int->Int->Option V)(pa:Nat)(at' li:Int)(pre:List aS)(e:aS):Lp:=⟨List aS×List aS,λi=>[some (.ref pa),some<|.int at',some<|.int li,some<|ii i.2,some (.int<|az i.1),some<|.ref e.2.2,none,none],λ_=>cs,λi=>aq T=i.1++i.2/\(∀j,at'<=j->j<az i.1->∀n,f j n=f at' n)/\(at'<az i.1\/i.1=pre),λi=>i.2.length⟩
theorem ac8(h:RI F cs ta [] T)(hS:TS P sz f T)(hP:Rd F cs P)(ol:TK P e.2.2 ll)(of:∀n,lk ll n=f at' n)(hi:aq T=pre++e::post)(w1:az pre<=at')(w2:at'<az pre+e.2.1)(k:∀z:Int,at'<z->z<=sz->(∀i,at'<=i->i<z->∀n,f i n=f at' n)->K (if li<=z then .none else .int z) cs)(k2:(∀i,at'<=i->i<sz->∀n,f i n=f at' n)->K .none cs):
 ∀(po:List aS) {pr:List aS},(Cb cs T f pa at' li pre e).ok (pr,po)->Nx (Cb cs T f pa at' li pre e) K' (pr,po)->Tn (d+3) F (fK K) (.and (cm .aY (lo 3) cN)<|ca 52 [at_ 1 (lo 3),lo 5]) [ak 4 (Pl.pr .add [lo 4,ca 2 [lo 3]]),ak 3<|ca 17 [lo 3]] [.ret (.ite (.or (cm .is (lo 3) cN) (cm .ge (lo 4)<|lo 2)) cN<|lo 4)] K' cs [some (.ref pa),some<|.int at',some<|.int li,some<|ii po,some (.int<|az pr),some<|.ref e.2.2,none,none]
 | [],pr,o,_=>.off (.ew<|.aV (.lo ag0) .k ag0)<|.ret (.dp (.mJ<|.is (.lo ag0) .k ag0) .k) (k2 λi a1 a2=>o.2.1 i a1<|(hS.sm.symm.trans ((gz T).symm.trans<|agX az (o.1.trans<|bc pr)))▸a2)
 |g::po,pr,o,hk=>by
  obtain ⟨c,l,r,u1,u2,u3⟩:=oi T o.1;obtain ⟨l2,o2,f2⟩:=hS.at o.1;have hz:=RZ.d0 (h.eq u1);have hg:=hS.ps g (o.1▸bp _ (.head _));have lt:az pr<az pr+g.2.1:=EU _ hg;have ge:pr=pre->g=e:=λq=>(bt (List.append_cancel_left (o.1.symm.trans (q▸hi):pr++g::po=pr++e::post))).1;refine We.cS (.aV (.lo rfl) .k rfl) (.ca (.two (.at (.lo rfl) hz.tr.rt rfl) (.lo rfl)) (KY hP o2.tp ol.tp λb hb=> ?_))
  induction b with
  |true=>have fc:=Kq (d:=d+1) hz;rw [u3] at fc;have e1:az (pr++ [g])=az pr+g.2.1:=ip.trans (agX (az pr+ ·)<|dS _);have gl:at'<az pr+g.2.1:=o.2.2.elim (λh=>gY h lt) λ(h:pr=pre)=>ge h▸h▸w2;exact .inl ⟨ag0,.as (.ie (.add (.lo ag0) (.ca (.one<|.lo ag0)<|oh hz.tr)) e1.symm) rfl<|.as (.ca (.one<|.lo ag0) fc) ag0 (.nil<|hk (pr++ [g],po) (eV _) ⟨o.1.trans (aJ pr [g] po).symm,λi a1 a2 n=>if q:i<az pr then o.2.1 i a1 q n else (f2 i (cH.mp q) (e1▸a2) n).symm.trans ((hb.mp ag0 n).trans<|of n),.inl<|e1.symm▸gl⟩)⟩
  |false=>
   have gl:at'<az pr:=o.2.2.elim id λ(h:pr=pre)=>nomatch hb.mpr λn=>(f2 at' (h▸w1) (ge h▸h▸w2) n).trans (of n).symm;have:=k (az pr) gl ?_ o.2.1
   ·exact .inr ⟨ag0,if q:li<=az pr then .ret (.dp (.iS (.is (.lo ag0) .k ag0)<|.cm (.lo ag0) (.lo ag0) (agX some<|agZ q)) .k) ((agX (K · cs)<|if_pos q).mp this) else .ret (.eg (.iS (.is (.lo ag0) .k ag0)<|.cm (.lo ag0) (.lo ag0) (agX some<|decide_eq_false q))<|.lo ag0) ((agX (K · cs)<|if_neg q).mp this)⟩
   ·rw [<- hS.sm, <- gz,o.1,ju];exact jc (oo λu m=>hS.ps u (o.1▸bp _ m))
theorem ac9(h:RI F cs ta [] T)(hS:TS P sz f T)(hP:Rd F cs P)(hpa:Fact F cs pa (.inst 7 [.ref ta]))(h0:0<=at')(h1:at'<sz)(k:∀z:Int,at'<z->z<=sz->(∀i,at'<=i->i<z->∀n,f i n=f at' n)->K (if li<=z then .none else .int z) cs)(k2:(∀i,at'<=i->i<sz->∀n,f i n=f at' n)->K .none cs):Cl (d+4) F K cs 66 [.ref pa,.int at',.int li]:=
 aw g66 ag0 (.el (.cm (.lo ag0) (.ca (.one<|.at (.lo ag0) hpa ag0)<|lA h) (agX some<|decide_eq_false (i8.mpr<|hS.sm.symm▸h1)))<|.tu (.ca (.two (.at (.lo ag0) hpa ag0)<|.lo ag0) (qn h h0 (hS.sm.symm▸h1) λc a x l r e w1 w2=>hS.fd e w1 w2 λll o1 o2=>.as (.at (.lo ag0) (RZ.d0<|h.eq e).tr.rt ag0) rfl<|ij (c:=c) (l:=l)▸ .wg (Cb cs T f pa at' li (bh c++aq l) (a,x)) (λi K' o hk=>ac8 h hS hP o1 o2 (kf e) (ij▸w1) (ij▸w2) k k2 i.2 o hk) (_,(a,x)::(aq r++bE c)) ⟨kf e,λi a1 a2=>absurd (gH a1 a2) (cH.mpr<|ij▸w1),.inr ag0⟩ ag0 rfl)) ag0 rfl)
end
variable{K:SK}{q w pv u1 u2 u3 u4 u5 u6 u7 u8 u9:V}{n r:List V}{S':Option Int}{e1:E}{f:Nat}
structure Ov where
 n:Int
 b:Int
 e:Int
 r:Bool
noncomputable def m2(e:Int):Option Int->Int
 |none=>e
 |some z=>max e z
def om:Option Int->Option Int->Option Int
 |none,s=>s
 |some e,s=>some<|m2 e s
def kO:Kd Ov (Option Int):=⟨λx sl sr l r p=>.inst 2 [.int x.n,.int x.b,.int x.e,.bool false,.bool false,.int<|m2 (m2 x.e sl) sr,.int 0,.bool x.r,l,r,p],λx sl sr=>om (om (some x.e) sl) sr,none,λrs v=>.inst 3 (v::rs)⟩
noncomputable abbrev TO:Tr Ov->V->Ch:=Tc kO
noncomputable abbrev CO(ta:Nat)(n:List V):List (Fr Ov)->Option Int->V->Ch:=Cc kO ta n
noncomputable abbrev ZO(ta:Nat)(n:List V):List (Fr Ov)->Tr Ov->Ch:=Zp kO ta n
noncomputable def no(a:Nat)(x:Ov)(m:Int)(l r p:V):Ch:=[(a,.inst 2 [.int x.n,.int x.b,.int x.e,.bool false,.bool false,.int m,.int 0,.bool x.r,l,r,p])]
theorem tc:∀s t:Option Int,om s t=om t s
 |none,none=>rfl
 |none,some _=>rfl
 |some _,none=>rfl
 |some x,some y=>agX some<|Int.max_comm x y
theorem mQ:∀s t u:Option Int,om (om s t) u=om s (om t u)
 |none,_,_=>rfl
 |some _,none,_=>rfl
 |some _,some _,none=>rfl
 |some x,some y,some z=>agX some<|Int.max_assoc x y z
section
variable{b z:Nat}{x y:Ov}{t s s1 s2 s3 lt rt:Tr Ov}{c:List (Fr Ov)}
theorem W.te{t1 t2:Tr Ov}(k:W d F K (no a x (m2 (m2 x.e<|kO.su t1)<|kO.su t2) t1.ptr t2.ptr q::TO t1 (.ref a)::TO t2 (.ref a)::cs) l p):W d F K (TO (.nd a x t1 t2) q::cs) l p:=.pm (ql (K:=kO)) k
theorem W.w5{t1 t2:Tr Ov}(k:W d F K (TO (.nd a x t1 t2) q::cs) l p):W d F K (no a x (m2 (m2 x.e<|kO.su t1)<|kO.su t2) t1.ptr t2.ptr q::TO t1 (.ref a)::TO t2 (.ref a)::cs) l p:=.pm (ql (K:=kO)).symm k
theorem W.xe(xs:cI d F cs l es vs)(c:Co d F f vs cs .none cs)(k:W d F K cs l p):W d F K cs l (.expr (ca f es)::p):=.xp (.ca xs<|c (λv c=>v= .none/\W d F K c l p) ⟨ag0,k⟩)
theorem Ld(i:Nat)(m:nt cs i=TO s q)(x1:Ev d F cs l e1 s.ptr)(x2:Ev d F cs l e w)(k:W d F K (ups cs i<|TO s w) l p):W d F K cs l (.ite (cm .aY e1 cN) (sl [.ag (.attr e1 4) e]) (sl [])::p):=by
 induction s with
 |nil=>exact .el (.aV x1 .k ag0)<|(agX (ups cs i) m).symm.trans (BK cs i)▸k
 |nd b y l r=>exact .it (.aV x1 .k ag0)<|.put x2 x1 i m ag0 k
theorem W.t2{t:Nat}{b:List S}{v1:V}{l1 l2:Loc}(x:Ev d F cs l e (.tup [v1,v2]))(q:aR t l.length)(q1:aR t l1.length)(q2:aR t l2.length)(h1:∀K':Loc->List Ch->Prop,K' l1 cs->W d F (kb K K') cs (st l t v1) b)(h2:∀K':Loc->List Ch->Prop,K' l2 cs->W d F (kb K K') cs (st l1 t v2) b)(k:W d F K cs l2 p):W d F K cs l (.for [t] (.seq e) (sl b)::p):=
 .f1 (.tup x) ⟨Unit,λk _=>match k with|0=>l|1=>l1|_=>l2,λ_ _=>cs,λ_ _=>True⟩ (λ_ _ _=>.tup) (λk _=>match k with|0=>q|1=>q1|_+2=>q2) (λk v i K' hv o hk=>match k,hv,hk with
  |0,hv,hk=>av hv▸h1 K' (hk () trivial)
  |1,hv,hk=>av hv▸h2 K' (hk () trivial)
  |_+2,hv,_=>nomatch hv) (λ_ _=>k) () trivial ag0 rfl
theorem oq(h:Fact F cs a (.inst 2 (u1::u2::u3::u4::u5::u6:: .int 0::r))):Co (d+1) F 24 [.ref a] cs .none cs:=λK k=>
 aw ZZ ag0 (.it (.cm (.at (.lo ag0) h ag0) .k ag0)<|.ret .k k)
theorem Le{z:Int}(h:RF F cs kO t q)(k:K' [some v,some (.int (m2 z (kO.su t))),some t.ptr,none,none] cs):W d F (kb K K') cs [some v,some (.int z),some t.ptr,none,none] [.ite (cm .aY (lo 2) cN) (sl [ak 1 (Pl.pr .max2 [lo 1,Pl.pr .add [at_ 13 (lo 2),at_ 14 (lo 2)]])]) (sl [])]:=match t,h,k with
 | .nil,_,k=>.el (.aV (.lo ag0) .k ag0)<|.nil k
 | .nd a x l r,h,k=>.it (.aV (.lo ag0) .k ag0) (.as (.max (.lo ag0) (.ie (.add (.at (.lo ag0) h ag0)<|.at (.lo ag0) h ag0)<|dS _)) rfl<|.nil k)
theorem w6{z:Int}(h:Fact F cs a (.inst 2 [u1,u2,.int z,u3,u4,u5,u6,u7,lt.ptr,rt.ptr,u]))(h1:RF F cs kO lt q)(h2:RF F cs kO rt v):Co (d+1) F 26 [.ref a] cs (.int (m2 (m2 z<|kO.su lt)<|kO.su rt)) cs:=λK k=>
 aw Z1 ag0 (.as (.at (.lo ag0) h ag0) ag0 (.t2 (.tp (.two (.at (.lo ag0) h ag0)<|.at (.lo ag0) h ag0)<|au ag0) ag0 rfl ag0 (λK' hk=>Le h1 hk) (λK' hk=>Le h2 hk)<|.ret (.lo ag0) k))
theorem Lg{u0:V}:Co (d+1) F 28 [.ref ta,aM c,.ref a,.ref b] [[(b,.inst 2 [u1,u2,u3,u4,u5,u6,u7,u8,u9,u0,q])],CO ta n c S'<|.ref a,[(a,o)]] .none [[(b,.inst 2 [u1,u2,u3,u4,u5,u6,u7,u8,u9,u0,aM c])],CO ta n c S'<|.ref b,[(a,o)]]:=λK k=>
 aw Z2 rfl (match c,k with
  | [],k=>.it (.is (.lo ag0) .k ag0) (.put (.lo ag0) (.lo ag0) 1 ag0 rfl<|.it (.aV (.lo ag0) .k ag0) (.put (.lo ag0) (.lo ag0) 0 ag0 rfl<|.nil k))
  |⟨true,fa,fx,fo⟩::c,k=>.el (.is (.lo ag0) .k ag0)<|.it (.is (.ax (.lo ag0) 1 ag0 rfl) (.lo ag0) (agX some<|agZ ag0)) (.put (.lo ag0) (.lo ag0) 1 ag0 rfl<|.it (.aV (.lo ag0) .k ag0) (.put (.lo ag0) (.lo ag0) 0 ag0 rfl<|.nil k))
  |⟨false,fa,fx,.nil⟩::c,k=>.el (.is (.lo ag0) .k ag0)<|.el (.is (.ax (.lo ag0) 1 ag0 rfl) (.lo ag0) ag0) (.put (.lo ag0) (.lo ag0) 1 ag0 rfl<|.it (.aV (.lo ag0) .k ag0) (.put (.lo ag0) (.lo ag0) 0 ag0 rfl<|.nil k))
  |⟨false,fa,fx,.nd z zx zl zr⟩::c,k=>.ne 1 1 (.tail _<|.head _) (.head _) λe=>.el (.is (.lo ag0) .k ag0)<|.el (.is (.ax (.lo ag0) 1 ag0 rfl) (.lo ag0) (agX some<|decide_eq_false e)) (.put (.lo ag0) (.lo ag0) 1 ag0 rfl<|.it (.aV (.lo ag0) .k ag0) (.put (.lo ag0) (.lo ag0) 0 ag0 rfl<|.nil k)))
theorem ada:Co (d+2) F 29 [.ref ta,.ref a] [TO (.nd a x s3<|.nd b y s2 s1) (aM c),CO ta n c S'<|.ref a] .none [TO (.nd b y (.nd a x s3 s2) s1) (aM c),CO ta n c S'<|.ref b]:=λK k=>
 aw Z3 ag0 (.te (.as (.ax (.lo ag0) 0 ag0 rfl) ag0 (.xe (.one<|.lo ag0) (oq<|.ix 0 ag0) (.xe (.one<|.lo ag0) (oq<|.ix 2 ag0) (.re [2] (.te
  (.put (.ax (.lo ag0) 0 ag0 rfl) (.lo ag0) 3 ag0 rfl (Ld 1 ag0 (.ax (.lo ag0) 0 ag0 rfl) (.lo ag0)
   (.xc (.cons (.lo ag0)<|.cons (.ax (.lo ag0) 3 ag0 rfl) (.two (.lo ag0)<|.lo ag0)) [0,4,2] Lg ag0
    (.put (.lo ag0) (.lo ag0) 0 ag0 rfl (.put (.lo ag0) (.lo ag0) 2 ag0 rfl (.put (.ca (.one<|.lo ag0) (w6 (.ix 2 ag0) (RF.ix 5 ag0)<|RF.ix 3 ag0)) (.lo ag0) 2 ag0 rfl
     (.re [2,4,2] (.w5 (a:=a) (x:=x) (.put (.ca (.one<|.lo ag0) (w6 (lt:=.nd a x s3 s2) (.ix 1 ag0) (RF.ix 0 ag0)<|RF.ix 3 ag0)) (.lo ag0) 1 ag0 rfl
      (.re [1,0,1] (.w5 (a:=b) (x:=y) (t1:=.nd a x s3 s2)<|.nil k)))))))))))))))))
theorem adb:Co (d+2) F 30 [.ref ta,.ref a] [TO (.nd a x (.nd b y s1 s2) s3) (aM c),CO ta n c S'<|.ref a] .none [TO (.nd b y s1<|.nd a x s2 s3) (aM c),CO ta n c S'<|.ref b]:=λK k=>
 aw Z4 ag0 (.te (.as (.ax (.lo ag0) 0 ag0 rfl) ag0 (.xe (.one<|.lo ag0) (oq<|.ix 0 ag0) (.xe (.one<|.lo ag0) (oq<|.ix 1 ag0) (.re [1] (.te
  (.put (.ax (.lo ag0) 0 ag0 rfl) (.lo ag0) 3 ag0 rfl (Ld 2 ag0 (.ax (.lo ag0) 0 ag0 rfl) (.lo ag0)
   (.xc (.cons (.lo ag0)<|.cons (.ax (.lo ag0) 3 ag0 rfl) (.two (.lo ag0)<|.lo ag0)) [0,4,2] Lg ag0
    (.put (.lo ag0) (.lo ag0) 0 ag0 rfl (.put (.lo ag0) (.lo ag0) 2 ag0 rfl (.put (.ca (.one<|.lo ag0) (w6 (.ix 2 ag0) (RF.ix 4 ag0)<|RF.ix 5 ag0)) (.lo ag0) 2 ag0 rfl
     (.re [2,3,3] (.w5 (a:=a) (x:=x) (.put (.ca (.one<|.lo ag0) (w6 (rt:=.nd a x s2 s3) (.ix 1 ag0) (RF.ix 3 ag0)<|RF.ix 0 ag0)) (.lo ag0) 1 ag0 rfl
      (.re [1,2,0] (.w5 (a:=b) (x:=y) (t2:=.nd a x s2 s3)<|.nil k)))))))))))))))))
theorem adc:kO.su (.nd a x s3<|.nd b y s2 s1)=kO.su (.nd b y (.nd a x s3 s2) s1):=
 (mQ (om (some x.e)<|kO.su s3) (om (some y.e)<|kO.su s2)<|kO.su s1).symm.trans (agX (om · (kO.su s1))<|(agX (om (om (some x.e)<|kO.su s3)) (tc (some y.e)<|kO.su s2)).trans ((mQ _ _ _).symm.trans<|tc _ _))
theorem ade:kO.su (.nd a x (.nd b y s1 s2) s3)=kO.su (.nd b y s1<|.nd a x s2 s3):=
 (agX (om · (kO.su s3)) ((tc (some x.e) _).trans<|(mQ _ _ _).trans (agX (om (om (some y.e)<|kO.su s1))<|tc _ _))).trans (mQ _ _ _)
end
variable{KV:VK}{b z:Nat}{x y:Ov}{t t' s:Tr Ov}{c c1:List (Fr Ov)}{f f' g:Fr Ov}{k:Bool}
abbrev On:=Nat×Int×Int×Int
noncomputable def bM(a:Nat)(x:Ov):On:=(a,x.n,x.b,x.e)
def ay:Tr Ov->List On
 | .nil=>[]
 | .nd a x l r=>ay l++bM a x::ay r
def iq:List (Fr Ov)->List On
 | []=>[]
 |⟨true,_,_,_⟩::c=>iq c
 |⟨false,a,x,o⟩::c=>iq c++(ay o++ [bM a x])
def fW:List (Fr Ov)->List On
 | []=>[]
 |⟨true,a,x,o⟩::c=>bM a x::(ay o++fW c)
 |⟨false,_,_,_⟩::c=>fW c
theorem lH:∀(c:List (Fr Ov)) (t:Tr Ov),ay (up c t)=iq c++(ay t++fW c)
 | [],t=>(bc _).symm
 |⟨true,a,x,o⟩::c,t=>(lH c<|.nd a x t o).trans<|agX (iq c++ ·) (aJ (ay t) (bM a x::ay o)<|fW c)
 |⟨false,a,x,o⟩::c,t=>(lH c<|.nd a x o t).trans<|(agX (iq c++ ·)<|(aJ (ay o) (bM a x::ay t)<|fW c).trans (aJ (ay o) [bM a x]<|ay t++fW c).symm).trans (aJ _ _ _).symm
noncomputable def ir(f:Fr Ov)(k:Bool):Fr Ov:=⟨f.s,f.a,⟨f.x.n,f.x.b,f.x.e,k⟩,f.o⟩
noncomputable def th(k:Bool):Tr Ov->Tr Ov
 | .nil=>.nil
 | .nd a x l r=>.nd a ⟨x.n,x.b,x.e,k⟩ l r
noncomputable def gQ:Tr Ov->Bool
 | .nil=>false
 | .nd _ x _ _=>x.r
def nn:Tr Ov->Prop
 | .nil=>False
 | .nd _ _ _ _=>True
def RB:List (Fr Ov)->Prop
 | []=>True
 |f::c=>(c= []->f.x.r=false)/\RB c
section
variable{s1 s2 s3 lt rt T:Tr Ov}{L:List On}
theorem adf:∀{f:Fr Ov},mI (f.ob kO S' v w) 4=some w
 |⟨true,_,_,_⟩=>rfl
 |⟨false,_,_,_⟩=>rfl
theorem Lh:∀{f:Fr Ov},mI (f.ob kO S' v w) 15=some (.bool f.x.r)
 |⟨true,_,_,_⟩=>rfl
 |⟨false,_,_,_⟩=>rfl
theorem qt:∀{f:Fr Ov},sP (f.ob kO S' v w) 15 (.bool k)=some ((ir f k).ob kO S' v w)
 |⟨true,_,_,_⟩=>rfl
 |⟨false,_,_,_⟩=>rfl
theorem Li:∀{f:Fr Ov},(ir f k).sm kO S'=f.sm kO S'
 |⟨true,_,_,_⟩=>rfl
 |⟨false,_,_,_⟩=>rfl
theorem Lj:∀{f:Fr Ov},ay (dc (ir f k) t)=ay (dc f t)
 |⟨true,_,_,_⟩=>rfl
 |⟨false,_,_,_⟩=>rfl
theorem Lk:∀{f:Fr Ov},ay t=ay t'->ay (dc f t)=ay (dc f t')
 |⟨true,a,x,o⟩,h=>agX (· ++ bM a x::ay o) h
 |⟨false,a,x,o⟩,h=>agX (ay o++bM a x:: ·) h
theorem w7(h:ay t=ay t'):ay (up c t)=ay (up c t'):=(lH c t).trans<|(agX (λl=>iq c++(l++fW c)) h).trans (lH c t').symm
theorem Ll:∀(f:Fr Ov) (t:Tr Ov),nn (dc f t)
 |⟨true,_,_,_⟩,_=>trivial
 |⟨false,_,_,_⟩,_=>trivial
theorem Lm:∀(c:List (Fr Ov)) {t:Tr Ov},nn t->nn (up c t)
 | [],_,h=>h
 |f::c,t,_=>Lm c<|Ll f t
theorem Cd:(ZO ta n (f::g::c) t::cs).flatten.Perm (TO t (.ref f.a):: [(f.a,f.ob kO (kO.su t) t.ptr<|.ref g.a)]::TO f.o (.ref f.a):: [(g.a,g.ob kO (f.sm kO<|kO.su t) (.ref f.a)<|aM c)]::TO g.o (.ref g.a)::CO ta n c (g.sm kO (f.sm kO<|kO.su t)) (.ref g.a)::cs).flatten:=
 .of_eq ((aJ _ _ _).trans (agX (TO t _++ ·)<|agX (gI _) ((aJ (TO f.o _) _ _).trans<|agX (TO f.o _++ ·) (agX (gI _)<|aJ _ _ _))))
theorem W.o2(k:W d F K (TO t (.ref f.a):: [(f.a,f.ob kO (kO.su t) t.ptr<|.ref g.a)]::TO f.o (.ref f.a):: [(g.a,g.ob kO (f.sm kO<|kO.su t) (.ref f.a)<|aM c)]::TO g.o (.ref g.a)::CO ta n c (g.sm kO (f.sm kO<|kO.su t)) (.ref g.a)::cs) l p):W d F K (ZO ta n (f::g::c) t::cs) l p:=.pm Cd k
theorem W.c2{k1 k2:Bool}(k:W d F K (ZO ta n (ir f k1::ir g k2::c) t::cs) l p):W d F K (TO t (.ref f.a):: [(f.a,(ir f k1).ob kO (kO.su t) t.ptr<|.ref g.a)]::TO f.o (.ref f.a):: [(g.a,(ir g k2).ob kO (f.sm kO<|kO.su t) (.ref f.a)<|aM c)]::TO g.o (.ref g.a)::CO ta n c (g.sm kO (f.sm kO<|kO.su t)) (.ref g.a)::cs) l p:=
 .pm (by have:=(Cd (ta:=ta) (n:=n) (f:=ir f k1) (g:=ir g k2) (c:=c) (t:=t) (cs:=cs)).symm;rw [Li,Li] at this;exact this) k
theorem W.yu(k:W d F K (ZO ta n c (up c1 t)::cs) l p):W d F K (ZO ta n (c1++c) t::cs) l p:=.pm ((mM c1 t).append_right _) k
theorem W.yf(k:W d F K (ZO ta n (f::c) t::cs) l p):W d F K (ZO ta n c (dc f t)::cs) l p:=.pm ((mL f t).symm.append_right _) k
theorem W.yg(k:W d F K (ZO ta n c (dc f t)::cs) l p):W d F K (ZO ta n (f::c) t::cs) l p:=.pm ((mL f t).append_right _) k
theorem Ln:(ZO ta n c t).Perm (ZO ta n []<|up c t):=(agX (λc'=>(ZO ta n c' t).Perm (ZO ta n []<|up c t))<|bc c).mp<|mM (c:=[]) c t
theorem W.y0(k:W d F K (ZO ta n [] (up c t)::cs) l p):W d F K (ZO ta n c t::cs) l p:=.pm (Ln.append_right _) k
theorem Lq:Co (d+1) F 31 [.none] cs (.bool false) cs:=λK k=>aw JA rfl<|.ret (.ew<|.aV (.lo ag0) .k ag0) k
theorem Ce(h:Fact F cs a o)(q:mI o 15=some (.bool k)):Co (d+1) F 31 [.ref a] cs (.bool k) cs:=λK kk=>aw JA rfl<|.ret (.cS (.aV (.lo ag0) .k ag0)<|.at (.lo ag0) h q) kk
theorem adg(h:RF F cs kO t q):Co (d+1) F 31 [t.ptr] cs (.bool (gQ t)) cs:=match t,h with
 | .nil,_=>Lq
 | .nd _ _ _ _,h=>Ce h ag0
theorem Lr(e:S'=kO.su t):([TO t (aM c),CO ta n c S' t.ptr]:List Ch).flatten.Perm ([ZO ta n c t]:List Ch).flatten:=e▸(ib (K:=kO) (cs:=[])).symm
theorem Ls:Co (d+2) F 29 [.ref ta,.ref a] [ZO ta n c (.nd a x s3<|.nd b y s2 s1)] .none [ZO ta n c (.nd b y (.nd a x s3 s2) s1)]:=.pm (ib (K:=kO) (cs:=[])) ada (Lr (t:=.nd b y (.nd a x s3 s2) s1)<|adc (a:=a))
theorem Lu:Co (d+2) F 30 [.ref ta,.ref a] [ZO ta n c (.nd a x (.nd b y s1 s2) s3)] .none [ZO ta n c (.nd b y s1<|.nd a x s2 s3)]:=.pm (ib (K:=kO) (cs:=[])) adb (Lr (t:=.nd b y s1<|.nd a x s2 s3)<|ade (a:=a))
theorem Lv:ay (.nd a x s3<|.nd b y s2 s1)=ay (.nd b y (.nd a x s3 s2) s1):=(aJ (ay s3) (bM a x::ay s2) (bM b y::ay s1)).symm
theorem Lx:ay (.nd a x (.nd b y s1 s2) s3)=ay (.nd b y s1<|.nd a x s2 s3):=aJ (ay s1) (bM b y::ay s2) (bM a x::ay s3)
theorem RZ.Ly{α:Type}{m':(α->Hp->Prop)->Hp->Prop}{K:α->List Ch->Prop}(i:Nat)(m:nt cs i=ZO ta n c t)(k:RZ F cs kO ta n c t->Mt F cs m' K):Mt F cs m' K:=λR H Q s q=>by have n:=(kj.mp<|bK▸(Sat.perm s<|(lz cs i).append_right _).1).1;exact k ⟨λq k=>.cx (gy cs i<|m▸k),(agX (λc=>(c.map (·.1)).Nodup) m).mp (kj.mp<|bK▸n).1⟩ R H Q s q
theorem W.rz(i:Nat)(m:nt cs i=ZO ta n c t)(k:RZ F cs kO ta n c t->W d F K cs l p):W d F K cs l p:=RZ.Ly i m k
theorem RZ.Lz:∀{o:Tr Ov},RZ F cs kO ta n (⟨k,z,y,o⟩::c) (.nd a x lt rt)->gn o.ptr (.ref a)=some false
 | .nil,_=>rfl
 | .nd _ _ _ _,h=>agX some<|decide_eq_false h.ne.symm
theorem adh:∀(f:Fr Ov) (t:Tr Ov),nn t->∀{s:Bool},(∀f' t',f'.s=s->nn t'->ay (dc f' t')=ay (dc f t)->KV t'.ptr [ZO ta n (f'::c) t'])->Cl (d+3) F KV [ZO ta n (f::c) t] 33 [.ref ta,t.ptr,.bool s]
 |⟨true,fa,fx,fo⟩,.nd a x l r,_,true,k=>aw wB rfl<|.rz 0 ag0 λh=>.as (.at (.lo ag0) h.tr.rt ag0) ag0 (.el (.cS (.lo ag0)<|.is (.at (.lo ag0) h.fr ag0) (.lo ag0) h.Lz)<|.el (.ew (.sS<|.lo ag0)) (.ret (.lo ag0)<|k ⟨true,fa,fx,fo⟩ (.nd a x l r) ag0 trivial ag0))
 |⟨true,fa,fx,fo⟩,.nd a x l r,_,false,k=>aw wB ag0 (.rz 0 ag0 λh=>.as (.at (.lo ag0) h.tr.rt ag0) rfl<|.el (.ew<|.lo ag0) (.it (.cS (.mK<|.lo ag0)<|.is (.at (.lo ag0) h.fr ag0) (.lo ag0) (agX some<|agZ ag0))<|.yg (.xc (.two (.lo ag0)<|.lo ag0) [0] Lu rfl<|.yf (f:=⟨false,a,x,l⟩) (t:=.nd fa fx r fo) (.ret (.lo ag0)<|k ⟨false,a,x,l⟩ (.nd fa fx r fo) ag0 trivial Lx.symm))))
 |⟨false,fa,fx,fo⟩,.nd a x l r,_,true,k=>aw wB rfl<|.rz 0 ag0 λh=>.as (.at (.lo ag0) h.tr.rt ag0) ag0 (.it (.cS (.lo ag0)<|.is (.at (.lo ag0) h.fr ag0) (.lo ag0) (agX some<|agZ ag0))<|.yg (.xc (.two (.lo ag0)<|.lo ag0) [0] Ls rfl<|.yf (f:=⟨true,a,x,r⟩) (t:=.nd fa fx fo l) (.ret (.lo ag0)<|k ⟨true,a,x,r⟩ (.nd fa fx fo l) ag0 trivial Lv.symm)))
 |⟨false,fa,fx,fo⟩,.nd a x l r,_,false,k=>aw wB rfl<|.rz 0 ag0 λh=>.as (.at (.lo ag0) h.tr.rt ag0) ag0 (.el (.ew<|.lo ag0)<|.el (.cS (.mK<|.lo ag0)<|.is (.at (.lo ag0) h.fr ag0) (.lo ag0) h.Lz) (.ret (.lo ag0)<|k ⟨false,fa,fx,fo⟩ (.nd a x l r) ag0 trivial ag0))
end
variable{o go r:Tr Ov}{L:List On}{y4 y5:Option V}{fa:Nat}
section
variable{l:Loc}{ga:Nat}{gx:Ov}{s1 s2 s3 lt rt T:Tr Ov}{v:V}{gs:Bool}{y2 y3:Option V}
theorem W.c3(k:W d F K (ZO ta n (ir f false::ir ⟨gs,ga,gx,th false o⟩ true::c) t::cs) l p):W d F K (TO t (.ref f.a):: [(f.a,(ir f false).ob kO (kO.su t) t.ptr (.ref ga))]::TO f.o (.ref f.a):: [(ga,(ir ⟨gs,ga,gx,o⟩ true).ob kO (f.sm kO (kO.su t)) (.ref f.a) (aM c))]::TO (th false o) (.ref ga)::CO ta n c (Fr.sm kO ⟨gs,ga,gx,o⟩ (f.sm kO (kO.su t))) (.ref ga)::cs) l p:=by rcases o<;>rcases gs<;>exact W.c2 (g:=⟨_,ga,gx,th false _⟩) k
theorem LA:∀{o:Tr Ov},ay (th k o)=ay o
 | .nil=>rfl
 | .nd _ _ _ _=>rfl
theorem adi:∀{gs:Bool},ay (dc ⟨gs,ga,gx,th k o⟩ t)=ay (dc ⟨gs,ga,gx,o⟩ t)
 |true=>agX (λl=>ay t++bM ga gx::l) LA
 |false=>agX (· ++ bM ga gx::ay t) LA
theorem adj:∀{f:Fr Ov},(dc f t).ptr= .ref f.a
 |⟨true,_,_,_⟩=>rfl
 |⟨false,_,_,_⟩=>rfl
def cnP(ta:Nat)(n:List V)(L:List On):Lp:=⟨List (Fr Ov)×Tr Ov×Option V×Option V×Option V×Option V,λi=>[some (.ref ta),some i.2.1.ptr,i.2.2.1,i.2.2.2.1,i.2.2.2.2.1,i.2.2.2.2.2,none,none],λi=>[ZO ta n i.1 i.2.1],λi=>ay (up i.1 i.2.1)=L/\RB i.1/\nn i.2.1,λi=>i.1.length⟩
theorem adl{ls:Loc}(k:∀T,ay T=L->gQ T=false->nn T->KV .none [ZO ta n [] T]):∀(T:Tr Ov),nn T->ay T=L->W d F (fK KV) [ZO ta n [] T] (some (.ref ta)::ls) [.ag (.attr (at_ 5<|lo 0) 15) cF]
 | .nd z y l r,_,hL=>.rz 0 ag0 λh=>.put .k (.at (.lo ag0) h.rt ag0) 0 ag0 rfl (.nil<|k (.nd z ⟨y.n,y.b,y.e,false⟩ l r) hL ag0 trivial)
theorem adm(hn:nn t)(k:W d F K (TO t (.ref f.a):: [(f.a,f.ob kO (kO.su t) t.ptr<|.ref g.a)]::TO f.o (.ref f.a):: [(g.a,g.ob kO (f.sm kO<|kO.su t) (.ref f.a)<|aM c)]::TO g.o (.ref g.a)::cs) [some (.ref ta),some t.ptr,some<|.ref f.a,some<|.ref g.a,some<|.bool g.s,some g.o.ptr,none,none] p):
 W d F K (TO t (.ref f.a):: [(f.a,f.ob kO (kO.su t) t.ptr<|.ref g.a)]::TO f.o (.ref f.a):: [(g.a,g.ob kO (f.sm kO<|kO.su t) (.ref f.a)<|aM c)]::TO g.o (.ref g.a)::cs) [some (.ref ta),some t.ptr,y2,y3,y4,y5,none,none] (ak 2 (at_ 4<|lo 1)::ak 3 (at_ 4<|lo 2)::ak 4 (cm .is (at_ 2<|lo 3)<|lo 2)::ak 5 (.ite (lo 4) (at_ 3<|lo 3) (at_ 2<|lo 3))::p):=by
 cases t with
 |nil=>exact hn.elim
 |nd a x l r=>
  refine .as (.ax (.lo rfl) 0 rfl rfl) rfl (.as (.ax (.lo rfl) 1 rfl adf) rfl ?_);obtain ⟨gs,ga,gx,go⟩:=g
  induction gs with
  |true=>exact .as (.is (.ax (.lo ag0) 3 ag0 rfl) (.lo ag0) (agX some<|agZ ag0)) rfl<|.as (.dp (.lo ag0)<|.ax (.lo ag0) 3 ag0 rfl) ag0 k
  |false=>
   cases go with
   |nil=>exact .as (.is (.ax (.lo ag0) 3 ag0 rfl) (.lo ag0) ag0) rfl<|.as (.eg (.lo ag0)<|.ax (.lo ag0) 3 ag0 rfl) ag0 k
   |nd u ux ul ur=>exact .ne 1 3 (.head _) (.head _) λe=>.as (.is (.ax (.lo ag0) 3 ag0 rfl) (.lo ag0)<|agX some (decide_eq_false<|cU e)) rfl<|.as (.eg (.lo ag0)<|.ax (.lo ag0) 3 ag0 rfl) ag0 k
theorem adn{fx:Ov}{fo l:Tr Ov}(hk:∀c' t',c'.length<c.length+2->ay (up c' t')=L->RB c'->nn t'->K' [some (.ref ta),some t'.ptr,y2,some<|.ref ga,some<|.bool true,y5,none,none] [ZO ta n c' t'])(rb:RB c)(hL:ay (up c<|.nd ga gx (.nd fa fx (.nd a x l r) fo) go)=L):
 W (d+3) F (kb (fK KV) K') [ZO ta n (⟨true,fa,fx,fo⟩::⟨true,ga,gx,go⟩::c) (.nd a x l r)] [some (.ref ta),some<|.ref a,y2,some<|.ref ga,some<|.bool true,y5,none,none] [.ag (.attr (at_ 4<|lo 1) 15) cF,.ag (.attr (lo 3) 15) cT,.ite (lo 4) (sl [.expr (ca 30 [lo 0,lo 3])])<|sl [.expr (ca 29 [lo 0,lo 3])]]:=
 .o2 (.put .k (.ax (.lo ag0) 0 ag0 rfl) 1 ag0 qt (.put .k (.lo ag0) 3 ag0 qt<|.c2 (.yu (c1:=[_,_])<|.it (.lo ag0) (.xc (.two (.lo ag0)<|.lo ag0) [0] Lu rfl<|.yf (f:=⟨true,fa,⟨fx.n,fx.b,fx.e,false⟩,.nd ga ⟨gx.n,gx.b,gx.e,true⟩ fo go⟩) (t:=.nd a x l r) (.nil<|hk (⟨true,fa,⟨fx.n,fx.b,fx.e,false⟩,.nd ga ⟨gx.n,gx.b,gx.e,true⟩ fo go⟩::c) (.nd a x l r) (eV _) (xV (b:=ay (up c<|.nd ga gx (.nd fa fx (.nd a x l r) fo) go)) (w7 (c:=c) Lx.symm) hL) ⟨λ_=>ag0,rb⟩ trivial)))))
theorem ado{fx:Ov}{fo l:Tr Ov}(hk:∀c' t',c'.length<c.length+2->ay (up c' t')=L->RB c'->nn t'->K' [some (.ref ta),some t'.ptr,y2,some<|.ref ga,some<|.bool false,y5,none,none] [ZO ta n c' t'])(rb:RB c)(hL:ay (up c<|.nd ga gx go (.nd fa fx fo<|.nd a x l r))=L):
 W (d+3) F (kb (fK KV) K') [ZO ta n (⟨false,fa,fx,fo⟩::⟨false,ga,gx,go⟩::c) (.nd a x l r)] [some (.ref ta),some<|.ref a,y2,some<|.ref ga,some<|.bool false,y5,none,none] [.ag (.attr (at_ 4<|lo 1) 15) cF,.ag (.attr (lo 3) 15) cT,.ite (lo 4) (sl [.expr (ca 30 [lo 0,lo 3])])<|sl [.expr (ca 29 [lo 0,lo 3])]]:=
 .o2 (.put .k (.ax (.lo ag0) 0 ag0 rfl) 1 ag0 qt (.put .k (.lo ag0) 3 ag0 qt<|.c2 (.yu (c1:=[_,_])<|.el (.lo ag0) (.xc (.two (.lo ag0)<|.lo ag0) [0] Ls rfl<|.yf (f:=⟨false,fa,⟨fx.n,fx.b,fx.e,false⟩,.nd ga ⟨gx.n,gx.b,gx.e,true⟩ go fo⟩) (t:=.nd a x l r) (.nil<|hk (⟨false,fa,⟨fx.n,fx.b,fx.e,false⟩,.nd ga ⟨gx.n,gx.b,gx.e,true⟩ go fo⟩::c) (.nd a x l r) (eV _) (xV (b:=ay (up c<|.nd ga gx go (.nd fa fx fo<|.nd a x l r))) (w7 (c:=c) Lv.symm) hL) ⟨λ_=>ag0,rb⟩ trivial)))))
theorem adp(hk:∀c' t',c'.length<c.length+2->ay (up c' t')=L->RB c'->nn t'->K' [some (.ref ta),some t'.ptr,y2,some<|.ref g.a,some<|.bool g.s,y5,none,none] [ZO ta n c' t'])(rb:RB c)(e:f'.s=g.s)(hn:nn t')(hL:ay (up (f'::g::c) t')=L):
 W (d+3) F (kb (fK KV) K') [ZO ta n (f'::g::c) t'] [some (.ref ta),some t'.ptr,y2,some<|.ref g.a,some<|.bool g.s,y5,none,none] [.ag (.attr (at_ 4<|lo 1) 15) cF,.ag (.attr (lo 3) 15) cT,.ite (lo 4) (sl [.expr (ca 30 [lo 0,lo 3])])<|sl [.expr (ca 29 [lo 0,lo 3])]]:=by
 obtain ⟨fs,fa,fx,fo⟩:=f';obtain ⟨gs,ga,gx,go⟩:=g;cases t' with
 |nil=>exact hn.elim
 |nd a x l r=>
  rcases gs<;>rcases fs
  ·exact ado hk rb hL
  ·nomatch e
  ·nomatch e
  ·exact adn hk rb hL
theorem adq(hk:∀c' t',c'.length<c.length+2->ay (up c' t')=L->RB c'->nn t'->K' [some (.ref ta),some t'.ptr,some<|.ref f.a,some<|.ref ga,some<|.bool gs,some o.ptr,none,none] [ZO ta n c' t'])(rb:RB c)(hL:ay (up (f::⟨gs,ga,gx,o⟩::c) t)=L)(hr:gQ o):
 W (d+3) F (kb (fK KV) K') [TO t (.ref f.a),[(f.a,f.ob kO (kO.su t) t.ptr<|.ref ga)],TO f.o<|.ref f.a,[(ga,Fr.ob kO ⟨gs,ga,gx,o⟩ (f.sm kO<|kO.su t) (.ref f.a)<|aM c)],TO o<|.ref ga,CO ta n c (Fr.sm kO ⟨gs,ga,gx,o⟩ (f.sm kO<|kO.su t))<|.ref ga] [some (.ref ta),some t.ptr,some<|.ref f.a,some<|.ref ga,some<|.bool gs,some o.ptr,none,none] [.ag (.attr (lo 2) 15) cF,.ag (.attr (lo 5) 15) cF,.ag (.attr (lo 3) 15) cT,ak 1<|lo 3]:=
 match o,hr,hk,hL with
 | .nd u ux ul ur,_,hk,hL=>.put .k (.lo ag0) 1 ag0 qt<|.put .k (.lo ag0) 4 ag0 rfl (.put .k (.lo ag0) 3 ag0 qt<|.as (.lo ag0) ag0 (.c3 (o:=.nd u ux ul ur)<|.yu (c1:=[_,_]) (.nil<|(agX (λv=>K' [some (.ref ta),some v,some<|.ref f.a,some<|.ref ga,some<|.bool gs,some<|.ref u,none,none] _) adj).mp (hk c _ (nq<|eD 1) ((w7<|Lj.trans (adi.trans<|Lk Lj)).trans hL) rb<|Ll _ _))))
theorem Tn.ro{s1:List S}(i:Nat)(m:nt cs i=ZO ta n c t)(k:RZ F cs kO ta n c t->Tn d F K e s1 p K' cs l):Tn d F K e s1 p K' cs l:=RZ.Ly i m k
theorem Cf{v:Option V}{ls:Loc}(hn:nn t)(h:RZ F cs kO ta n c t)(co:Co (d+1) F 31 [aM c] cs (.bool k) cs):Ev (d+1) F cs (v::some t.ptr::ls) (ca 31 [at_ 4 (lo 1)]) (.bool k):=by
 induction t with
 |nil=>exact hn.elim
 |nd a x l r=>exact .ca (.one<|.at (.lo ag0) h.tr.rt ag0) co
theorem adr(hn:nn t)(rb:RB c)(k:∀T,ay T=ay (up c t)->gQ T=false->nn T->KV .none [ZO ta n [] T]):Cl (d+4) F KV [ZO ta n c t] 32 [.ref ta,t.ptr]:=by
 refine aw Z5 rfl (.wg (cnP ta n (ay (up c t))) (λi K' o hk=> ?_) (c,t,none,none,none,none) ⟨rfl,rb,hn⟩ rfl rfl);obtain ⟨c,t,y2,y3,y4,y5⟩:=i;have off:∀x2 x3 x4 x5,W (d+3) F (fK KV) [ZO ta n c t] [some (.ref ta),some t.ptr,x2,x3,x4,x5,none,none] [.ag (.attr (at_ 5 (lo 0)) 15) cF]:=λ_ _ _ _=>.y0 (adl k (up c t) (Lm c o.2.2) o.1);refine Tn.ro 0 rfl λh=> ?_;cases c with
 |nil=>exact .off (Cf o.2.2 h Lq)<|off _ _ _ _
 |cons f c1=>
  cases q:f.x.r with
  |false=>exact .off (Cf o.2.2 h (Ce h.fr<|q▸Lh))<|off _ _ _ _
  |true=>
   refine .on (Cf o.2.2 h (Ce h.fr<|q▸Lh)) ?_
   induction c1 with
   |nil=>nomatch q.symm.trans (o.2.1.1 ag0)
   |cons g c2=>exact .o2<|adm o.2.2 (.ite (.ca (.one<|.lo ag0) (adg<|RF.ix 4 ag0)) (λhr=>adq (λc' t' hl hL hb hn=>hk (c',t',_,_,_,_) hl ⟨hL,hb,hn⟩) o.2.1.2.2 o.1 hr) λ_=>.pm Cd.symm<|.bS (.ca (.cons (.lo ag0) (.two (.lo ag0)<|.lo ag0)) (adh f t o.2.2 λf' t' e1 e2 e3=>adp (λc' t' hl hL hb hn=>hk (c',t',_,_,_,_) hl ⟨hL,hb,hn⟩) o.2.1.2.2 e1 e2<|(w7<|Lk e3).trans o.1)) ag0)
end
variable{l:Loc}{l' r':Tr Ov}{v:V}{ee cnt:Int}{D:Ch}{e:On}{post:List On}
def fX(L:List On):Prop:=L.Pairwise λx y=>x.2.2.1<=y.2.2.1
noncomputable def LB:List (Fr Ov)->Bool
 | []=>false
 |f::_=>f.s
noncomputable def nb(b:Nat)(x:Ov)(w p:V):Ch:=[(b,.inst 2 [.int x.n,.int x.b,.int x.e,.bool false,.bool false,.int x.e,.int 0,w,.none,.none,p])]
section
variable{x:Ov}{T:Tr Ov}{r0:Bool}
theorem Cg:∀(c:List (Fr Ov)) {t:Tr Ov},gQ (up c t)=false->RB c
 | [],_,_=>trivial
 |⟨true,a,x,o⟩::c,t,h=>⟨λe=>by rw [e] at h;exact h,Cg c (t:=.nd a x t o) h⟩
 |⟨false,a,x,o⟩::c,t,h=>⟨λe=>by rw [e] at h;exact h,Cg c (t:=.nd a x o t) h⟩
theorem ads(e:Int)(sl sr:Option Int)(ee:Int):max (m2 (m2 e sl) sr) ee=m2 (m2 e (om sl<|some ee)) sr:=av ((mQ (om (some e) sl) sr<|some ee).trans<|(agX (om<|om (some e) sl) (tc sr<|some ee)).trans ((mQ _ _ _).symm.trans<|agX (om · sr) (mQ (some e) sl<|some ee)))
theorem adt(e:Int)(sl sr:Option Int)(ee:Int):max (m2 (m2 e sl) sr) ee=m2 (m2 e sl) (om sr<|some ee):=av (mQ (om (some e) sl) sr<|some ee)
def LC(ta b:Nat)(n:List V)(x:Ov)(w:V)(T:Tr Ov):Lp:=⟨List (Fr Ov)×Tr Ov,λi=>[some (.ref ta),some<|.ref b,some i.2.ptr,some<|aM i.1,some (.bool<|LB i.1),none,none],λi=>[TO i.2 (aM i.1),CO ta n i.1 (om (kO.su i.2)<|some x.e) i.2.ptr,nb b x w .none],λi=>up i.1 i.2=T/\(∀y∈iq i.1,y.2.2.1<=x.b)/\(∀y∈fW i.1,x.b<=y.2.2.1),λi=>(ay i.2).length⟩
theorem LD{x:Nat×O}:(x::(A++(B++(C++D)))).Perm (A++((x::(B++C))++D)):=jb.symm.trans (.of_eq<|agX (λl=>A++x::l) (aJ B C D).symm)
theorem adu{x:Nat×O}:(x::(B++(A++(C++D)))).Perm (A++((x::(B++C))++D)):=(List.Perm.cons x<|eW B A _).trans LD
theorem adv{x:Nat×O}:([x]::A::B::C::cs).flatten.Perm (A::(x::(B++C))::cs).flatten:=LD (A:=A) (B:=B) (C:=C) (D:=cs.flatten)
theorem adx{x:Nat×O}:([x]::B::A::C::cs).flatten.Perm (A::(x::(B++C))::cs).flatten:=adu (A:=A) (B:=B) (C:=C) (D:=cs.flatten)
theorem W.fl(k:W d F K (TO l' (.ref a)::CO ta n (⟨true,a,y,r'⟩::c) (om (kO.su l')<|some ee) l'.ptr::cs) l p):W d F K (no a y (max (m2 (m2 y.e<|kO.su l')<|kO.su r') ee) l'.ptr r'.ptr (aM c)::TO l' (.ref a)::TO r' (.ref a)::CO ta n c (some<|max (m2 (m2 y.e<|kO.su l')<|kO.su r') ee) (.ref a)::cs) l p:=by rw [ads];exact .pm adv k
theorem W.fr(k:W d F K (TO r' (.ref a)::CO ta n (⟨false,a,y,l'⟩::c) (om (kO.su r')<|some ee) r'.ptr::cs) l p):W d F K (no a y (max (m2 (m2 y.e<|kO.su l')<|kO.su r') ee) l'.ptr r'.ptr (aM c)::TO l' (.ref a)::TO r' (.ref a)::CO ta n c (some<|max (m2 (m2 y.e<|kO.su l')<|kO.su r') ee) (.ref a)::cs) l p:=by rw [adt];exact .pm adx k
theorem w8:(ay l').length<(ay<|.nd a y l' r').length:=(aX (as:=ay l') (bs:=bM a y::ay r')).symm▸nq (eD _)
theorem ady:(ay r').length<(ay<|.nd a y l' r').length:=(aX (as:=ay l') (bs:=bM a y::ay r')).symm▸bC (eV _) (dy _ _)
theorem adz(so:fX (ay T))(hx:∀y∈iq c,y.2.2.1<=x.b)(hp:∀y∈fW c,x.b<=y.2.2.1)(hu:up c (.nd a y l' r')=T)(hk:Nx (LC ta b n x w T) K' (c,.nd a y l' r')):
 W (d+4) F (kb K K') [TO (.nd a y l' r') (aM c),CO ta n c (om (kO.su<|.nd a y l' r')<|some x.e)<|.ref a,nb b x w .none] [some (.ref ta),some<|.ref b,some<|.ref a,some<|aM c,some (.bool<|LB c),none,none] [.expr (ca 24 [lo 2]),.ag (.attr (lo 2) 13)<|Pl.pr .max2 [at_ 13 (lo 2),at_ 10<|lo 1],ak 3<|lo 2,ak 4<|cm .le (at_ 9<|lo 1) (at_ 9<|lo 2),ak 2<|.ite (lo 4) (at_ 2<|lo 2) (at_ 3<|lo 2)]:=by
 refine .xe (.one (.lo rfl)) (oq (.ix 0 rfl)) (.te (.put (.max (.ax (.lo rfl) 0 rfl rfl) (.ax (.lo rfl) 4 rfl rfl)) (.lo rfl) 0 rfl rfl (.as (.lo rfl) rfl (.as (.cm (.ax (.lo rfl) 4 rfl rfl) (.ax (.lo rfl) 0 rfl rfl) rfl) rfl ?_))));have so':=lH c (.nd a y l' r')▸(hu.symm▸so:fX (ay (up c (.nd a y l' r'))));have so1:=lY.mp (lY.mp (lY.mp so').2.1).1;cases q:decide (x.b<=y.b) with
 |true=>exact .as (.dp (.lo ag0)<|.ax (.lo ag0) 0 ag0 rfl) rfl<|.fl (.nil<|hk (⟨true,a,y,r'⟩::c,l') w8 ⟨hu,hx,λz hz=>(aO.mp hz).elim (λe=>e▸agY q) λhz=>(b9.mp hz).elim (λhz=>aL (agY q)<|(pb.mp so1.2.1).1 z hz)<|hp z⟩)
 |false=>have lt:=bZ (i8.mp<|of_decide_eq_false q);exact .as (.eg (.lo ag0)<|.ax (.lo ag0) 0 ag0 rfl) rfl<|.fr (.nil<|hk (⟨false,a,y,l'⟩::c,r') ady ⟨hu,λz hz=>(b9.mp hz).elim (hx z) λhz=>(b9.mp hz).elim (λhz=>aL (so1.2.2 z hz _<|.head _) lt) λhz=>(cr.mp hz)▸lt,hp⟩)
theorem adA:up [] .nil≠Tr.nd a y l' r':=nofun
theorem adB{pre:List On}(so:fX (pre++post))(h1:∀y∈pre,y.2.2.1<=e.2.2.1)(h2:∀y∈post,e.2.2.1<=y.2.2.1):fX (pre++e::post):=
 have so:=lY.mp so
 lY.mpr ⟨so.1,pb.mpr ⟨h2,so.2.1⟩,λy hy z hz=>(aO.mp hz).elim (λe=>e▸h1 y hy)<|so.2.2 y hy z⟩
theorem adC{K1:VK}(so:fX (ay T))(hx:∀y∈iq (f::c),y.2.2.1<=x.b)(hp:∀y∈fW (f::c),x.b<=y.2.2.1)(hu:up (f::c) .nil=T)(rb:RB (f::c))(k:∀T' pre post,ay T=pre++post->ay T'=pre++bM b x::post->fX (ay T')->gQ T'=false->KV .none [ZO ta n [] T']):
 W (d+4) F (fK KV) [CO ta n (f::c) (some x.e) .none,nb b x w .none] [some (.ref ta),some<|.ref b,some .none,some<|.ref f.a,some<|.bool f.s,none,none] [.ag (.attr (lo 1) 4) (lo 3),.ite (lo 4) (sl [.ag (.attr (lo 3) 2) (lo 1)])<|sl [.ag (.attr (lo 3) 3) (lo 1)],.ag (.attr (lo 1) 15) cT,.expr<|ca 32 [lo 0,lo 1]]:=by
 have io:ay T=iq (f::c)++fW (f::c):=hu▸lH (f::c) .nil
 have fin:W (d+4) F (fK KV) [CO ta n (f::c) (some x.e) (.ref b),nb b x w<|.ref f.a] [some (.ref ta),some<|.ref b,some .none,some<|.ref f.a,some<|.bool f.s,none,none] [.ag (.attr (lo 1) 15) cT,.expr<|ca 32 [lo 0,lo 1]]:=
  .put .k (.lo ag0) 1 ag0 rfl (.re [1] (.pm (ib (K:=kO) (c:=f::c) (t:=.nd b ⟨x.n,x.b,x.e,true⟩ .nil .nil) (cs:=[])).symm<|.xp (.ca (.two (.lo ag0)<|.lo ag0)<|adr (t:=.nd b ⟨x.n,x.b,x.e,true⟩ .nil .nil) trivial rb λT' e1 e2 _=>⟨ag0,.nil (by have e3:=e1.trans (lH (f::c)<|.nd b ⟨x.n,x.b,x.e,true⟩ .nil .nil);exact k T' _ _ io e3 (e3▸adB (io▸so) hx hp) e2)⟩)))
 obtain ⟨fs,fa,fx,fo⟩:=f
 induction fs with
 |true=>exact .put (.lo ag0) (.lo ag0) 1 ag0 rfl (.it (.lo ag0)<|.put (.lo ag0) (.lo ag0) 0 ag0 rfl fin)
 |false=>exact .put (.lo ag0) (.lo ag0) 1 ag0 rfl (.el (.lo ag0)<|.put (.lo ag0) (.lo ag0) 0 ag0 rfl fin)
theorem adD(so:fX (ay T))(bk:gQ T=false)(k:∀T' pre post,ay T=pre++post->ay T'=pre++bM b x::post->fX (ay T')->gQ T'=false->KV .none [ZO ta [.int (cnt+1)] [] T']):
 Cl (d+5) F KV [ZO ta [.int cnt] [] T,[(b,.inst 2 [.int x.n,.int x.b,.int x.e,.bool false,.bool false,u1,u2,u3,u4,u5,u6])]] 34 [.ref ta,.ref b]:=by
 refine aw Z6 rfl<|.pm (ib (K:=kO)) (.put (.add (.ax (.lo ag0) 1 ag0 rfl) .k) (.lo ag0) 1 ag0 rfl<|.put .k (.lo ag0) 2 ag0 rfl (.put .k (.lo ag0) 2 ag0 rfl<|.put .k (.lo ag0) 2 ag0 rfl (.put .k (.lo ag0) 2 ag0 rfl<|.put (.ax (.lo ag0) 2 ag0 rfl) (.lo ag0) 2 ag0 rfl ?_)))
 induction T with
 |nil=>exact .it (.is (.ax (.lo ag0) 1 ag0 rfl) .k ag0)<|.put .k (.lo ag0) 2 ag0 rfl (.put (.lo ag0) (.lo ag0) 1 ag0 rfl<|.re [2,1] (.dr 2<|.pm (ib (K:=kO) (c:=[]) (t:=.nd b ⟨x.n,x.b,x.e,false⟩ .nil .nil) (cs:=[])).symm (.ret .k<|k _ [] [] ag0 rfl (Eu _ _) ag0)))
 |nd ra rx rl rr=>
  refine .el (.is (.ax (.lo rfl) 1 rfl rfl) .k rfl) (.as (.ax (.lo rfl) 1 rfl rfl) rfl (.as .k rfl (.as .k rfl (.wg (LC ta b [.int (cnt+1)] x u3 (.nd ra rx rl rr)) (λi K' o hk=> ?_) ([],.nd ra rx rl rr) ⟨rfl,λ_ h=>absurd h du,λ_ h=>absurd h du⟩ rfl rfl))));obtain ⟨c,t⟩:=i
  induction t with
  |nd a y l r=>exact .on (.aV (.lo ag0) .k ag0)<|adz so o.2.1 o.2.2 o.1 hk
  |nil=>
   induction c with
   |nil=>exact absurd o.1 adA
   |cons f c=>exact .off (.aV (.lo ag0) .k ag0) (.dr 0<|adC (K1:=KV) so o.2.1 o.2.2 o.1 (Cg (f::c)<|o.1▸bk) k)
end
variable{w:Nat}{x:Ov}{e:Int}{yy:On}
def inR(be en:Int)(y:On):Bool:=decide (y.2.2.1<=en)&&decide (be<=y.2.2.2)
structure Sk where
 a:Nat
 x:Ov
 l:Tr Ov
 r:Tr Ov
noncomputable def Sk.tr(s:Sk):Tr Ov:=.nd s.a s.x s.l s.r
noncomputable def fC:List Sk->List V
 | []=>[]
 |s::r=>fC r++ [.ref s.a]
def rem:List Sk->List On
 | []=>[]
 |s::r=>bM s.a s.x::(ay s.r++rem r)
noncomputable def gA(L:List On):List V:=L.map λy=>.ref y.1
structure Good(F:Ch)(t:Tr Ov):Prop where
 tf:∃p,∀q∈TO t p,q∈F
 so:fX (ay t)
structure NB(F:Ch)(T:Tr Ov)(be en:Int)(fo:List On)(t:Tr Ov)(st:List Sk):Prop where
 eq:(ay T).filter (inR be en)=fo++(ay t++rem st).filter (inR be en)
 gd:Good F t
 gs:∀s∈st,Good F s.tr
 ln:(ay t++rem st).length<=100
 lT:(ay T).length<=100
section
variable{sk N:Nat}{T:Tr Ov}{fo M:List On}{st:List Sk}{s:Sk}
theorem Ci:∀{S':Option Int},e<=m2 e S'
 |none=>eU _
 |some _=>Int.le_max_left _ _
theorem Cj:∀{t:Tr Ov} {P:Prop},yy∈ay t->(∀z,kO.su t=some z->yy.2.2.2<=z->P)->P
 | .nd a x l r,_,h,g=>(b9.mp h).elim (λh=>Cj h λz e le=>g _ ag0 (aL le<|aL (e▸PC x.e z) Ci)) λh=>(aO.mp h).elim (λe=>g _ rfl<|e▸aL Ci Ci) λh=>Cj h λz e le=>g _ ag0 (aL le<|e▸PC _ z)
theorem LF(h:∀y∈L,inR be en y=false):(L++M).filter (inR be en)=M.filter (inR be en):=by rw [EV,Np.mpr λy hy=>Ow _▸h y hy];rfl
theorem Good.fx(h:Good F (.nd a x l' r')):∃p,Fact F cs a (kO.ob x (kO.su l') (kO.su r') l'.ptr r'.ptr p):=let ⟨p,h⟩:=h.tf;⟨p,.fx (h _ (.head _))⟩
theorem Good.le(h:Good F (.nd a x l' r')):Good F l':=⟨let ⟨p,h⟩:=h.tf;⟨_,λq m=>h q (.tail _ (cJ _ m))⟩,(lY.mp h.so).1⟩
theorem Good.ri(h:Good F (.nd a x l' r')):Good F r':=⟨let ⟨p,h⟩:=h.tf;⟨_,λq m=>h q (.tail _ (bp _ m))⟩,(pb.mp (lY.mp h.so).2.1).2⟩
theorem Good.hd(h:Good F (.nd a x l' r')):∀y∈ay r',x.b<=y.2.2.1:=(pb.mp (lY.mp h.so).2.1).1
theorem Good.nil(h:Good F t):Good F .nil:=⟨⟨.none,λ_ h=>absurd h du⟩,.nil⟩
theorem LG:∀(st:List Sk),(fC st).length<=(rem st).length
 | []=>cf _
 |s::r=>(aX (as:=fC r) (bs:=[.ref s.a])).symm▸i9 (ae (LG r)<|(aX (as:=ay s.r) (bs:=rem r)).symm▸dy _ _)
theorem NB.sl(h:NB F T be en fo t st):(fC st).length<lim:=bx (ae (LG st)<|ae ((aX (as:=ay t) (bs:=rem st)).symm▸dy _ _) h.ln)<|au ag0
theorem NB.fl(h:NB F T be en fo t st):(gA fo).length<lim:=bx (ae (ae (aF<|aG _)<|(agX cu h.eq).trans aX▸fh _ _)<|ae (kJ _ _) h.lT)<|au ag0
theorem Ck:ay (.nd a x l' r')++rem st=ay l'++rem (⟨a,x,l',r'⟩::st):=aJ (ay l') (bM a x::ay r')<|rem st
def nbP(F:Ch)(T:Tr Ov)(be en:Int)(ta w sk:Nat)(cs:List Ch):Lp:=⟨List On×Tr Ov×List Sk,λi=>[some (.ref ta),some<|.int be,some<|.int en,some<|.ref w,some<|.ref sk,some i.2.1.ptr,none,none],λi=>[(sk,.list<|fC i.2.2)]:: [(w,.list<|gA i.1)]::cs,λi=>NB F T be en i.1 i.2.1 i.2.2,λi=>(ay i.2.1++rem i.2.2).length⟩
def LH(F:Ch)(T:Tr Ov)(be en:Int)(ta w sk:Nat)(cs:List Ch)(fo:List On)(N:Nat):Lp:=⟨Tr Ov×List Sk,λi=>[some (.ref ta),some<|.int be,some<|.int en,some<|.ref w,some<|.ref sk,some i.1.ptr,none,none],λi=>[(sk,.list<|fC i.2)]:: [(w,.list<|gA fo)]::cs,λi=>NB F T be en fo i.1 i.2/\(ay i.1++rem i.2).length<=N,λi=>(ay i.1).length⟩
theorem adF(h:NB F T be en fo .nil st)(hN:(rem st).length<=N)(h0:0<N)(hk:∀fo' t' st',(ay t'++rem st').length<N->NB F T be en fo' t' st'->K' [some (.ref ta),some<|.int be,some<|.int en,some<|.ref w,some<|.ref sk,some t'.ptr,none,none] ([(sk,.list<|fC st')]:: [(w,.list<|gA fo')]::cs)):
 W d F (kb K K') ([(sk,.list<|fC st)]:: [(w,.list<|gA fo)]::cs) [some (.ref ta),some<|.int be,some<|.int en,some<|.ref w,some<|.ref sk,some .none,none,none] [.ite (cm .gt (Pl.pr .len [lo 4])<|ci 0) (sl [ak 5 (.lm .pop (lo 4)<|el []),.ite (.and (cm .le (at_ 9<|lo 5)<|lo 2) (cm .ge (at_ 10<|lo 5)<|lo 1)) (sl [.expr (.lm .append (lo 3)<|el [lo 5])])<|sl [],ak 5<|.ite (cm .le (at_ 9<|lo 5)<|lo 2) (at_ 3<|lo 5) cN]) (sl [])]:=by
 induction st with
 |nil=>exact .el (.cm (.len (.lo ag0)<|.ix 0 ag0) .k ag0) (.nil<|hk fo .nil [] h0 h)
 |cons s st=>
  obtain ⟨a,x,l,r⟩:=s;have g:Good F (.nd a x l r):=h.gs _ (.head _);obtain ⟨p,hf⟩:=g.fx (cs:=[(sk,.list (fC st))]:: [(w,.list (gA fo))]::cs);have gs:=λs m=>h.gs s (.tail _ m);have eq:(ay T).filter (inR be en)=fo++(bM a x::(ay r++rem st)).filter (inR be en):=h.eq;have lt:(ay r++rem st).length<N:=hN;have lr:(ay r++rem st).length<=100:=ae (oV _) h.ln;refine .it (.cm (.len (.lo rfl) (.ix 0 rfl)) .k (agX some (agZ (dh.mpr ((aX (as:=fC st) (bs:=[.ref a])).symm▸eD _))))) (.bS (.pop (.lo rfl) 0 rfl ?_) rfl);cases q1:decide (x.b<=en) with
  |true=>
   cases q2:decide (be<=x.e) with
   |true=>
    have io:inR be en (bM a x)=true:=by show (decide (x.b<=en)&&decide (be<=x.e))=true;rw [q1,q2];rfl
    obtain ⟨p',hf'⟩:=g.fx (cs:=[(sk,.list (fC st))]:: [(w,.list (gA fo++ [.ref a]))]::cs);refine .it (.cS (.cm (.at (.lo rfl) hf rfl) (.lo rfl) (agX some q1)) (.cm (.at (.lo rfl) hf rfl) (.lo rfl) (agX some q2))) (.xp (.sT (.lo rfl) (.lo rfl) 1 rfl h.fl ⟨rfl,.as (.dp (.cm (.at (.lo rfl) hf' rfl) (.lo rfl) (agX some q1)) (.at (.lo rfl) hf' rfl)) rfl (.nil ?_)⟩));have e1:gA fo++ [.ref a]=gA (fo++ [bM a x]):=(bK (l₁:=fo) (l₂:=[bM a x])).symm;exact e1▸hk (fo++ [bM a x]) r st lt ⟨eq.trans ((agX (fo++ ·) (uw io)).trans (aJ fo [bM a x] _).symm),g.ri,gs,lr,h.lT⟩
   |false=>
    have io:¬inR be en (bM a x)=true:=by show ¬(decide (x.b<=en)&&decide (be<=x.e))=true;rw [q1,q2];nofun
    exact .el (.cS (.cm (.at (.lo ag0) hf ag0) (.lo ag0)<|agX some q1) (.cm (.at (.lo ag0) hf ag0) (.lo ag0)<|agX some q2))<|.as (.dp (.cm (.at (.lo ag0) hf ag0) (.lo ag0)<|agX some q1)<|.at (.lo ag0) hf ag0) ag0 (.nil<|hk fo r st lt ⟨eq.trans (agX (fo++ ·)<|qL io),g.ri,gs,lr,h.lT⟩)
  |false=>
   have no:∀y∈bM a x::ay r,inR be en y=false:=λy hy=>by show (decide (y.2.2.1<=en)&&decide (be<=y.2.2.2))=false;rw [decide_eq_false λh=>of_decide_eq_false q1<|aL ((aO.mp hy).elim (λe=>lW<|agX (·.2.2.1) e.symm)<|g.hd y) h];rfl
   have l2:(rem st).length<=(ay r++rem st).length:=(aX (as:=ay r) (bs:=rem st)).symm▸dy _ _;exact .el (.ew (.cm (.at (.lo ag0) hf ag0) (.lo ag0)<|agX some q1))<|.as (.eg (.cm (.at (.lo ag0) hf ag0) (.lo ag0)<|agX some q1) .k) ag0 (.nil<|hk fo .nil st (bx l2 lt) ⟨eq.trans (agX (fo++ ·)<|LF (L:=bM a x::ay r) no),g.nil,gs,ae l2 lr,h.lT⟩)
theorem adG(hk:Nx (LH F T be en ta w sk cs fo N) K' (t,st))(o:NB F T be en fo t st/\(ay t++rem st).length<=N)(k:∀st,NB F T be en fo .nil st->(rem st).length<=N->W (d+1) F K ([(sk,.list<|fC st)]:: [(w,.list<|gA fo)]::cs) [some (.ref ta),some<|.int be,some<|.int en,some<|.ref w,some<|.ref sk,some .none,none,none] p):
 Tn (d+1) F K (cm .aY (lo 5) cN) [.expr (ca 24 [lo 5]),.ite (cm .lt (at_ 13<|lo 5)<|lo 1) (sl [ak 5 cN])<|sl [.expr (.lm .append (lo 4)<|el [lo 5]),ak 5 (at_ 2<|lo 5)]] p K' ([(sk,.list<|fC st)]:: [(w,.list<|gA fo)]::cs) [some (.ref ta),some<|.int be,some<|.int en,some<|.ref w,some<|.ref sk,some t.ptr,none,none]:=by
 induction t with
 |nil=>exact .off (.aV (.lo ag0) .k ag0)<|k st o.1 o.2
 |nd a x l r=>
  obtain ⟨p,hf⟩:=o.1.gd.fx (cs:=[(sk,.list (fC st))]:: [(w,.list (gA fo))]::cs);obtain ⟨p',hf'⟩:=o.1.gd.fx (cs:=[(sk,.list (fC st++ [.ref a]))]:: [(w,.list (gA fo))]::cs);refine .on (.aV (.lo rfl) .k rfl) (.xe (.one (.lo rfl)) (oq hf) (.ite (.cm (.at (.lo rfl) hf rfl) (.lo rfl) rfl) (λq=>.as .k rfl (.nil (hk (.nil,st) (bx (bq _) w8) ⟨⟨o.1.eq.trans (agX (fo++ ·) (LF λy hy=>Cj hy λz e le=> ?_)),o.1.gd.nil,o.1.gs, ?_,o.1.lT⟩, ?_⟩))) λ_=>.xp (.sT (.lo rfl) (.lo rfl) 0 rfl o.1.sl ⟨rfl,.as (.at (.lo rfl) hf' rfl) rfl (.nil (hk (l,⟨a,x,l,r⟩::st) w8 ⟨⟨Ck (a:=a)▸o.1.eq,o.1.gd.le,λs m=>(aO.mp m).elim (λe=>e▸o.1.gd) (o.1.gs s),Ck (a:=a)▸o.1.ln,o.1.lT⟩,Ck (a:=a)▸o.2⟩))⟩)))
  ·show (decide (y.2.2.1<=en)&&decide (be<=y.2.2.2))=false;rw [decide_eq_false λh=>absurd (gH (aL h le)<|av e▸agY q)<|ny _,m9]
  ·exact ae ((aX (as:=ay<|.nd a x l r) (bs:=rem st)).symm▸dy _ _) o.1.ln
  ·exact ae ((aX (as:=ay<|.nd a x l r) (bs:=rem st)).symm▸dy _ _) o.2
theorem adH(hr:(ta,O.inst 3 (T.ptr::n))∈F)(g:Good F T)(hl:(ay T).length<=100)(k:∀w,KV (.ref w) ([(w,.list<|gA ((ay T).filter<|inR be en))]::cs)):Cl (d+2) F KV cs 42 [.ref ta,.int be,.int en]:=by
 refine aw Z7 rfl (.an (.ls .nil (au rfl)) rfl λw=>.an (.ls .nil (au rfl)) rfl λsk=>.as (.at (.lo rfl) (.fx hr) rfl) rfl (.wg (nbP F T be en ta w sk cs) (λi K' o hk=> ?_) ([],T,[]) ⟨by show _=((ay T++ []).filter _);rw [bc],g,λ_ h=>absurd h du,(bc (ay T)).symm▸hl,hl⟩ rfl rfl));obtain ⟨fo,t,st⟩:=i;have bdy:0<(ay t++rem st).length->W (d+1) F (kb (fK KV) K') ([(sk,.list (fC st))]:: [(w,.list (gA fo))]::cs) [some (.ref ta),some (.int be),some (.int en),some (.ref w),some (.ref sk),some t.ptr,none,none] [.while (cm .aY (lo 5) cN) (sl [.expr (ca 24 [lo 5]),.ite (cm .lt (at_ 13 (lo 5)) (lo 1)) (sl [ak 5 cN]) (sl [.expr (.lm .append (lo 4) (el [lo 5])),ak 5 (at_ 2 (lo 5))])]),.ite (cm .gt (Pl.pr .len [lo 4]) (ci 0)) (sl [ak 5 (.lm .pop (lo 4) (el [])),.ite (.and (cm .le (at_ 9 (lo 5)) (lo 2)) (cm .ge (at_ 10 (lo 5)) (lo 1))) (sl [.expr (.lm .append (lo 3) (el [lo 5]))]) (sl []),ak 5 (.ite (cm .le (at_ 9 (lo 5)) (lo 2)) (at_ 3 (lo 5)) cN)]) (sl [])]:=λpos=>.wg (LH F T be en ta w sk cs fo (ay t++rem st).length) (λi K2 o hk2=>adG hk2 o λst2 h2 hN=>adF h2 hN pos λfo' t' st' lt h=>hk (fo',t',st') lt h) (t,st) ⟨o,cf _⟩ rfl rfl
 induction t with
 |nd a x l r=>exact .on (.mJ<|.aV (.lo ag0) .k ag0)<|bdy (bC (bx (bq _) w8)<|(aX (as:=ay<|.nd a x l r) (bs:=rem st)).symm▸fh _ _)
 |nil=>
  induction st with
  |nil=>have e:fo=(ay T).filter (inR be en):=((o.eq:_=fo++ []).trans<|bc fo).symm;exact .off (.iS (.aV (.lo ag0) .k ag0)<|.cm (.len (.lo ag0)<|.ix 0 ag0) .k ag0)<|.dr 0 (.ret (.lo ag0)<|e▸k w)
  |cons s st=>exact .on (.iS (.aV (.lo ag0) .k ag0)<|.cm (.len (.lo ag0)<|.ix 0 ag0) .k (agX some<|agZ (dh.mpr<|(aX (as:=fC st) (bs:=[.ref s.a])).symm▸eD _))) (bdy<|eD _)
end
variable{A k:Nat}{e:E}{q:Option V}{Q:bA}
noncomputable def Cn:List Nat->V
 | []=>.none
 |y::_=>.ref y
def Zn(F:Ch)(v:V)(p:Option V):Prop:=∀X:Prop,(∀{z u1 u2 u3 u4 u5 u6 u7 u8 u9 w},v= .ref z->(∀q,p=some q->q=w)->(z,O.inst 2 [u1,u2,u3,u4,u5,u6,.int 0,u7,u8,u9,w])∈F->X)->X
def jv(F:Ch):List Nat->Prop
 | []=>True
 |z::r=>Zn F (.ref z) (some<|Cn r)/\jv F r
section
variable{T:Tr Ov}{s dn:List V}
theorem LI(e:h[A]? = some (.list us))(q:us.length<=lim):aQ Mine.G .rev [.ref A] h Q=Q (.ref h.length) (h++ [.list us.reverse]):=dK<|(ly (f:=λ_ xs=>bY h xs.reverse) e).trans (iQ<|ae (aF yL) q)
theorem En.rev(x:Ev d F cs l e (.ref A))(m:Fact F cs A (.list us))(q:us.length<=lim):En d F cs l (Pl.pr .rev [e]) us.reverse:=λK k=>We.pr (.one x)<|.mk k λR H s Q q'=>(LI (m R H s) q).mpr q'
theorem Cq:∀{c:List (Fr Ov)},Cn (c.map Fr.a)=aM c
 | []=>rfl
 |_::_=>rfl
theorem Zn.hd(h:Zn F v q):Co (d+1) F 24 [v] cs .none cs:=h _ λe _ m=>e▸oq (.fx m)
theorem Zn.wk(h:Zn F v q):Zn F v none:=λX g=>h X λe _ m=>g e (λ_ h=>nomatch h) m
theorem Zn.at(h:Zn F v (some u))(x:Ev d F cs l e v):Ev d F cs l (at_ 4 e) u:=h _ λe1 e2 m=>(e2 _ ag0)▸Ev.at (e1▸x) (.fx m) ag0
theorem jv.fr:∀(c:List (Fr Ov)) {S':Option Int} {v:V},(∀q∈CO ta n c S' v,q∈F)->jv F (c.map Fr.a)
 | [],_,_,_=>trivial
 |⟨true,a,x,o⟩::c,_,_,h=>⟨λX g=>g ag0 (λq e=>(av e).symm.trans Cq) (h _<|.head _),jv.fr c λq m=>h q (.tail _<|bp _ m)⟩
 |⟨false,a,x,o⟩::c,_,_,h=>⟨λX g=>g ag0 (λq e=>(av e).symm.trans Cq) (h _<|.head _),jv.fr c λq m=>h q (.tail _<|bp _ m)⟩
theorem jv.of(h:∀q∈ZO ta n c (.nd a x l' r'),q∈F):jv F (a::c.map Fr.a):=⟨λX g=>g ag0 (λq e=>(av e).symm.trans Cq) (h _<|.head _),jv.fr c λq m=>h q<|bp _ m⟩
def huP(F:Ch)(cs:List Ch)(w:Nat):Lp:=⟨List Nat×List V,λi=>[some (Cn i.1),some<|.ref w,none,none,none],λi=>[(w,.list i.2)]::cs,λi=>jv F i.1/\(∀v∈i.2,Zn F v none)/\i.2.length+i.1.length<=1000,λi=>i.1.length⟩
def hvP(cs:List Ch)(w:Nat):Lf:=⟨Option V,λ_ i=>[some .none,some<|.ref w,i,none,none],λ_ _=>cs,λ_ _=>True⟩
theorem adK(hc:jv F (a::c.map Fr.a))(hl:c.length<=900):Co (d+2) F 25 [.ref a] cs .none cs:=λK k=>by
 refine aw Z0 rfl<|.an (.ls .nil<|au ag0) ag0 λw=>.wg (huP F cs w) (λi K' o hk=> ?_) (a::c.map Fr.a,[]) ⟨hc,λ_ h=>absurd h du, ?_⟩ ag0 rfl
 ·obtain ⟨td,dn⟩:=i;have ln:dn.length<=1000:=ae (fh _ _) o.2.2
  induction td with
  |nil=>exact .off (.aV (.lo ag0) .k ag0) (.for<|Wi.lst (En.rev (.lo ag0) (.ix 0 ag0) (dL ln) _ λr X g=>g r _ ag0 (.ix 0 ag0)<|.f1 (hvP ([(r,.list dn.reverse)]:: [(w,.list dn)]::cs) w) (λ_ _ _=>.lst<|.ix 0 ag0) (λ_ _=>ag0) (λk u i K2 hv _ hk2=>.xe (.one<|.lo ag0) (o.2.1 u (List.mem_reverse.mp<|cG hv)).hd (.nil<|hk2 (some u) trivial)) (λ_ _=>.dr 0 (.dr 0<|.nil k)) none trivial ag0 rfl))
  |cons z td=>exact .on (.aV (.lo ag0) .k ag0) (.xp<|.sT (.lo ag0) (.lo ag0) 0 ag0 (bx ln<|au ag0) ⟨ag0,.as (o.1.1.at<|.lo ag0) ag0 (.nil<|hk (td,dn++ [.ref z]) (eV _) ⟨o.1.2,λv m=>(b9.mp m).elim (o.2.1 v) λm=>cr.mp m▸o.1.1.wk,(aX (as:=dn) (bs:=[.ref z])).symm▸(gX dn.length 1 td.length▸o.2.2)⟩)⟩)
 ·show 0+((c.map Fr.a).length+1)<=1000;rw [aG,jF];exact ES (bx hl<|by decide)
end
variable{e2 elt:E}{f t:Nat}{o:O}{z:Int}{kvs:List (Int×V)}
def If(d:Nat)(F:Ch)(cs:List Ch)(l:Loc)(es:List E)(b:Bool):Prop:=∀K:Bool->List Ch->Prop,K b cs->Mt F cs (λQ H=>jf Mine.G (acl d) (el es) l H Q) K
section
variable{n:Nat}
theorem If.nil:If d F cs l [] true:=λK k=>.ret k
theorem If.one(x:Ev d F cs l e (.bool tt)):If d F cs l [e] tt:=λK k=>Mt.bind (f:=λv Q H=>Mine.wb v (Q true H) (Q false H)) (x (λv c=>v= .bool tt/\c=cs) ⟨rfl,rfl⟩) λv c h=>by rw [h.1,h.2];rcases tt<;>exact .ret k
def Cm(d:Nat)(F:Ch)(K:VK)(t:Nat)(es:List E)(elt:E)(l:Loc)(iv:IV)(cs:List Ch):Prop:=Mt F cs (λ(Q:V->Hp->Prop) H=>wc iv (acl d) [t] es elt l Q H) K
theorem Cm.of{α:Type}{xs:List α}{g:α->V}{r:α->Option V}(hn:∀k,Gives F iv (xs.map g) k cs)(hl:xs.length<=lim)(q:aR t l.length)(step:∀a∈xs,∀X:Prop,(∀x,r a=some x->If d F cs (st l t<|g a) es true->Ev d F cs (st l t<|g a) elt x->X)->(r a=none->If d F cs (st l t<|g a) es false->X)->X)(k:∀a,KV (.ref a) ([(a,.list<|xs.filterMap r)]::cs)):Cm d F KV t es elt l iv cs:=by
 intro R H Q s q';refine BH (vs:=xs.map g) (λi acc h=>Hs F R cs h/\acc=(xs.take i).filterMap r) (λi acc h w=>hn i R h w.1) (λi acc h v kk hv w hk=> ?_) (λacc h w=> ?_) ⟨s,ag0⟩
 ·refine kh hv λa ha ev=>⟨_,wU q, ?_⟩;rw [ev];refine step a (cG ha) _ (λx e1 i1 x1=> ?_) λe1 i1=> ?_
  ·refine qj.mp<|i1 (λb c=>b=true/\c=cs) ⟨ag0,ag0⟩ R h _ w.1 λb c H' hb s'=> ?_;rw [hb.1];exact x1 (λv c=>v=x/\c=cs) ⟨ag0,ag0⟩ R H' _ (hb.2▸s') λv c H2 hv s2=>hk _ _ ⟨hv.2▸s2,by rw [w.2,hv.1,take_snoc ha,PD,qM e1];rfl⟩
  ·refine qj.mp<|i1 (λb c=>b=false/\c=cs) ⟨ag0,ag0⟩ R h _ w.1 λb c H' hb s'=> ?_;rw [hb.1];exact hk _ _ ⟨hb.2▸s',by rw [w.2,take_snoc ha,PD,ED e1];exact (bc _).symm⟩
 ·rw [w.2,aG,kH];exact ⟨ae (Pn _ _) hl,q' _ _ _ (k _) w.1.new⟩
theorem We.comp(x:Mt F cs (λ(Q:IV->Hp->Prop) H=>ml Mine.G (acl d) it l H Q) (Cm d F KV t es elt l)):We d F KV cs l (.comp [t] it (el es) elt):=Mt.bind (f:=λiv (Q:V->Hp->Prop) H=>wc iv (acl d) [t] es elt l Q H) x λ_ _ h=>h
theorem En.comp{α:Type}{xs:List α}{g:α->V}{r:α->Option V}(src:Src d F cs l it iv)(hn:∀k,Gives F iv (xs.map g) k cs)(hl:xs.length<=lim)(q:aR t l.length)(step:∀a∈xs,∀X:Prop,(∀x,r a=some x->If d F cs (st l t<|g a) es true->Ev d F cs (st l t<|g a) elt x->X)->(r a=none->If d F cs (st l t<|g a) es false->X)->X):En d F cs l (.comp [t] it (el es) elt) (xs.filterMap r):=λK k=>Mt.bind (f:=λiv (Q:V->Hp->Prop) H=>wc iv (acl d) [t] es elt l Q H) src λiv' c h=>by rw [h.1,h.2];exact Cm.of hn hl q step k
theorem We.me(x:Ev d F cs l e (.ref A))(m:Fact F cs A o)(q:oe (some o) n=some f)(xs:cI d F cs l es vs)(k:Cl d F KV cs f (.ref A::vs)):We d F KV cs l (Pl.me e n es):=
 Mt.bind (f:=λv Q H=>JM v H n λf=>cM Mine.G (acl d) (el es) l H λvs h2=>acl d f (v::vs) h2 Q) (x (λv c=>v= .ref A/\c=cs) ⟨ag0,ag0⟩) λv c h=>by rw [h.1,h.2];intro R H Q s q';show oP (oe H[A]? n) _;rw [m R H s,q];exact Mt.bind (f:=λvs Q H=>acl d f (.ref A::vs) H Q) (xs (λvs c=>Cl d F KV c f (.ref A::vs)) k) (λ_ _ h=>h) R H Q s q'
theorem Ev.me(x:Ev d F cs l e (.ref A))(m:Fact F cs A o)(q:oe (some o) n=some f)(xs:cI d F cs l es vs)(c:Co d F f (.ref A::vs) cs v cs):Ev d F cs l (Pl.me e n es) v:=λK k=>We.me x m q xs<|c K k
theorem LJ(e:h[A]? = some (.dict kvs))(a:dJ z kvs=some v):aQ Mine.G .item [.ref A,.int z] h Q=Q v h:=dK (agX (λo=>o.map (·,h))<|(bO (f:=zV z) e).trans a)
theorem Ev.w9(x:Ev d F cs l e1 (.ref A))(y:Ev d F cs l e2 (.int z))(m:Fact F cs A (.dict kvs))(q:dJ z kvs=some v):Ev d F cs l (Pl.pr .item [e1,e2]) v:=λK k=>We.pr (.two x y)<|.pr k λR H s Q q'=>(LJ (m R H s) q).mpr q'
end
variable{da hm ru li pd pl:Nat}{y:On}
structure Ent where
 n:Int
 b:Int
 e:Int
 pr:Int
 oa:Nat
 na:Nat
 pa:Nat
 tl:Int->V
noncomputable def Ent.on(e:Ent):On:=(e.na,e.n,e.b,e.e)
structure Ru(F:Ch)(ru li dd pd:Nat):Prop where
 a:(ru,O.inst 4 [.ref li,.none,.bool true,.int 100,.int 101,.int 102,.int 103,.int 104,.ref dd])∈F
 b:(li,O.inst 19 [.int 100,.none,.bool true,.ref pd])∈F
structure ou(F:Ch)(hm:Nat)(e:Ent)(l:List Kv):Prop where
 ob:(e.oa,O.inst 5 [.int e.n,.ref e.na,.ref hm,.ref e.pa])∈F
 pl:(e.pa,O.list (l.map d8))∈F
 ln:l.length<=100
 h0:lk l 100=none
 h4:lk l 104=some (.int e.pr)
 tl:∀m,0<=m->m<=4->(lk l (10+m)).getD .none=e.tl m
structure OW(F:Ch)(hm ta da ru:Nat)(E E':List Ent)(T:Tr Ov):Prop where
 rl:∃li dd pd,Ru F ru li dd pd
 ho:(hm,O.inst 6 [.ref ta,.ref da,.ref ru])∈F
 dk:(da,O.dict (E.map λe=>(e.n,.ref e.oa)))∈F
 tr:∃n,∀q∈ZO ta n [] T,q∈F
 so:fX (ay T)
 io:ay T=E'.map Ent.on
 pm:E'.Perm E
 en:∀e∈E,∃l,ou F hm e l
 nd:(E.map Ent.n).Nodup
 le:E.length<=5
section
variable{dd z:Nat}{t T l:Tr Ov}{E E' G:List Ent}{e:Ent}{L:List Kv}{kk b:Bool}{P:Ch}
theorem xd(hr:Ru F ru li dd pd)(hp:Fact F cs pl (.list<|L.map d8))(hl:L.length<=100)(h0:lk L 100=none):Co (d+3) F 53 [.ref ru,.ref pl,.int num] cs ((lk L num).getD .none) cs:=λK k=>by
 have g1:=KG (d:=d) (n:=num) hp hl;have g2:=KG (d:=d) (n:=100) hp hl;rw [h0] at g2;cases q:lk L num with
 |none=>rw [q] at g1 k;exact aw JC rfl<|.as (.ca (.two (.lo ag0)<|.lo ag0) g1) ag0 (.it (.is (.lo ag0) .k ag0)<|.as (.ca (.two (.lo ag0)<|.at (.lo ag0) (.fx hr.a) ag0) g2) ag0 (.el (.ew<|.aV (.lo ag0) .k ag0)<|.ret (.dp (.is (.lo ag0) .k ag0)<|.at (.lo ag0) (.fx hr.a) ag0) k))
 |some v=>rw [q] at g1 k;exact aw JC rfl<|.as (.ca (.two (.lo ag0)<|.lo ag0) g1) ag0 (.el (.is (.lo ag0) .k ag0)<|.ret (.eg (.is (.lo ag0) .k ag0)<|.bT (.lo ag0) .k (by decide) ag0) k)
theorem Cr(hr:Ru F ru li dd pd)(hP:Rd F cs P)(hv:VP P kk v)(k:∀r,(r=true↔v= .none)->KV (.bool r) cs):Cl (d+2) F KV cs 111 [.ref ru,v]:=
 aw aa4 rfl (.rw (.ca (.two (.lo rfl) (.at (.lo rfl) (.fx hr.a) rfl)) (wX hP hv (by rcases kk;exact PV.n;exact TV.n) k)))
theorem Cs:∀(c:List (Fr Ov)) {t:Tr Ov},c.length<=(ay<|up c t).length
 | [],_=>bq _
 |⟨true,a,x,o⟩::c,t=>by have h:=Cs c (t:=.nil);rw [lH] at h ⊢;rw [aX] at h ⊢;exact ES (bx h<|qQ (by show (fW c).length<(ay t++bM a x::(ay o++fW c)).length;rw [aX,N3,aX];exact bC (yH<|dy _ _)<|dy _ _) _)
 |⟨false,a,x,o⟩::c,t=>by have h:=Cs c (t:=.nil);rw [lH] at h ⊢;rw [aX] at h ⊢;show c.length+1<=(iq c++(ay o++ [bM a x])).length+(ay t++fW c).length;rw [aX,aX (as:=ay o),aX (as:=ay t)];exact ae (i9 h) (by show (iq c).length+(fW c).length+1<=(iq c).length+((ay o).length+1)+((ay t).length+(fW c).length);exact ae (aF<|gX _ _ _) (jK (eB (dy _ _) _)<|dy _ _))
theorem Ct:∀(t:Tr Ov),y∈ay t->∀{X:Prop},(∀c x l r,up c (.nd y.1 x l r)=t->y=bM y.1 x->X)->X
 | .nd z x l r,h,_,g=>(b9.mp h).elim (λh=>Ct l h λc x' l' r' e1 e2=>g (c++ [⟨true,z,x,r⟩]) x' l' r' ((qm (c':=[⟨true,z,x,r⟩]) c _).trans<|agX (Tr.nd z x · r) e1) e2) λh=>(aO.mp h).elim (λe=>by subst e;exact g [] x l r ag0 rfl) λh=>Ct r h λc x' l' r' e1 e2=>g (c++ [⟨false,z,x,l⟩]) x' l' r' ((qm (c':=[⟨false,z,x,l⟩]) c _).trans<|agX (Tr.nd z x l ·) e1) e2
theorem OW.len(h:OW F hm ta da ru E E' T):(ay T).length<=5:=by rw [h.io,aG,h.pm.length_eq];exact h.le
theorem OW.ox(h:OW F hm ta da ru E E' T)(he:e∈E)(g:∀m r l p c',(e.na,O.inst 2 [.int e.n,.int e.b,.int e.e,.bool false,.bool false,.int m,.int 0,r,l,p,c'])∈F->(∀{d cs},Co (d+2) F 25 [.ref e.na] cs .none cs)->X):X:=by obtain ⟨n,tr⟩:=h.tr;refine Ct (y:=e.on) T (h.io▸bB.mpr ⟨e,h.pm.mem_iff.mpr he,rfl⟩) λc x l r e1 e2=> ?_;have zf:∀q∈ZO ta n c (.nd e.na x l r),q∈F:=λq m=>tr q (e1▸Ln.mem_iff.mp m);have q1:=agX (·.2.1) e2;have q2:=agX (·.2.2.1) e2;have q3:=agX (·.2.2.2) e2;refine g (m2 (m2 x.e (kO.su l)) (kO.su r)) (.bool x.r) l.ptr r.ptr (aM c) ?_ (adK (jv.of zf) (ae (e1▸Cs c) (ae h.len (by decide))));rw [show e.n=x.n from q1,show e.b=x.b from q2,show e.e=x.e from q3];exact zf _ (.head _)
theorem LK(h:OW F hm ta da ru E E' T)(he:e∈E):Co (d+3) F 54 [.ref e.oa] cs (.int e.b) cs:=λK k=>by obtain ⟨l,o⟩:=h.en e he;exact h.ox he λ_ _ _ _ _ m hd=>aw g54 rfl (.xe (.one (.at (.lo rfl) (.fx o.ob) rfl)) hd (.ret (.at (.at (.lo rfl) (.fx o.ob) rfl) (.fx m) rfl) k))
theorem LL(h:OW F hm ta da ru E E' T)(he:e∈E):Co (d+3) F 55 [.ref e.oa] cs (.int e.e) cs:=λK k=>by obtain ⟨l,o⟩:=h.en e he;exact h.ox he λ_ _ _ _ _ m hd=>aw g55 rfl (.xe (.one (.at (.lo rfl) (.fx o.ob) rfl)) hd (.ret (.at (.at (.lo rfl) (.fx o.ob) rfl) (.fx m) rfl) k))
theorem Cu(h:OW F hm ta da ru E E' T)(he:e∈E)(h0:0<=m)(h4:m<=4):Co (d+4) F 59 [.ref ru,.ref e.oa,.int (10+m)] cs (e.tl m) cs:=λK k=>by obtain ⟨l,o⟩:=h.en e he;obtain ⟨li,dd,pd,hr⟩:=h.rl;exact aw JD rfl (.ret (.ca (.cons (.lo rfl) (.two (.at (.lo rfl) (.fx o.ob) rfl) (.lo rfl))) (xd hr (.fx o.pl) o.ln o.h0)) (o.tl m h0 h4▸k))
theorem Ev.isI{l:Loc}{e:Mine.E}{z:Int}(x:Ev d F cs l e (.int z)):Ev d F cs l (Pl.pr .isInt [e]) (.bool true):=λK k=>We.pr (.one x)<|.pr k λ_ _ _ _ q=>q
theorem LM(h:OW F hm ta da ru E E' T)(he:e∈E):Co (d+5) F 73 [.ref ru,.ref e.oa] cs (.tup [.int e.pr,.int 0]) cs:=λK k=>by obtain ⟨l,o⟩:=h.en e he;obtain ⟨li,dd,pd,hr⟩:=h.rl;have g:Co (d+4) F 59 [.ref ru,.ref e.oa,.int 104] cs (.int e.pr) cs:=λK k=>aw JD rfl (.ret (.ca (.cons (.lo rfl) (.two (.at (.lo rfl) (.fx o.ob) rfl) (.lo rfl))) (xd hr (.fx o.pl) o.ln o.h0)) (by rw [o.h4];exact k));exact aw g73 rfl (.as (.ca (.cons (.lo rfl) (.two (.lo rfl) (.at (.lo rfl) (.fx hr.a) rfl))) g) rfl (.it (.isI (.lo rfl)) (.ret (.tp (.two (.lo rfl) .k) (au rfl)) k)))
theorem adM(h:OW F hm ta da ru E E' T)(he:e∈E):Co (d+6) F 74 [.ref ru,.ref e.oa] cs (.tup [.int e.pr,.int 0,.int e.b,.int (0-e.e),.int e.n]) cs:=λK k=>by obtain ⟨l,o⟩:=h.en e he;exact aw g74 rfl (.tu (.ca (.two (.lo rfl) (.lo rfl)) (LM h he _ (.ret (.tp (.cons (.lo rfl) (.cons (.lo rfl) (.cons (.ca (.one (.lo rfl)) (LK h he)) (.cons (.sub .k (.ca (.one (.lo rfl)) (LL h he))) (.one (.at (.lo rfl) (.fx o.ob) rfl)))))) (au rfl)) k))) rfl rfl)
end
variable{rev:Bool}{n:Nat×Nat}{o:E}{out acc:List V}{call:V->Hp->bA->Prop}{K:List V->List Ch->Prop}
section
variable{α:Type}{ky ky2:α->List Int}{L M:List α}{g kv:α->V}
def dM(rev:Bool)(ky:α->List Int)(L:List α):List α:=(gp (eZ rev)<|L.map λa=>(ky a,a)).map (·.2)
theorem Cv{β:Type}{g:α->β}(nd:(L.map ky).Nodup):((L.map λa=>(ky a,g a)).map (·.1)).Nodup:=by simpa [iG,uy] using nd
theorem Cw(nd:(L.map ky).Nodup)(hp:M.Perm L)(h:M.Pairwise λa b=>eZ rev (ky a) (ky b)=true):dM rev ky L=M:=by unfold dM;rw [v9 (qe rev) (l':=M.map λa=>(ky a,a)) (Cv nd) (hp.map _) (kF.mpr h)];simp [uy]
theorem adN:gp (eZ rev) (L.map λa=>(ky a,a))=(dM rev ky L).map λa=>(ky a,a):=by
 have:∀p∈gp (eZ rev) (L.map λa=>(ky a,a)),p=(ky p.2,p.2):=λp hp=>by
  have:=qf.mem_iff.mp hp;simp at this;obtain ⟨a,ha,rfl⟩:=this
  rfl
 unfold dM;rw [iG]
 conv=>lhs;rw [<- Oz (gp (eZ rev)<|L.map λa=>(ky a,a))]
 exact q7 λp hp=>this p hp
theorem e6:(dM rev ky L).Perm L:=by
 have:=(qf (lt:=eZ rev) (l:=L.map λa=>(ky a,a))).map (·.2)
 simpa [dM,uy] using this
theorem xf(nd:(L.map ky).Nodup):(dM rev ky L).Pairwise λa b=>eZ rev (ky a) (ky b)=true:=by have:=Bf (qe rev) (Cv (g:=id) nd);have e:=adN (rev:=rev) (ky:=ky) (L:=L);simp only [id] at this;exact kF.mp (e▸this)
theorem LN(nd:(L.map ky).Nodup)(hp:M.Perm L):dM rev ky M=dM rev ky L:=by have nd2:(M.map ky).Nodup:=(hp.map ky).nodup_iff.mpr nd;exact Cw nd2 (e6.trans hp.symm)<|xf nd
theorem adO(nd:(L.map ky).Nodup):(dM false ky L).reverse=dM true ky L:=by refine (Cw nd ((yK _).trans e6) ?_).symm;rw [Pj];exact xf (rev:=false) nd
theorem adP(nd:(L.map ky).Nodup)(nd2:(L.map ky2).Nodup)(h:∀a∈L,∀b∈L,eZ rev (ky a) (ky b)->eZ rev (ky2 a) (ky2 b)):dM rev ky2 L=dM rev ky L:=by refine Cw nd2 e6 ?_;refine (xf nd).imp_of_mem λ{a b} ha hb hab=>h a (e6.mem_iff.mp ha) b (e6.mem_iff.mp hb) hab
theorem adQ(h:∀a∈L,keyOf (kv a)=some (ky a)):keysOf (L.map kv)=some (L.map ky):=by
 induction L with
 |nil=>rfl
 |cons a L ih=>show ((keyOf<|kv a).bind λk=>(keysOf<|L.map kv).map (k:: ·))=_;rw [h a (.head _),ih λa ha=>h a<|.tail _ ha];rfl
theorem tj(h:∀a∈L,keyOf (kv a)=some (ky a))(nd:(L.map ky).Nodup)(sk:jU (L.map kv))(hl:L.length<60):sortBy rev (L.map kv) (L.map g)=some ((dM rev ky L).map g):=by
 unfold sortBy;rw [adQ h,Option.bind_some];rw [if_pos ⟨nd,sk,by simpa using hl,by simp⟩];have z:(L.map ky).zip (L.map g)=L.map λa=>(ky a,g a):=by rw [List.zip_map',]
 have:gp (eZ rev) (L.map λa=>(ky a,g a))=(dM rev ky L).map λa=>(ky a,g a):=
  v9 (qe rev) (Cv nd) (e6.map _) (kF.mpr<|xf nd)
 rw [z];show some ((gp (eZ rev) _).map (·.2))=_;rw [this];simp [uy]
theorem tm(h:∀a∈L,kindOf (kv a)=n):jU (L.map kv):=by
 cases L with
 |nil=>rfl
 |cons a L=>simp only [mW,jU,Oo,bU,uy,beq_iff_eq];intro b hb;rw [h b (.tail _ hb),h a (.head _)]
end
section
variable{α:Type}{L:List α}{g kv:α->V}{n:Nat}{ks:List V}
theorem xg:∀(L:List α) {acc:List V},(∀a∈L,∀K:VK,K (kv a) cs->Mt F cs (λQ H=>call (g a) H Q) K)->K (acc++L.map kv) cs->Mt F cs (λ(Q:List V->Hp->Prop) H=>hU call Q (L.map g) acc H) K
 | [],acc,_,k=>.ret<|(bc acc)▸k
 |a::L,acc,st,k=>Mt.bind (f:=λv (Q:List V->Hp->Prop) H=>hU call Q (L.map g) (acc++ [v]) H) (st a (.head _) (λv c=>v=kv a/\c=cs) ⟨ag0,ag0⟩) λv c h=>by rw [h.1,h.2];exact xg L (λb m=>st b<|.tail _ m)<|(aJ acc [kv a]<|L.map kv).symm▸k
theorem Cz(e:sortBy rev ks vs=some out)(hl:out.length<=lim)(k:Q (.ref h.length) (h++ [.list out])):gq rev vs Q ks h:=by exact oP.i ((agX (jJ · (bY h)) e).trans<|iQ hl) k
def SmK(d:Nat)(F:Ch)(K:VK)(A n:Nat)(rev:Bool)(L:List α)(g kv:α->V)(out:List V):VK:=λv c=>∀X:Prop,(∀{o} B f,v= .ref B->Fact F c B o->oe (some o) n=some f->Fact F c A (.list<|L.map g)->(∀a∈L,Co d F f [.ref B,g a] c (kv a) c)->(∀r,K (.ref r) ([(r,.list out)]::c))->X)->X
theorem We.kT(x:Ev d F cs l e (.ref A))(q:sortBy rev (L.map kv) (L.map g)=some out)(hl:out.length<=lim)(y:We d F (SmK d F KV A n rev L g kv out) cs l o):We d F KV cs l (.kT e o n rev):=
 Mt.bind (f:=λv (Q:V->Hp->Prop) H=>aH Mine.G (acl d) o l H λov h2=>oP (je h2 v) λvs=>oP (nM Mine.G h2 ov n) λf=>hU (λx h3 K=>acl d f [ov,x] h3 K) (gq rev vs Q) vs [] h2) (x (λv c=>v= .ref A/\c=cs) ⟨ag0,ag0⟩) λv c h=>by rw [h.1,h.2];refine Mt.bind (f:=λov (Q:V->Hp->Prop) H=>oP (je H<|.ref A) λvs=>oP (nM Mine.G H ov n) λf=>hU (λx h3 K=>acl d f [ov,x] h3 K) (gq rev vs Q) vs [] H) y λv c h=>h _ λB f e m q2 m2 st k=> ?_;rw [e];intro R H Q s q';exact oP.i (agX wC<|m2 R H s)<|oP.i ((agX (oe · n)<|m R H s).trans q2)<|xg (call:=λx h3 K=>acl d f [.ref B,x] h3 K) (g:=g) (kv:=kv) (K:=λks c'=>ks=L.map kv/\c'=c) (acc:=[]) L (λa m K k=>st a m K k) ⟨ag0,ag0⟩ R H (gq rev (L.map g) Q) s λks c' H' h s'=>h.1▸Cz q hl (q' _ _ _ (k H'.length) (h.2▸s').new)
end
variable{n:List V}{E':List Ent}{e:Ent}
def mR(e:Ent):List Int:=[e.pr,0,e.b,0-e.e,e.n]
def dN(at_:Int)(e:Ent):Bool:=decide (e.b<=at_)&&decide (at_<e.e)
def dO(E:List Ent)(at_:Int):List Ent:=dM true mR (E.filter<|dN at_)
section
variable{T:Tr Ov}{E G:List Ent}{es:List Mine.E}{elt:Mine.E}
theorem qu{α β:Type}{g:α->β}:∀{F:List α},F.filterMap (λa=>some<|g a)=F.map g
 | []=>rfl
 |a::F=>(qM (f:=λa=>some<|g a) ag0).trans<|agX (gI<|g a) qu
theorem oy{α β:Type}{g:α->β}{p:α->Bool}:∀{F:List α},F.filterMap (λa=>bif p a then some (g a) else none)=(F.filter p).map g
 | []=>rfl
 |a::F=>match q:p a with
  |true=>(qM (f:=λa=>bif p a then some (g a) else none)<|agX (λb=>bif b then some (g a) else none) q).trans ((agX (gI<|g a) oy).trans<|agX (iF g) (uw q).symm)
  |false=>(ED (f:=λa=>bif p a then some (g a) else none)<|agX (λb=>bif b then some (g a) else none) q).trans (oy.trans (agX (iF g) (qL λh=>nomatch q.symm.trans h).symm))
theorem LO:∀{E:List Ent},(E.map Ent.n).Nodup->e∈E->dJ e.n (E.map λe=>(e.n,V.ref e.oa))=some (.ref e.oa)
 |g::E,nd,he=>have nd:=dF.mp nd
  (aO.mp he).elim (λq=>q▸if_pos ag0) λhe=>(if_neg λq=>nd.1<|bB.mpr ⟨e,he,q⟩).trans<|LO nd.2 he
theorem LP(h:OW F hm ta da ru E E' T)(hG:∀e∈G,e∈E)(hw:Fact F cs w (.list<|G.map λe=>.ref e.na))(hl:G.length<=lim)(k:∀a,KV (.ref a) ([(a,.list<|G.map λe=>.ref e.oa)]::cs)):Cl (d+1) F KV cs 61 [.ref hm,.ref w]:=
 aw g61 ag0 (.rn ((qu (F:=G) (g:=λe=>V.ref e.oa))▸En.comp (xs:=G) (g:=λe=>.ref e.na) (r:=λe=>some<|.ref e.oa) (.lst (.lo ag0) hw) (λ_=>.lst hw) hl ag0 λe he X g _=>h.ox (hG e he) λ_ _ _ _ _ m _=>g _ ag0 .nil<|.w9 (.at (.lo ag0) (.fx h.ho) ag0) (.at (.lo ag0) (.fx m) ag0) (.fx h.dk) (LO h.nd<|hG e he)) k)
theorem OW.root(h:OW F hm ta da ru E E' T):∃n,(ta,O.inst 3 (T.ptr::n))∈F:=let ⟨n,m⟩:=h.tr;⟨n,m _ (bp _ (.head _))⟩
theorem OW.good(h:OW F hm ta da ru E E' T):Good F T:=⟨let ⟨n,m⟩:=h.tr;⟨_,λq k=>m q (cJ _ k)⟩,h.so⟩
theorem CA(h:OW F hm ta da ru E E' T)(k:∀w,KV (.ref w) ([(w,.list ((E'.filter λe=>inR be en e.on).map λe=>.ref e.na))]::cs)):Cl (d+2) F KV cs 42 [.ref ta,.int be,.int en]:=by obtain ⟨n,hr⟩:=h.root;refine adH hr h.good (ae h.len (by decide)) λw=> ?_;rw [h.io,List.filter_map];exact (agX (λl=>KV (.ref w) ([(w,.list l)]::cs)) (iG (g:=λy:On=>V.ref y.1) (f:=Ent.on))).mpr (k w)
theorem OW.mS(h:OW F hm ta da ru E E' T)(p:Ent->Bool):(E'.filter p).length<=5:=ae (kJ p E')<|h.pm.length_eq▸h.le
theorem adS(q:dN i e):inR i i e.on:=by obtain ⟨a,b⟩:=(lN _ _).mp q;show (decide (e.b<=i)&&decide (i<=e.e))=true;rw [a,agZ (bZ (agY b))];rfl
theorem adT:((E'.filter λe=>inR i i e.on).filter<|dN i)=E'.filter (dN i):=by
 rw [EW];refine EX λe _=> ?_;cases q:dN i e with
 |false=>rfl
 |true=>rw [adS q];rfl
end
section
variable{T:Tr Ov}{E G L:List Ent}{es:List Mine.E}{elt:Mine.E}
theorem LR(nd:(E.map Ent.n).Nodup):(E.map mR).Nodup:=kF.mpr<|(kF.mp nd).imp λh q=>h (bt (bt (bt (bt (bt q).2).2).2).2).1
theorem tw(h:e∈dO E i):e∈E/\dN i e:=gG.mp<|e6.mem_iff.mp h
theorem LS(h:OW F hm ta da ru E E' T)(k:∀w,KV (.ref w) ([(w,.list<|(E'.filter<|dN i).map λe=>.ref e.oa)]::cs)):Cl (d+3) F KV cs 62 [.ref hm,.int i]:=by
 refine aw g62 rfl<|.rw (.cw<|.co (.lo ag0) (.ef<|.comp (Wi.lst<|.ca (.cons (.at (.lo ag0) (.fx h.ho) ag0) (.two (.lo ag0)<|.lo ag0)) (CA h λw X g=>g w _ ag0 (.ix 0 ag0)<|.of (xs:=E'.filter λe=>inR i i e.on) (g:=λe=>.ref e.na) (r:=λe=>bif dN i e then some (.ref e.na) else none) (λ_=>.lst<|.ix 0 ag0) (dL (ae (h.mS _)<|by decide)) ag0 (λe he X y nn=> ?_) λw2=> ?_))))
 ·refine h.ox (h.pm.mem_iff.mp (gG.mp he).1) λ_ _ _ _ _ m _=> ?_;cases q1:decide (e.b<=i) with
  |false=>have c:dN i e=false:=(agX (· && decide (i<e.e)) q1);exact nn (agX (λb=>bif b then some (V.ref e.na) else none) c)<|.one (.qq (.at (.lo ag0) (.fx m) ag0) (.lo ag0)<|agX some q1)
  |true=>
   cases q2:decide (i<e.e) with
   |false=>have c:dN i e=false:=(agX (decide (e.b<=i)&& ·) q2).trans<|m9 _;exact nn (agX (λb=>bif b then some (V.ref e.na) else none) c)<|.one (.j9 (.at (.lo ag0) (.fx m) ag0) (.lo ag0) (agX some q1) (.at (.lo ag0) (.fx m) ag0)<|agX some q2)
   |true=>have c:dN i e=true:=(agX (· && decide (i<e.e)) q1).trans q2;exact y _ (agX (λb=>bif b then some (V.ref e.na) else none) c) (.one (.j9 (.at (.lo ag0) (.fx m) ag0) (.lo ag0) (agX some q1) (.at (.lo ag0) (.fx m) ag0)<|agX some q2))<|.lo ag0
 ·rw [oy,adT];exact Mt.dk 1 (Mt.dk 1 (LP (G:=E'.filter (dN i)) h (λe he=>h.pm.mem_iff.mp (gG.mp he).1) (.ix 0 ag0) (dL (ae (h.mS _) (by decide))) k))
theorem LU(h:OW F hm ta da ru E E' T)(hw:Fact F cs w (.list<|(E'.filter<|dN i).map λe=>.ref e.oa))(k:∀w,KV (.ref w) ([(w,.list<|(dO E i).map λe=>.ref e.oa)]::cs)):Cl (d+8) F KV cs 75 [.ref ru,.ref w]:=by have nd:((E'.filter<|dN i).map mR).Nodup:=((h.pm.filter _).map _).nodup_iff.mpr (LR<|(EY.map _).nodup h.nd);have e:=tj (rev:=true) (L:=E'.filter<|dN i) (g:=λe=>V.ref e.oa) (kv:=λe=>V.tup [.int e.pr,.int 0,.int e.b,.int<|0-e.e,.int e.n]) (ky:=mR) (λ_ _=>ag0) nd (tm (n:=(2,5)) λ_ _=>ag0) (bx (h.mS _)<|by decide);rw [<- LN nd (h.pm.filter _).symm] at e;refine aw g75 rfl<|.rw (Mt.dk 1<|We.kT (.lo ag0) e (dL (ae (aF<|(aG _).trans e6.length_eq)<|ae (kJ _ _) (ae h.le<|by decide))) ?_);exact .new (λ_ k=>k) (.one<|.lo ag0) λb=>aw aa8 ag0 (.put (.lo ag0) (.lo ag0) 0 ag0 rfl<|.nil ⟨ag0,λX g=>g b _ ag0 (.ix 0 ag0) ag0 hw.wk (λe he K kk=>aw aa9 ag0 (.rc (.two (.at (.lo ag0) (.ix 0 ag0) ag0)<|.lo ag0)<|adM h (h.pm.mem_iff.mp (gG.mp he).1) _ kk)) k⟩)
end
variable{K:SK}{KS:List V->List Ch->Prop}{b:Int}{L:List aS}{ee:Ent}{p:Nat}
structure Wd where
 hm:Nat
 ta:Nat
 da:Nat
 ru:Nat
 pa:Nat
 tp:Nat
 bu:Nat
 tx:Nat
 E:List Ent
 E':List Ent
 T:Tr Ov
 sz:Int
 f:Int->Int->Option V
 TT:Tr Iv
 cd:V->V
def TX(F:Ch)(cd:V->V)(v:V):Prop:=∃(a c:Nat) (cs:List Int),v= .ref a/\cd v= .ref c/\(a,O.inst 9 [.ref c,.none])∈F/\(c,O.list<|cs.map V.int)∈F/\cs.length<=10
inductive VN(F:Ch)(cd:V->V):Int->V->Prop
 |n (m:Int):VN F cd m .none
 |a (k:Nat):k∈ [20,21]->VN F cd 0 (sy k)
 |l:VN F cd 0 B4
 |b (k:Nat):k∈ [30,31,32]->VN F cd 1 (sy k)
 |t (m:Int) (v:V):2<=m->TX F cd v->VN F cd m v
noncomputable def fY(w:Wd)(i m:Int):V:=(w.f i<|10+m).getD .none
structure VW(F:Ch)(w:Wd):Prop where
 ow:OW F w.hm w.ta w.da w.ru w.E w.E' w.T
 ts:TS F w.sz w.f w.TT
 ti:∀q∈ZI w.tp [] w.TT,q∈F
 tn:((ZI w.tp [] w.TT).map (·.1)).Nodup
 po:(w.pa,O.inst 7 [.ref w.tp])∈F
 s0:0<w.sz
 s1:w.sz<=20
 ty:∀e∈w.E,∀m,0<=m->m<=4->VN F w.cd m (e.tl m)
 fy:∀i,0<=i->i<w.sz->∀m,0<=m->m<=2->VN F w.cd m (fY w i m)
 bd:∀e∈w.E,0<=e.b/\e.b<=e.e/\e.e<=w.sz
 sp:∀e∈w.E,small e.pr
 bf:∀X:Prop,(∀{u0 u1 u3 u4 u7 u8 u9 u10 u11 u12 u13 u14 u17 u18 u19:V},(w.bu,O.inst 17 [u0,u1,.ref w.tx,u3,u4,.int 1,.int (w.sz+1),u7,u8,u9,u10,u11,u12,u13,u14,.ref w.pa,.ref w.hm,u17,u18,u19])∈F->X)->X
 tx:∃u ce ge cs,(w.tx,O.inst 15 [u,.ref ce,.int w.sz,.int ge])∈F/\(ce,O.list cs)∈F/\(∀i:Nat,(i:Int)<w.sz->cs[i]? = some (.int (97+i)))/\(cs.length:Int)-ge+w.sz=w.sz/\cs.length<=1000
noncomputable def bv:V->Bool
 | .none=>true
 |_=>false
def iu:List V->V
 | []=>.none
 |v::r=>bif bv v then iu r else v
def dP(w:Wd)(i m:Int):List V:=(dO w.E i).map (λe=>e.tl m)++ [fY w i m]
def aI(w:Wd)(i m:Int):V:=iu<|dP w i m
section
variable{w:Wd}{l:Loc}{e e1:Mine.E}{es:List Mine.E}{pp:Mine.P}{cd:V->V}
theorem VW.ri(h:VW F w):RI F cs w.tp [] w.TT:=⟨λq m=>.fx<|h.ti q m,h.tn⟩
theorem VW.rd:Rd F cs F:=λ_ m=>.fx m
theorem VN.vp(h:VN F cd m v)(m0:0<=m):VP F (kd<|10+m) v:=by
 cases h with
 |n=>cases kd (10+m);exact PV.n;exact TV.n
 |a k _=>exact PV.s k
 |l=>exact PV.l
 |b k _=>exact PV.s k
 |t _ _ h2 x=>obtain ⟨a,c,cs,e1,e2,e3,-⟩:=x;rw [show kd (10+m)=true from agZ (lX h2 10),e1];exact TV.t a _ e3
theorem SG.pick:∀{L:List aS} {b:Int},SG F w.f b L->b<=i->i<b+az L->∃l p,TK F p l/\∀n,lk l n=w.f i n
 | [],b,_,h1,h2=>absurd (gH h1 h2)<|cH.mpr (lW<|dS b)
 |e::L,b,h,h1,h2=>if q:i<b+e.2.1 then let ⟨l,o,ol⟩:=h.1;⟨l,_,o,ol i h1 q⟩ else SG.pick h.2 (cH.mp q) ((c7 b e.2.1 (az L)).symm▸h2)
theorem VP.none:∀{k:Bool},VP F k .none
 |false=>PV.n
 |true=>TV.n
theorem adU(h:VW F w)(h0:0<=i)(h1:i<w.sz):VP F (kd<|10+m) (fY w i m):=by
 obtain ⟨l,p,o,hl⟩:=h.ts.sg.pick h0 (by rw [dR,gz,h.ts.sm];exact h1);unfold fY;rw [<- hl];cases e:lk l (10+m) with
 |none=>exact VP.none
 |some v=>exact o.tp.ty _<|jQ e
theorem LV:∀{v:V},bv v=true->v= .none
 | .none,_=>rfl
theorem CB:∀{l:List V},iu l= .none\/iu l∈l
 | []=>.inl ag0
 |v::r=>by
  show (bif bv v then iu r else v)=_\/(bif bv v then iu r else v)∈_;cases bv v with
  |true=>exact (CB (l:=r)).imp id<|.tail _
  |false=>exact .inr<|.head _
theorem LX(h:VW F w)(h0:0<=i)(h1:i<w.sz)(m0:0<=m)(m4:m<=4):∀v∈dP w i m,VP F (kd (10+m)) v:=λv hv=>(b9.mp hv).elim (λhv=>let ⟨e,he,q⟩:=bB.mp hv;q▸(h.ty e (tw he).1 m m0 m4).vp m0) λhv=>cr.mp hv▸adU h h0 h1
theorem qw(h:VW F w)(h0:0<=i)(h1:i<w.sz)(m0:0<=m)(m4:m<=4):VP F (kd<|10+m) (aI w i m):=CB.elim (λe=>(agX (VP F (kd<|10+m)) (e:aI w i m= .none)).mpr VP.none)<|LX h h0 h1 m0 m4 _
theorem LY{l:List Kv}(o:TK F p l):lk l 100=none:=by
 cases e:lk l 100 with
 |none=>rfl
 |some v=>exact absurd (show (100:Int)∈ [(10:Int),11,12] from o.ks _<|jQ e)<|by decide
theorem d9.cx(x:We d F (λv c=>d9 d F (λvs=>KS (v::vs)) c l es) cs l e):d9 d F KS cs l (e::es):=Mt.bind (f:=λv Q H=>cM Mine.G (acl d) (el es) l H λvs h2=>Q (v::vs) h2) x λv c h R H Q s q=>h R H (λvs h2=>Q (v::vs) h2) s λvs=>q (v::vs)
theorem We.pw(x:d9 d F (λvs c=>Wp F KV c pp vs) cs l es):We d F KV cs l (Pl.pr pp es):=Mt.bind x λ_ _ h=>h
theorem Wp.tp(q:vs.length<=lim)(k:KV (.tup vs) cs):Wp F KV cs .tup vs:=.pr k λR H s Q q'=>(wF (o:=some (V.tup vs,H)) q).mpr q'
theorem d9.nil(k:KS [] cs):d9 d F KS cs l []:=.ret k
def cpP(w:Wd)(i m:Int)(D:List Ch):Lf:=⟨Option V×Option V,λ_ x=>[some (.ref w.ru),some<|.ref w.hm,some<|.ref w.pa,some<|.int i,some (.int<|10+m),x.1,x.2,none,none],λ_ _=>D,λk _=>aI w i m=iu (((dO w.E i).drop k).map (λe=>e.tl m)++ [fY w i m])⟩
theorem adW(h:VW F w)(h0:0<=i)(h1:i<w.sz)(m0:0<=m)(m4:m<=4)(k:∀o,KV (.tup [aI w i m,o]) cs):Cl (d+9) F KV cs 76 [.ref w.ru,.ref w.hm,.ref w.pa,.int i,.int<|10+m]:=by
 obtain ⟨li,dd,pd,hr⟩:=h.ow.rl;refine aw g76 rfl (.for (Wi.lst (.cw (.co (.lo rfl) (.ef (.ca (.two (.lo rfl) (.lo rfl)) (LS h.ow λw1=> ?_)))))));refine LU h.ow (.ix 0 rfl) λw2 X g=>g w2 _ rfl (.ix 0 rfl) (.f1 (cpP w i m ([(w2,.list ((dO w.E i).map λe=>.ref e.oa))]:: [(w1,.list ((w.E'.filter (dN i)).map λe=>.ref e.oa))]::cs)) (λ_ _ _=>.lst (.ix 0 rfl)) (λ_ _=>rfl) (λk' u x K' hv o hk=> ?_) (λx o=> ?_) (none,none) rfl rfl rfl)
 ·refine kh hv λe he ev=> ?_;have eE:=(tw (cG he)).1;have o:aI w i m=iu (((dO w.E i).drop k').map (λe=>e.tl m)++ [fY w i m]):=o;rw [KC he] at o;have o:aI w i m=bif bv (e.tl m) then iu (((dO w.E i).drop (k'+1)).map (λe=>e.tl m)++ [fY w i m]) else e.tl m:=o;rw [ev];refine .as (.ca (.cons (.lo rfl) (.two (.lo rfl) (.lo rfl))) (Cu h.ow eE m0 m4)) rfl (.iT (.not (.me (.lo rfl) (.fx hr.a) rfl (.one (.lo rfl)) (Cr hr VW.rd ((h.ty e eE m m0 m4).vp m0) λr hn=> ?_))));cases r with
  |true=>rw [show bv (e.tl m)=true from hn.mp rfl▸rfl] at o;exact .nil<|hk (some<|.ref e.oa,some<|e.tl m) o
  |false=>
   cases q:bv (e.tl m) with
   |true=>nomatch hn.mpr (LV q)
   |false=>rw [q] at o;exact .dr 0<|.dr 0 (.ret (.tp (.two (.lo ag0)<|.lo ag0)<|au ag0)<|(agX (λu=>KV (.tup [u,.ref e.oa]) cs) o).mp (k<|.ref e.oa))
 ·have o:aI w i m=iu (((dO w.E i).drop ((dO w.E i).map λe=>V.ref e.oa).length).map (λe=>e.tl m)++ [fY w i m]):=o;rw [aG,Px] at o
  have o:aI w i m=fY w i m:=o.trans (by
   show (bif bv (fY w i m) then V.none else fY w i m)=_;cases q:bv (fY w i m) with
   |true=>exact (LV q).symm
   |false=>rfl)
  rw [o] at k;exact .dr 0 (.dr 0 (.rw (.pw (.cx (.cw (.co (.lo ag0) (.cx (.ca (.two (.lo ag0) (.lo ag0)) (Lc h.ri h.ts (.fx h.po) h0 h1 λq l t1 t2=>.co (.lo ag0) (.nil (xd hr (.fx t1.tp.m) t1.tp.len (LY t1) _ (.co .k (.nil (.tp (au ag0) (by rw [t2];exact k .none)))))))))))))))
end
variable{w:Wd}{x y:Int}{l:Loc}{o4:Option V}
def Nz(a z x:Int):Prop:=¬(a<x/\x<z)
noncomputable def nx(a z x:Int):Int:=bif decide (a<x)&&decide (x<z) then x else z
def same(w:Wd)(a z:Int):Prop:=∀i,a<=i->i<z->(∀n,w.f i n=w.f a n)/\dO w.E i=dO w.E a
section
variable{a:Int}{e e1:Mine.E}{es:List Mine.E}{pp:Mine.P}{cd:V->V}{v0 v2:Option V}
theorem Wp.add(k:KV (.int<|x+y) cs):Wp F KV cs .add [.int x,.int y]:=.pr k λ_ _ _ _ q=>q
theorem CC(h:VW F w)(h0:0<=i)(h1:i<w.sz)(m0:0<=m)(m4:m<=4):Co (d+10) F 77 [.ref w.ru,.ref w.hm,.ref w.pa,.int i,.int<|10+m] cs (aI w i m) cs:=λK k=>
 aw g77 ag0 (.rw (.p2<|.ca (.cons (.lo ag0) (.cons (.lo ag0)<|.cons (.lo ag0) (.two (.lo ag0)<|.lo ag0))) (adW h h0 h1 m0 m4 λo=>.ev .k<|.bT (by decide) ag0 k)))
theorem CF(h:VW F w)(h0:0<=i)(h1:i<w.sz)(m0:0<=m)(m4:m<=4):Co (d+11) F 80 [.ref w.bu,.int<|i+1,.int<|10+m] cs (aI w i m) cs:=λK k=>
 h.bf _ λhb=>aw g80 ag0 (.rc (.cons (.at (.at (.lo ag0) (.fx hb) ag0) (.fx h.ow.ho) ag0) (.cons (.at (.lo ag0) (.fx hb) ag0)<|.cons (.at (.lo ag0) (.fx hb) ag0) (.two (.ie (.sub (.lo ag0) .k)<|gm i 1)<|.lo ag0)))<|CC h h0 h1 m0 m4 _ k)
theorem oz:nx a z x<=z:=by
 unfold nx;cases q:decide (a<x)&&decide (x<z) with
 |true=>exact bZ<|agY ((lN _ _).mp q).2
 |false=>exact eU _
theorem LZ(h:a<z):a<nx a z x:=by
 unfold nx;cases q:decide (a<x)&&decide (x<z) with
 |true=>exact agY ((lN _ _).mp q).1
 |false=>exact h
theorem L0:Nz a (nx a z x) x:=by
 unfold nx;cases q:decide (a<x)&&decide (x<z) with
 |true=>exact λh=>ny _ h.2
 |false=>exact λh=>nomatch q.symm.trans ((lN _ _).mpr ⟨agZ h.1,agZ h.2⟩)
theorem Nz.le(h:Nz a z x)(q:y<=z):Nz a y x:=λg=>h ⟨g.1,gg g.2 q⟩
theorem L1(k:K' [v0,some<|.int a,v2,some (.int<|nx a z x),o4,some<|.int x,none,none] cs):W d F (kb K K') cs [v0,some<|.int a,v2,some<|.int z,o4,some<|.int x,none,none] [.ite (.chain (lo 1) .lt (lo 5) .lt<|lo 3) (sl [ak 3 (lo 5)]) (sl [])]:=by
 unfold nx at k;cases q1:decide (a<x) with
 |false=>rw [q1] at k;exact .el (.qq (.lo ag0) (.lo ag0)<|agX some q1)<|.nil k
 |true=>
  rw [q1] at k;cases q2:decide (x<z) with
  |false=>rw [q2] at k;exact .el (.j9 (.lo ag0) (.lo ag0) (agX some q1) (.lo ag0)<|agX some q2)<|.nil k
  |true=>rw [q2] at k;exact .it (.j9 (.lo ag0) (.lo ag0) (agX some q1) (.lo ag0)<|agX some q2) (.as (.lo ag0) rfl<|.nil k)
def noP(w:Wd)(a:Int)(D:List Ch):Lf:=⟨Int×Option V×Option V,λ_ x=>[some (.ref w.hm),some<|.int a,some<|.int w.sz,some<|.int x.1,x.2.1,x.2.2,none,none],λ_ _=>D,λk x=>a<x.1/\x.1<=w.sz/\∀e∈(w.E'.filter λe=>inR a w.sz e.on).take k,Nz a x.1 e.b/\Nz a x.1 e.e⟩
theorem adY(h:VW F w)(h1:a<w.sz)(k:∀z,a<z->z<=w.sz->(∀e∈w.E,Nz a z e.b/\Nz a z e.e)->KV (.int z) cs):Cl (d+3) F KV cs 65 [.ref w.hm,.int a,.int w.sz]:=by
 refine aw g65 ag0 (.as (.lo ag0) rfl<|.for (Wi.lst<|.ca (.cons (.at (.lo ag0) (.fx h.ow.ho) ag0) (.two (.lo ag0)<|.lo ag0)) (CA h.ow λw1 X g=>g w1 _ ag0 (.ix 0 ag0)<|.f1 (noP w a ([(w1,.list<|(w.E'.filter λe=>inR a w.sz e.on).map λe=>.ref e.na)]::cs)) (λ_ _ _=>.lst<|.ix 0 ag0) (λ_ _=>ag0) (λk' u x K' hv o hk=> ?_) (λx o=> ?_) (w.sz,none,none) ⟨h1,eU _,λ_ m=>absurd m du⟩ ag0 rfl)))
 ·refine kh hv λe he ev=>h.ow.ox (h.ow.pm.mem_iff.mp (gG.mp<|cG he).1) λ_ _ _ _ _ m _=> ?_;rw [ev];refine .t2 (l1:=[some (.ref w.hm),some<|.int a,some<|.int w.sz,some (.int<|nx a x.1 e.b),some<|.ref e.na,some<|.int e.b,none,none]) (l2:=[some (.ref w.hm),some<|.int a,some<|.int w.sz,some (.int<|nx a (nx a x.1 e.b) e.e),some<|.ref e.na,some<|.int e.e,none,none]) (.tp (.two (.at (.lo ag0) (.fx m) ag0)<|.at (.lo ag0) (.fx m) ag0)<|au ag0) ag0 rfl ag0 (λK2 hk2=>L1 hk2) (λK2 hk2=>L1 hk2) (.nil<|hk (_,some<|.ref e.na,some<|.int e.e) ⟨LZ<|LZ o.1,aL oz<|aL oz o.2.1,λg hg=> ?_⟩);rw [take_snoc he] at hg;exact (b9.mp hg).elim (λhg=>⟨((o.2.2 g hg).1.le oz).le oz,((o.2.2 g hg).2.le oz).le oz⟩) λhg=>cr.mp hg▸⟨L0.le oz,L0⟩
 ·refine .dr 0 (.ret (.lo rfl) (k x.1 o.1 o.2.1 λe he=> ?_));have o:∀e∈(w.E'.filter λe=>inR a w.sz e.on).take ((w.E'.filter λe=>inR a w.sz e.on).map λe=>V.ref e.na).length,Nz a x.1 e.b/\Nz a x.1 e.e:=o.2.2;rw [aG,kH] at o;obtain ⟨b0,b1,b2⟩:=h.bd e he;cases q:inR a w.sz e.on with
  |true=>exact o e<|gG.mpr ⟨h.ow.pm.mem_iff.mpr he,q⟩
  |false=>have:¬a<=e.e:=λc=>nomatch q.symm.trans ((lN _ _).mpr ⟨agZ (aL b1 b2:e.b<=w.sz),agZ c⟩);have:=i8.mp this;exact ⟨λg=>ny _ (gY g.1<|gH b1 this),λg=>ny _<|gY g.1 this⟩
theorem L2(h:∀e∈w.E,Nz a z e.b/\Nz a z e.e)(h1:a<=i)(h2:i<z):dO w.E i=dO w.E a:=by unfold dO;refine agX (dM true mR) (EX λe he=> ?_);obtain ⟨n1,n2⟩:=h e he;have e1:(e.b<=i)↔(e.b<=a):=⟨λg=>cH.mp λc=>n1 ⟨c,gH g h2⟩,λg=>aL g h1⟩;have e2:(i<e.e)↔(a<e.e):=⟨λg=>gH h1 g,λg=>gg h2 (cH.mp λc=>n2 ⟨g,c⟩)⟩;exact (agX (· && decide (i<e.e)) (decide_eq_decide.mpr e1)).trans (agX (decide (e.b<=a)&& ·) (decide_eq_decide.mpr e2))
theorem adZ(h:VW F w)(h0:0<=a)(h1:a<w.sz)(k:∀z,a<z->z<=w.sz->same w a z->KV (.int z) cs):Cl (d+5) F KV cs 78 [.ref w.hm,.ref w.pa,.int a,.int w.sz]:=by
 have fin:∀(z:Int) (u:Option V),a<z->z<=w.sz->(∀i,a<=i->i<z->∀n,w.f i n=w.f a n)->u=some .none/\z=w.sz\/u=some (.int z)->W (d+4) F (fK KV) cs [some (.ref w.hm),some<|.ref w.pa,some<|.int a,some<|.int w.sz,u,none,none,none] [ak 5 (ca 65 [lo 0,lo 2,lo 3]),.ret (.ite (cm .is (lo 4) cN) (lo 5)<|Pl.pr .min2 [lo 4,lo 5])]:=λz u z1 z2 hz hu=>by
  refine .bS (.ca (.cons (.lo rfl) (.two (.lo rfl) (.lo rfl))) (adY h h1 λz' a1 a2 a3=> ?_)) rfl;rcases hu with ⟨q,e⟩|q
  ·rw [q];exact .ret (.dp (.is (.lo ag0) .k ag0) (.lo ag0)) (k z' a1 a2 λi b1 b2=>⟨hz i b1 (e▸gg b2 a2),L2 a3 b1 b2⟩)
  ·rw [q];exact .ret (.eg (.is (.lo ag0) .k ag0) (.min (.lo ag0) (.lo ag0))) (k _ (yW.mpr ⟨z1,a1⟩) (aL (yX _ _) z2) λi b1 b2=>⟨hz i b1 (yW.mp b2).1,L2 a3 b1 (yW.mp b2).2⟩)
 refine aw g78 rfl<|.bS (.ca (.cons (.lo ag0) (.two (.lo ag0)<|.lo ag0)) (ac9 h.ri h.ts VW.rd (.fx h.po) h0 h1 (λz z1 z2 hz=> ?_) λhz=>fin w.sz _ h1 (eU _) hz<|.inl ⟨ag0,ag0⟩)) ag0;exact if q:w.sz<=z then fin z _ z1 z2 hz (.inl ⟨agX some<|if_pos q,ph z2 q⟩) else fin z _ z1 z2 hz (.inr (agX some<|if_neg q))
def nsP(w:Wd)(i m:Int)(cs:List Ch):Lp:=⟨Int,λx=>[some (.ref w.ru),some<|.ref w.hm,some<|.ref w.pa,some<|.int x,some (.int<|10+m),some<|.int w.sz,some<|.int w.sz,some<|aI w i m,none,none],λ_=>cs,λx=>i<=x/\x<w.sz/\∀j,i<=j->j<=x->aI w j m=aI w i m,λx=>(w.sz-x).toNat⟩
theorem ad1(s:same w a z)(h1:a<=i)(h2:i<z):aI w i m=aI w a m:=by obtain ⟨e1,e2⟩:=s i h1 h2;unfold aI dP fY;rw [e2,e1]
theorem ad2(h:VW F w)(h0:0<=i)(h1:i<w.sz)(m0:0<=m)(m4:m<=4)(k:∀z,i<z->z<=w.sz->(∀j,i<=j->j<z->aI w j m=aI w i m)->(z=w.sz\/aI w z m≠aI w i m)->KV (.int z) cs):Cl (d+11) F KV cs 79 [.ref w.ru,.ref w.hm,.ref w.pa,.int i,.int<|10+m,.int w.sz]:=by
 refine aw g79 rfl<|.as (.ca (.one<|.at (.lo ag0) (.fx h.po) ag0)<|lA h.ri) ag0 (.as (.ca (.cons (.lo ag0) (.cons (.lo ag0)<|.cons (.lo ag0) (.two (.lo ag0)<|.lo ag0)))<|CC h h0 h1 m0 m4) rfl<|.wg (nsP w i m cs) (λ(x:Int) K' o hk=>.on (.cm (.lo ag0) (.lo ag0) (agX some<|agZ o.2.1))<|.bS (.ca (.cons (.lo ag0)<|.cons (.lo ag0) (.two (.lo ag0)<|.lo ag0))<|adZ h (aL h0 o.1) o.2.1 λz z1 z2 sm=> ?_) ag0) i ⟨eU _,h1,λj a b=>ph b a▸rfl⟩ (by rw [h.ts.sm];rfl) ag0);have hv:∀j,i<=j->j<z->aI w j m=aI w i m:=λj b1 b2=>if q:j<=x then o.2.2 j b1 q else (ad1 sm (bZ<|i8.mp q) b2).trans (o.2.2 x o.1<|eU _)
 have lt:=gH o.1 z1;cases q:decide (w.sz<=z) with
 |true=>have e:=ph z2<|agY q;exact .it (.mJ (.cm (.lo ag0) (.lo ag0)<|agX some q)) (.ret (.min (.lo ag0)<|.lo ag0)<|k _ ((EZ w.sz).symm▸e▸lt) (yX _ _) ((EZ w.sz).symm▸e▸hv) (.inl<|EZ w.sz))
 |false=>
  have ls:=i8.mp (of_decide_eq_false q);refine .el (.iS (.cm (.lo rfl) (.lo rfl) (agX some q)) (.cm (.lo rfl) (.lo rfl) (agX some q))) (.iT (.not (.ca (.two (.ca (.cons (.lo rfl) (.cons (.lo rfl) (.cons (.lo rfl) (.two (.lo rfl) (.lo rfl))))) (CC h (aL h0 (bZ lt)) ls m0 m4)) (.lo rfl)) (wX VW.rd (qw h (aL h0 (bZ lt)) ls m0 m4) (qw h h0 h1 m0 m4) λr hr=> ?_))));cases r with
  |false=>exact .ret (.lo ag0) (k z lt z2 hv (.inr λe=>nomatch hr.mpr e))
  |true=>exact .nil<|hk z ((EL<|pg o.2.1).mpr<|PB z1 w.sz) ⟨bZ lt,ls,λj b1 b2=>if q:j=z then q▸hr.mp ag0 else hv j b1 (yT.mpr ⟨b2,q⟩)⟩
theorem ad3(h:VW F w)(h0:0<=i)(h1:i<w.sz)(m0:0<=m)(m4:m<=4)(k:∀z,i<z->z<=w.sz->(∀j,i<=j->j<z->aI w j m=aI w i m)->(z=w.sz\/aI w z m≠aI w i m)->KV (.int<|z+1) cs):Cl (d+12) F KV cs 81 [.ref w.bu,.int<|i+1,.int<|10+m,.int<|w.sz+1]:=
 h.bf _ λhb=>aw g81 rfl<|.as (.at (.at (.lo ag0) (.fx hb) ag0) (.fx h.ow.ho) ag0) ag0 (.rw<|.p2 (.ca (.cons (.lo ag0) (.cons (.at (.lo ag0) (.fx hb) ag0)<|.cons (.at (.lo ag0) (.fx hb) ag0) (.cons (.ie (.sub (.lo ag0) .k)<|gm i 1)<|.two (.lo ag0) (.ie (.sub (.lo ag0) .k)<|gm w.sz 1))))<|ad2 h h0 h1 m0 m4 λz z1 z2 z3 z4=>.ev .k (.add<|k z z1 z2 z3 z4)))
end
variable{e a b c:E}{vi n:Nat}{all:Bool}{xs:List V}{p:List S}
noncomputable def CG:V->Int
 | .tup (_:: .int n::_)=>n
 |_=>0
def nums:V->List Int
 | .tup (_:: .int n::_)=>[n]
 | .tup (_::a::b::_)=>[CG a,CG b]
 |_=>[]
def VV(F:Ch)(w:Wd)(vi:Nat)(all:Bool):Prop:=∀X:Prop,(∀{u1 u2 nm hd nd},(vi,O.inst 14 [u1,u2,.ref w.bu,.ref nm,.ref hd])∈F->(nm,O.inst 12 [.int 10,.int 11,.int 12,.int 13,.int 14])∈F->(hd,O.inst 13 [.bool all,.ref nd])∈F->(nd,O.dict [(30,.int 1),(31,.int 2)])∈F->X)->X
section
variable{G:List Nat}
theorem Ev.dQ(x:Ev d F cs l e (.tup vs)):Ev d F cs l (Pl.pr .isTup [e]) (.bool true):=λK k=>We.pr (.one x)<|.pr k λ_ _ _ _ q=>q
theorem We.dp(x:Ev d F cs l c (.bool true))(y:We d F KV cs l a):We d F KV cs l (.ite c a b):=x.wb y
theorem We.eg(x:Ev d F cs l c (.bool false))(y:We d F KV cs l b):We d F KV cs l (.ite c a b):=x.wb y
theorem ad4(q:xs.length+1<=lim):aQ Mine.G .sliceFrom [.tup (u::xs),.int 1] h Q=Q (.tup xs) h:=by show wp (if (1:Int)<=1/\(1:Int)<=(u::xs).length/\(u::xs).length<=lim then some (.tup<|(u::xs).drop (1:Int).toNat,h) else none) Q=_;rw [if_pos ⟨eU _,cz.mpr (i9<|bq _),q⟩];rfl
theorem Ev.L3(x:Ev d F cs l e (.tup (u::us)))(q:us.length+1<=lim):Ev d F cs l (Pl.pr .sliceFrom [e,ci 1]) (.tup us):=λK k=>We.pr (.two x .k)<|.pr k λ_ _ _ _ q'=>(ad4 q).mpr q'
theorem ad5(q:us.length<=lim):aQ Mine.G .listOf [.tup us] h Q=Q (.ref h.length) (h++ [.list us]):=dK<|iQ q
theorem En.lot(x:Ev d F cs l e (.tup us))(q:us.length<=lim):En d F cs l (Pl.pr .listOf [e]) us:=λK k=>We.pr (.one x)<|.mk k λR H s Q q'=>(ad5 q).mpr q'
theorem L4:Co (d+1) F 187 [v,sy n] cs (.int n) cs:=λK k=>aw abE rfl<|.ret (.dp (.cS (.dQ<|.lo ag0)<|.cv (.bT (.lo ag0) .k (by decide) ag0) .k λ_ _ _=>ag0)<|.bT (.lo ag0) .k (by decide) ag0) k
theorem L5{l2:Option V}(hl:(li,O.inst 19 [.int 100,.none,.bool true,.ref pd])∈F)(hw:Fact F cs A (.list<|G.map sy))(hG:G.length<=10)(k:∀q,KV (.ref q) ([(q,.list<|G.map λ(n:Nat)=>V.int (n:Int))]::cs)):W (d+1) F (fK KV) cs [some (.ref li),some v,l2,some<|.ref A,none,none] (.ret (.comp [4] (.seq<|lo 3) (el [cm .ge (me (lo 0) 28 [lo 4]) (ci 0)])<|me (lo 0) 28 [lo 4])::p):=
 .rn ((qu (F:=G) (g:=λ(n:Nat)=>V.int (n:Int)))▸En.comp (xs:=G) (g:=sy) (r:=λ(n:Nat)=>some<|V.int (n:Int)) (.lst (.lo ag0) hw) (λ_=>.lst hw) (dL (ae hG<|by decide)) ag0 λn _ X g _=>g _ ag0 (.one (.cm (.me (.lo ag0) (.fx hl) ag0 (.one<|.lo ag0) L4) .k<|agX some (agZ<|c6 n)))<|.me (.lo ag0) (.fx hl) ag0 (.one<|.lo ag0) L4) k
theorem L6(hl:(li,O.inst 19 [.int 100,.none,.bool true,.ref pd])∈F)(hv:PV v)(ne:v≠ .none)(k:∀q,KV (.ref q) ([(q,.list<|(nums v).map V.int)]::cs)):Cl (d+2) F KV cs 83 [.ref li,v]:=by
 cases hv with
 |n=>exact absurd ag0 ne
 |s n=>exact Mt.dk 1<|aw (K:=λv c=>KV v<|cR c 1) JE ag0 (.as (.me (.lo ag0) (.fx hl) ag0 (.one<|.lo ag0) λK k=>aw JI rfl<|.ret (.eg (.cS (.dQ<|.lo ag0)<|.cv (.bT (.lo ag0) .k (by decide) ag0) .k λ_ _ _=>ag0) .k) k) rfl<|.bS (.eg (.aV (.lo ag0) .k ag0)<|.ls (.one<|.lo ag0) (au ag0) λA=>L5 (G:=[n]) hl (.ix 0 ag0) (au ag0) k) ag0)
 |l=>exact Mt.dk 1 (aw (K:=λv c=>KV v<|cR c 1) JE rfl<|.bS (.me (.lo ag0) (.fx hl) ag0 (.one<|.lo ag0)<|aw JI ag0 (.rw<|.dp (.cS (.dQ<|.lo ag0)<|.cv (.bT (.lo ag0) .k (by decide) ag0) .k λ_ _ _=>ag0) (En.lot (.L3 (.lo ag0)<|au ag0) (au ag0) _ λA=>.as (.dp (.aV (.lo ag0) .k ag0)<|.lo ag0) rfl<|L5 (G:=[21,22]) hl (.ix 0 ag0) (au ag0) k))) ag0)
theorem CH(h:VW F w)(hv:VV F w vi all):Co (d+1) F 146 [.ref vi] cs (.ref w.ru) cs:=λK k=>hv _ λv1 v2 v3 v4=>h.bf _ λhb=>aw abi rfl<|.ret (.at (.at (.at (.lo ag0) (.fx v1) ag0) (.fx hb) ag0) (.fx h.ow.ho) ag0) k
theorem CL(h:VW F w)(hv:VV F w vi all):Co (d+2) F 143 [.ref vi] cs (.int 1) cs:=λK k=>hv _ λv1 v2 v3 v4=>h.bf _ λhb=>aw abg rfl<|.ret (.me (.at (.lo ag0) (.fx v1) ag0) (.fx hb) ag0 .nil λK k=>aw aby rfl<|.ret (.at (.lo ag0) (.fx hb) ag0) k) k
theorem L7(h:VW F w)(hv:VV F w vi all):Co (d+2) F 144 [.ref vi] cs (.int<|w.sz+1) cs:=λK k=>hv _ λv1 v2 v3 v4=>h.bf _ λhb=>aw abh rfl<|.ret (.me (.at (.lo ag0) (.fx v1) ag0) (.fx hb) ag0 .nil λK k=>aw abz rfl<|.ret (.at (.lo ag0) (.fx hb) ag0) k) k
end
variable{L:List V}{D:List Ch}
def gR(L:List V):List Int:=(L.filter λv=> !bv v).flatMap nums
def mT(w:Wd)(i:Int):List Int:=gR<|dP w i 0
def ApK(F:Ch)(K:VK)(A:Nat):VK:=λv c=>∀X:Prop,(∀{us t} (j:Nat),nt c j=(A,.list us)::t->us.length<lim->K .none (ups c j ((A,.list<|us++ [v])::t))->X)->X
def ExK(F:Ch)(K:VK)(A:Nat):VK:=λv c=>∀X:Prop,(∀{vs us t c'} (B j:Nat),v= .ref B->c= [(B,.list vs)]::c'->nt c' j=(A,.list us)::t->us.length+vs.length<=lim->K .none (ups c' j ((A,.list<|us++vs)::t))->X)->X
theorem We.CM(x:Ev d F cs l e (.ref A))(m:Fact F cs A (.list us))(y:We d F (ApK F KV A) cs l a):We d F KV cs l (.lm .append e<|el [a]):=
 Mt.bind (f:=λv Q H=>mj H .append v=true/\(cM Mine.G (acl d) (el [a]) l H λvs h2=>aQ Mine.G .append (v::vs) h2 Q)) (x (λv c=>v= .ref A/\c=cs) ⟨ag0,ag0⟩) λv c h=>by rw [h.1,h.2];intro R H Q s q';refine ⟨(agX (λo=>d7 o .append)<|m R H s).trans ag0, ?_⟩;exact Mt.bind (f:=λv Q H=>aQ Mine.G .append [.ref A,v] H Q) y (λv c h=>h _ λj m2 q k R H Q s q'=>(JR (Fact.ix j m2 R H s) q).mpr (q' _ _ _ k<|s.wr m2)) R H Q s q'
theorem We.CN(x:Ev d F cs l e (.ref A))(m:Fact F cs A (.list us))(y:We d F (ExK F KV A) cs l a):We d F KV cs l (.lm .extend e<|el [a]):=
 Mt.bind (f:=λv Q H=>mj H .extend v=true/\(cM Mine.G (acl d) (el [a]) l H λvs h2=>aQ Mine.G .extend (v::vs) h2 Q)) (x (λv c=>v= .ref A/\c=cs) ⟨ag0,ag0⟩) λv c h=>by rw [h.1,h.2];intro R H Q s q';refine ⟨(agX (λo=>d7 o .extend)<|m R H s).trans ag0, ?_⟩;refine Mt.bind (f:=λv Q H=>aQ Mine.G .extend [.ref A,v] H Q) y (λv c h=>h _ λ{vs us t c'} B j e1 e2 m2 q k=> ?_) R H Q s q';rw [e1,e2];intro R H Q s' q';have f1:=Fact.ix (F:=F) (cs:=[(B,.list vs)]::c') (j+1) m2 R H s';have f2:=Fact.ix (F:=F) (cs:=[(B,.list vs)]::c') 0 ag0 R H s';have ne:A≠B:=λe=>(dF.mp s'.1).1<|e▸eT (f:=(·.1)) (cJ _ (gy (p:=(A,O.list us)) c' j<|m2▸ .head _));exact (JS f1 f2 ne q).mpr<|q' _ _ _ k (Sat.right (L:=[(B,O.list vs)])<|Hs.wr (o':=.list<|us++vs) (i:=j+1) s' m2)
theorem CP(e:h[A]? = some (.list us)):aQ Mine.G .jR [.ref A] h Q=Q (.tup us) h:=dK<|ly (f:=λ_ xs=>some (V.tup xs,h)) e
theorem Ev.L8(x:Ev d F cs l e (.ref A))(m:Fact F cs A (.list us)):Ev d F cs l (Pl.pr .jR [e]) (.tup us):=λK k=>We.pr (.one x)<|.pr k λR H s Q q'=>(CP<|m R H s).mpr q'
theorem En.tz{α:Type}{xs:List α}{g f:α->V}(src:Src d F cs l it iv)(hn:∀k,Gives F iv (xs.map g) k cs)(hl:xs.length<=lim)(q:aR t l.length)(step:∀a∈xs,∀X:Prop,(If d F cs (st l t<|g a) es true->Ev d F cs (st l t<|g a) e (f a)->X)->X):En d F cs l (.comp [t] it (el es) e) (xs.map f):=
 (qu (F:=xs) (g:=f))▸En.comp (r:=λa=>some<|f a) src hn hl q λa m X h _=>step a m X<|h _ ag0
theorem L9(h:PV v):(nums v).length<=2:=by cases h;exact bq _;exact au rfl;exact au rfl
theorem ad9(h:bv v):gR (L++ [v])=gR L:=by unfold gR;rw [EV,qL (by rw [h];nofun)];exact agX (PE nums)<|bc _
theorem aea(h:bv v=false):gR (L++ [v])=gR L++nums v:=by unfold gR;rw [EV,uw (by rw [h];rfl),yY];exact agX (_++ ·)<|bc _
theorem aeb(h:PV v)(ne:v≠ .none):bv v=false:=by cases h;exact absurd rfl ne;rfl;rfl
def Ma(w:Wd)(i:Int)(vi w2 l5 l6:Nat)(D:List Ch):Lf:=⟨Option V,λ_ x=>[some (.ref vi),some (.int<|i+1),some<|.ref w.ru,some<|.ref w.hm,some<|.ref w2,some<|.ref l5,some<|.ref l6,x,none,none],λk _=>[(l6,.list<|(gR<|(dP w i 0).take k).map V.int)]::D,λk _=>(gR<|(dP w i 0).take k).length<=2*k⟩
theorem Mb(h:VW F w)(h0:0<=i)(h1:i<w.sz):∀v∈dP w i 0,PV v:=λv hv=>(show VP F false v from LX h h0 h1 (eU 0) (by decide) v hv)
theorem xh(h:VW F w):(dO w.E i).length<=5:=ae (aF e6.length_eq)<|ae (kJ _ _) h.ow.le
theorem Mc(h:VW F w):(dP w i 0).length<=6:=by unfold dP;rw [aX,aG];exact i9 (ae (aF e6.length_eq)<|ae (kJ _ _) h.ow.le)
theorem aec{w2 l5 l6:Nat}(h:VW F w)(h0:0<=i)(h1:i<w.sz)(hv:(dP w i 0)[k]? = some v)(o:(gR<|(dP w i 0).take k).length<=2*k)(hk:Nf (Ma w i vi w2 l5 l6 D) K' (k+1)):
 W (d+8) F (kb (fK KV) K') ([(l6,.list<|(gR<|(dP w i 0).take k).map V.int)]::D) [some (.ref vi),some (.int<|i+1),some<|.ref w.ru,some<|.ref w.hm,some<|.ref w2,some<|.ref l5,some<|.ref l6,some v,none,none] [.ite (.not<|me (lo 2) 34 [lo 7]) (sl [.expr (.lm .extend (lo 6)<|el [ca 83 [at_ 18 (lo 2),lo 7]])]) (sl [])]:=by
 obtain ⟨li,dd,pd,hr⟩:=h.ow.rl;have pv:=Mb h h0 h1 v (cG hv);have kl:k<6:=bC (fF.mp hv).1 (Mc h);have hk:(gR ((dP w i 0).take (k+1))).length<=2*(k+1)->K' [some (.ref vi),some (.int (i+1)),some (.ref w.ru),some (.ref w.hm),some (.ref w2),some (.ref l5),some (.ref l6),some v,none,none] ([(l6,.list ((gR ((dP w i 0).take (k+1))).map V.int))]::D):=hk (some v);rw [take_snoc hv] at hk;refine .iT (.not (.me (.lo rfl) (.fx hr.a) rfl (.one (.lo rfl)) (Cr hr VW.rd (kk:=false) pv λr hn=> ?_)));cases r with
 |true=>rw [ad9 (hn.mp rfl▸rfl)] at hk;exact .nil (hk<|ae o (pi 2<|oV k))
 |false=>
  have ne:v≠ .none:=λq=>nomatch hn.mpr q;have nl:=L9 pv;rw [aea (aeb pv ne),bK] at hk;refine .xp<|.CN (.lo ag0) (.ix 0 ag0) (.ca (.two (.at (.lo ag0) (.fx hr.a) ag0)<|.lo ag0)<|L6 hr.b pv ne λq X g=>g q 0 ag0 rfl ag0 ?_ ⟨ag0,.nil<|hk ?_⟩)
  ·rw [aG,aG];exact ae (jK (ae o (pi 2 (cV kl))) nl) (au ag0)
  ·rw [aX];exact jK o nl
theorem Me(h:VW F w)(hv:VV F w vi all)(h0:0<=i)(h1:i<w.sz):Co (d+9) F 147 [.ref vi,.int (i+1)] cs (.tup ((mT w i).map V.int)) cs:=λK k=>hv _ λv1 v2 v3 v4=>h.bf _ λhb=>by obtain ⟨li,dd,pd,hr⟩:=h.ow.rl;have ol:(dO w.E i).length<=lim:=dL (ae (xh h) (by decide));refine Mt.dk 0 (Mt.dk 0 (Mt.dk 0 (Mt.dk 0 (aw (K:=λv c=>K v (cR (cR (cR (cR c 0) 0) 0) 0)) abj rfl (.tu (.ev (.tp (.two (.me (.lo rfl) (.fx v1) rfl .nil (CH h hv)) (.at (.at (.lo rfl) (.fx v1) rfl) (.fx hb) rfl)) (au rfl)) (.bS (.cw (.co (.lo rfl) (.ef (.ca (.two (.lo rfl) (.ie (.sub (.lo rfl) .k) (gm i 1))) (LS h.ow λw1=>LU h.ow (.ix 0 rfl) λw2=> ?_))))) rfl)) rfl rfl)))));refine .an (.tz (xs:=dO w.E i) (g:=λe=>.ref e.oa) (f:=λe=>e.tl 0) (.lst (.lo rfl) (.ix 0 rfl)) (λ_=>.lst (.ix 0 rfl)) ol rfl λe he X g=>g .nil (.ca (.cons (.lo rfl) (.two (.lo rfl) (.at (.at (.lo rfl) (.fx v1) rfl) (.fx v2) rfl))) (Cu (m:=0) h.ow (tw he).1 (eU 0) (by decide)))) rfl λl5=> ?_;refine .xp (.CM (.lo rfl) (.ix 0 rfl) (.cw (.co (.lo rfl) (.cx (.ca (.two (.at (.at (.lo rfl) (.fx v1) rfl) (.fx hb) rfl) (.ie (.sub (.lo rfl) .k) (gm i 1))) (Lc h.ri h.ts (.fx h.po) h0 h1 λq l t1 t2=>.co (.at (.at (.lo rfl) (.fx v1) rfl) (.fx v2) rfl) (.nil (xd (num:=10) hr (.fx t1.tp.m) t1.tp.len (LY t1) _ λX g=>g 0 rfl (bx (ae (aF (aG _)) (xh h)) (au rfl)) ⟨rfl, ?_⟩))))))));rw [t2];refine .an (.ls .nil (au rfl)) rfl λl6=>.f1 (.lst (.lo rfl) (.ix 1 rfl)) (Ma w i vi w2 l5 l6 _) (λ_ _ _=>.lst (.ix 1 rfl)) (λ_ _=>rfl) (λk v x K' hv' o hk=>aec h h0 h1 hv' o hk) (λx o=>.ret (.L8 (.lo rfl) (.ix 0 rfl)) ?_) none (bq _) rfl rfl;show K (.tup ((gR ((dP w i 0).take (dP w i 0).length)).map V.int)) cs;rw [kH];exact k
variable{o:O}
noncomputable def xj(n:Int):Int:=bif decide (n=30) then 1 else bif decide (n=31) then 2 else 0
def tA(w:Wd)(all:Bool)(i:Int):Int:=bif bv (aI w i 1) then 0 else bif all then 1 else xj (CG<|aI w i 1)
section
variable{hd nd q:Nat}{cd:V->V}
theorem aed(e:h[A]? = some (.dict kvs)):bR h .isIn (.int z) (.ref A)=some (dJ z kvs).isSome:=by show (h[A]?.bind λo=>(pO o).map λkvs=>(dJ z kvs).isSome)=_;rw [e];rfl
theorem We.mew(x:Ev d F cs l e (.ref A))(m:Fact F cs A o)(q:oe (some o) n=some f)(xs:d9 d F (λvs c=>Cl d F KV c f (.ref A::vs)) cs l es):We d F KV cs l (Pl.me e n es):=
 Mt.bind (f:=λv Q H=>JM v H n λf=>cM Mine.G (acl d) (el es) l H λvs h2=>acl d f (v::vs) h2 Q) (x (λv c=>v= .ref A/\c=cs) ⟨ag0,ag0⟩) λv c h=>by rw [h.1,h.2];intro R H Q s q';show oP (oe H[A]? n) _;rw [m R H s,q];exact Mt.bind (f:=λvs Q H=>acl d f (.ref A::vs) H Q) xs (λ_ _ h=>h) R H Q s q'
theorem CQ(h:VW F w)(h0:0<=i)(h1:i<w.sz)(m0:0<=m)(m2:m<=2):∀v∈dP w i m,VN F w.cd m v:=λv hv=>(b9.mp hv).elim (λhv=>let ⟨e,he,q⟩:=bB.mp hv;q▸h.ty e (tw he).1 m m0 (aL m2 (by decide))) λhv=>cr.mp hv▸h.fy i h0 h1 m m0 m2
theorem xl(h:VW F w)(h0:0<=i)(h1:i<w.sz)(m0:0<=m)(m2:m<=2):VN F w.cd m (aI w i m):=CB.elim (λe=>(agX (VN F w.cd m) (e:aI w i m= .none)).mpr<|.n m)<|CQ h h0 h1 m0 m2 _
theorem VN.one(h:VN F cd m v)(q:m=1):v= .none\/∃k:Nat,k∈ [30,31,32]/\v=sy k:=by
 cases h with
 |n=>exact .inl ag0
 |a=>exact absurd q<|by decide
 |l=>exact absurd q<|by decide
 |b k hk=>exact .inr ⟨k,hk,ag0⟩
 |t _ _ h2=>exact absurd (q▸h2)<|by decide
def osP(hd q n:Nat)(D:List Ch):Lf:=⟨Option V,λ_ x=>[some (.ref hd),some<|.ref q,x,none,none],λ_ _=>D,λk _=>k<=1/\(k=1->xj n=0)⟩
theorem aeg(hn:n∈ [30,31,32])(h1:(hd,O.inst 13 [.bool all,.ref nd])∈F)(h2:(nd,O.dict [(30,.int 1),(31,.int 2)])∈F)(hq:Fact F cs q (.list [.int (n:Int)])):Co (d+1) F 141 [.ref hd,.ref q] cs (.int<|xj n) cs:=λK k=>by
 refine aw abe rfl (.f1 (.lst (.lo rfl) hq) (osP hd q n cs) (λ_ _ _=>.lst hq) (λ_ _=>rfl) (λj v x K' hv o hk=> ?_) (λx o=>.ret .k (o.2 rfl▸k)) none ⟨bq _,nofun⟩ rfl rfl);have j0:j=0:=Py.mp (Nat.lt_succ_iff.mp (fF.mp hv).1);subst j0;rw [<- av hv];have ev:∀{b},(dJ (n:Int) [(30,.int 1),(31,.int 2)]).isSome=b->Ev d F cs [some (.ref hd),some (.ref q),some (.int n),none,none] (cm .isIn (lo 2) (at_ 48 (lo 0))) (.bool b):=λe=>.cv (.lo rfl) (.at (.lo rfl) (.fx h1) rfl) λR H s=>(aed ((Fact.fx h2:Fact F cs _ _) R H s)).trans (agX some e);rcases aO.mp hn with e|hn
 ·subst e;exact .it (ev ag0) (.ret (.w9 (.at (.lo ag0) (.fx h1) ag0) (.lo ag0) (.fx h2) ag0) k)
 ·rcases aO.mp hn with e|hn
  ·subst e;exact .it (ev ag0) (.ret (.w9 (.at (.lo ag0) (.fx h1) ag0) (.lo ag0) (.fx h2) ag0) k)
  ·have e:=cr.mp hn;subst e;exact .el (ev ag0) (.nil<|hk (some<|.int 32) ⟨cf _,λ_=>ag0⟩)
theorem aeh(h:VW F w)(hv:VV F w vi all)(h0:0<=i)(h1:i<w.sz):Co (d+12) F 148 [.ref vi,.int<|i+1] cs (.int<|tA w all i) cs:=λK k=>hv _ λv1 v2 v3 v4=>by
 obtain ⟨li,dd,pd,hr⟩:=h.ow.rl;refine aw abk rfl (.as (.me (.lo rfl) (.fx v1) rfl .nil (CH h hv)) rfl (.as (.ca (.cons (.at (.lo rfl) (.fx v1) rfl) (.two (.lo rfl) (.at (.at (.lo rfl) (.fx v1) rfl) (.fx v2) rfl))) (CF (m:=1) h h0 h1 (by decide) (by decide))) rfl (.iT (.me (.lo rfl) (.fx hr.a) rfl (.one (.lo rfl)) (Cr hr VW.rd (qw (m:=1) h h0 h1 (by decide) (by decide)) λr hn=> ?_)))));unfold tA at k;cases r with
 |true=>rw [show bv (aI w i 1)=true from hn.mp rfl▸rfl] at k;exact .ret .k k
 |false=>
  have ne:aI w i 1≠ .none:=λq=>nomatch hn.mpr q;rcases (xl (m:=1) h h0 h1 (by decide) (by decide)).one rfl with e|⟨n,hn,e⟩
  ·exact absurd e ne
  ·rw [e] at k ne ⊢;cases all with
   |true=>exact .rw (.dp (.at (.at (.lo ag0) (.fx v1) ag0) (.fx v3) ag0)<|.ev .k k)
   |false=>exact .rw (Mt.dk 0<|We.eg (.at (.at (.lo ag0) (.fx v1) ag0) (.fx v3) ag0) (.mew (.at (.lo ag0) (.fx v1) ag0) (.fx v3) rfl<|.ef (.ca (.two (.at (.lo ag0) (.fx hr.a) ag0)<|.lo ag0)<|L6 hr.b (PV.s n) ne λq=>aeg hn v3 v4 (.ix 0 ag0) _ k)))
end
section
variable{cd:V->V}
theorem Ev.xm(x:Ev d F cs l e v)(q:∀R H,Hs F R cs H->jV H v=some t):Ev d F cs l (Pl.pr (.pK 9) [e]) (.bool<|t == 109):=λK k=>We.pr (.one x) (.pr k λR H s Q q'=>by show JT (jV H v) (λt=>t == 109) H Q;rw [q R H s];exact q')
theorem VN.two(h:VN F cd m v)(q:2<=m):v= .none\/TX F cd v:=by
 cases h with
 |n=>exact .inl ag0
 |a=>exact absurd q<|by decide
 |l=>exact absurd q<|by decide
 |b=>exact absurd q<|by decide
 |t _ _ _ x=>exact .inr x
theorem aei(h:VW F w)(hv:VV F w vi all)(h0:0<=i)(h1:i<w.sz)(k1:aI w i 2= .none->KV .none cs)(k2:aI w i 2≠ .none->0<i->aI w (i-1) 2=aI w i 2->∀q,KV (.tup [.ref q,.tup [],.int<|i+2]) ([(q,.list [])]::cs))(k3:aI w i 2≠ .none->¬(0<i/\aI w (i-1) 2=aI w i 2)->∀z,i<z->z<=w.sz->(∀j,i<=j->j<z->aI w j 2=aI w i 2)->(z=w.sz\/aI w z 2≠aI w i 2)->KV (.tup [w.cd (aI w i 2),.tup<|(mT w i).map V.int,.int<|z+1]) cs):
 Cl (d+13) F KV cs 149 [.ref vi,.int<|i+1]:=hv _ λv1 v2 v3 v4=>by
 have vp:=qw (m:=2) h h0 h1 (by decide) (by decide);have nx:=λk=>ad3 (d:=d) (KV:=k) (cs:=cs) (m:=2) h h0 h1 (by decide) (by decide);have fa:=Me (d:=d+3) (cs:=cs) h hv h0 h1;refine aw abl rfl (.as (.ca (.cons (.at (.lo rfl) (.fx v1) rfl) (.two (.lo rfl) (.at (.at (.lo rfl) (.fx v1) rfl) (.fx v2) rfl))) (CF (m:=2) h h0 h1 (by decide) (by decide))) rfl ?_);rcases (xl (m:=2) h h0 h1 (by decide) (by decide)).two (by decide) with e|⟨a,c,cs',e1,e2,e3,-⟩
 ·rw [e] at k1 ⊢;exact .it (.mK (.xm (t:=0) (.lo ag0) λ_ _ _=>ag0)) (.ret .k (k1 ag0))
 ·rw [e1] at vp;rw [e2] at k3;rw [e1] at k2 k3 ⊢;refine .el (.sS (.xm (t:=109) (.lo ag0) λR H s=>B5 ((Fact.fx e3:Fact F cs _ _) R H s))) ?_
  have rest:¬(0<i/\aI w (i-1) 2= .ref a)->W (d+12) F (fK KV) cs [some (.ref vi),some (.int<|i+1),some<|.ref a,none,none,none] [ak 3 (ca 81 [at_ 50 (lo 0),lo 1,at_ 44 (at_ 51<|lo 0),me (lo 0) 10 []]),.ret<|Pl.pr .tup [at_ 39 (lo 2),me (lo 0) 56 [lo 1],lo 3]]:=λhc=>
   .bS (.ca (.cons (.at (.lo ag0) (.fx v1) ag0) (.cons (.lo ag0)<|.two (.at (.at (.lo ag0) (.fx v1) ag0) (.fx v2) ag0) (.me (.lo ag0) (.fx v1) ag0 .nil<|L7 h hv))) (nx _ λz z1 z2 z3 z4=>.ret (.tp (.cons (.at (.lo ag0) (.fx e3) ag0) (.two (.me (.lo ag0) (.fx v1) ag0 (.one<|.lo ag0) fa)<|.lo ag0))<|au ag0)<|k3 nofun hc z z1 z2 (e1▸z3) (e1▸z4))) ag0
  cases q:decide (1<i+1) with
  |false=>exact .el (.ew (.cm (.lo ag0) (.me (.lo ag0) (.fx v1) ag0 .nil<|CL h hv)<|agX some q)) (rest λhc=>of_decide_eq_false q<|Int.add_lt_add_right hc.1 1)
  |true=>
   have i0:0<i:=PF (agY q:0+1<i+1);have j0:0<=i-1:=Int.le_sub_right_of_add_le i0;have j1:i-1<w.sz:=gY (Int.sub_lt_self i (by decide)) h1;refine .iT (.cS (.cm (.lo rfl) (.me (.lo rfl) (.fx v1) rfl .nil (CL h hv)) (agX some q)) (.ca (.two (.ca (.cons (.at (.lo rfl) (.fx v1) rfl) (.two (.ie (.sub (.lo rfl) .k) ((gm i 1).trans (nu i 1).symm)) (.at (.at (.lo rfl) (.fx v1) rfl) (.fx v2) rfl))) (CF (m:=2) h j0 j1 (by decide) (by decide))) (.lo rfl)) (wX VW.rd (qw (m:=2) h j0 j1 (by decide) (by decide)) vp λr hr=> ?_)));cases r with
   |true=>exact .rw<|.pw (.cx<|.ls .nil (au ag0) λq=>.co (.tp .nil<|au ag0) (.co (.ie (.add (.lo ag0) .k)<|c7 i 1 1)<|.nil (.tp (au ag0)<|k2 nofun i0 (hr.mp ag0) q)))
   |false=>exact rest λhc=>nomatch hr.mpr hc.2
end
variable{na:Nat}{s:Int}
def isIn(b e be en:Int)(z:Bool):Bool:=bif decide (b<e) then decide (b<en)&&decide (be<e) else decide (b=be)||((decide (be<b)&&decide (b<en))||(decide (b=en)&&z))
section
variable{p q:Bool}
theorem Ev.and(h:Ev d F cs l a (.bool p))(g:Ev d F cs l b (.bool q)):Ev d F cs l (.and a b) (.bool<|p&&q):=by
 cases p
 ·exact h.ew
 ·exact h.cS g
theorem Ev.or(h:Ev d F cs l a (.bool p))(g:Ev d F cs l b (.bool q)):Ev d F cs l (.or a b) (.bool (p||q)):=by
 cases p
 ·exact h.iS g
 ·exact h.mJ
theorem Ev.ch(h:Ev d F cs l a (.int x))(g:Ev d F cs l b (.int y))(k:Ev d F cs l c (.int z)):Ev d F cs l (.chain a .lt b .lt c) (.bool<|decide (x<y)&&decide (y<z)):=by
 cases e:decide (x<y)
 ·exact h.qq g<|agX some e
 ·exact h.j9 g (agX some e) k ag0
theorem Mf{n e:Int}{u10 u11:V}(h:Fact F cs na (.inst 2 [.int n,.int s,.int e,u4,u5,u6,u7,u8,u9,u10,u11])):Co (d+1) F 63 [.ref na,.int be,.int en,.bool all] cs (.bool<|isIn s e be en all) cs:=λK k=>
 aw g63 ag0 (.ite (.cm (.at (.lo ag0) h ag0) (.at (.lo ag0) h ag0) ag0) (λq=>.ret (.and (.cm (.at (.lo ag0) h ag0) (.lo ag0) ag0)<|.cm (.at (.lo ag0) h ag0) (.lo ag0) ag0)<|(agX (λb=>K (.bool (bif b then decide (s<en)&&decide (be<e) else decide (s=be)||((decide (be<s)&&decide (s<en))||(decide (s=en)&&all)))) cs) q).mp k)
  λq=>.ret (.or (.cm (.at (.lo ag0) h ag0) (.lo ag0) ag0)<|.or (.ch (.lo ag0) (.at (.lo ag0) h ag0)<|.lo ag0) (.and (.cm (.at (.lo ag0) h ag0) (.lo ag0) ag0)<|.lo ag0))<|(agX (λb=>K (.bool (bif b then decide (s<en)&&decide (be<e) else decide (s=be)||((decide (be<s)&&decide (s<en))||(decide (s=en)&&all)))) cs) q).mp k)
theorem Ev.mul(h:Ev d F cs l a (.int x))(g:Ev d F cs l b (.int y))(s:small x)(s':small y):Ev d F cs l (Pl.pr .mul [a,b]) (.int<|x*y):=λK k=>We.pr (.two h g)<|.pr k λ_ _ _ _ q=>(abI s s').mpr q
theorem aej(h:VW F w):Co (d+2) F 175 [.ref w.bu] cs (.int w.sz) cs:=λK k=>h.bf _ λhb=>by obtain ⟨u,ce,ge,ts,t1,t2,t3,t4,t5⟩:=h.tx;exact aw abA rfl (.ret (.me (.at (.lo rfl) (.fx hb) rfl) (.fx t1) rfl .nil λK k=>aw abo rfl (.ret (.ie (.add (.sub (.len (.at (.lo rfl) (.fx t1) rfl) (.fx t2)) (.at (.lo rfl) (.fx t1) rfl)) (.at (.lo rfl) (.fx t1) rfl)) t4) k)) k)
abbrev SE:=Int×Int×Int×V
noncomputable def fD(x:SE):V:=.tup [.tup [.int x.1,.int x.2.1,.int 0,.int x.2.2.1],x.2.2.2]
def d4(w:Wd)(m o:Int)(e:Ent):List SE:=bif bv (e.tl m) then [] else [(o,bif decide (o=1) then e.pr else -e.pr,e.n,w.cd<|e.tl m)]
end
variable{o:Int}{e:Ent}{l0:Option V}{oa:Nat}
section
variable{a c:Nat}{cn hm pa:V}{l1 l2:Option V}
theorem aek(x:Int): -1*x= -x:=(Int.neg_mul 1 x).trans (agX Neg.neg<|PG x)
theorem Mg{pr:Int}(ob:Fact F cs oa (.inst 5 [.int num,cn,hm,pa]))(e3:Fact F cs a (.inst 9 [.ref c,.none]))(sp:small pr)(ss:small s)(k:∀q,KV (.ref q) ([(q,.list [.tup [.tup [.int o,.int<|s*pr,.int 0,.int num],.ref c]])]::cs)):
 W d F (fK KV) cs [l0,some<|.ref oa,l2,some<|.int o,some<|.ref a,some<|.int pr,some<|.int 0,some<|.int s,none,none] [.ret (Pl.pr .list [Pl.pr .tup [Pl.pr .tup [lo 3,Pl.pr .mul [lo 7,lo 5],Pl.pr .mul [lo 7,lo 6],at_ 8<|lo 1],at_ 39<|lo 4]])]:=
 .rn (.ls (.one (.tp (.two (.tp (.cons (.lo ag0)<|.cons (.mul (.lo ag0) (.lo ag0) ss sp) (.two (.ie (.mul (.lo ag0) (.lo ag0) ss<|by decide)<|Int.mul_zero s)<|.at (.lo ag0) ob ag0))<|au ag0)<|.at (.lo ag0) e3 ag0)<|au ag0))<|au ag0) k
theorem Mh(h:VW F w)(he:e∈w.E)(m3:3<=m)(m4:m<=4)(k:∀q,KV (.ref q) ([(q,.list<|(d4 w m o e).map fD)]::cs)):Cl (d+6) F KV cs 84 [.ref w.ru,.ref e.oa,.int<|10+m,.int o]:=by
 obtain ⟨ll,ob⟩:=h.ow.en e he;have m0:0<=m:=aL (by decide) m3;have sp:=h.sp e he;refine aw g84 rfl (.as (.ca (.cons (.lo rfl) (.two (.lo rfl) (.lo rfl))) (Cu h.ow he m0 m4)) rfl ?_);unfold d4 at k;rcases (h.ty e he m m0 m4).two (aL (by decide) m3) with q|⟨a,c,cs',e1,e2,e3,-⟩
 ·rw [q] at k ⊢;exact .it (.mK (.xm (t:=0) (.lo ag0) λ_ _ _=>ag0)) (.rn (.ls .nil (au ag0)) k)
 ·rw [e2,e1] at k;rw [e1];refine .el (.sS (.xm (t:=109) (.lo rfl) λR H s=>B5 ((Fact.fx e3:Fact F cs _ _) R H s))) (.tu (.ca (.two (.lo rfl) (.lo rfl)) (LM h.ow he _ ?_)) rfl rfl);cases q:decide (o=1) with
  |true=>rw [q] at k;exact .as (.dp (.cm (.lo ag0) .k<|agX some q) .k) ag0 (Mg (s:=1) (.fx ob.ob) (.fx e3) sp (by decide) λq=>(agX (λx=>KV (.ref q) ([(q,.list [.tup [.tup [.int o,.int x,.int 0,.int e.n],.ref c]])]::cs))<|PG e.pr).mpr<|k q)
  |false=>rw [q] at k;exact .as (.eg (.cm (.lo ag0) .k<|agX some q)<|.neg .k) ag0 (Mg (s:= -1) (.fx ob.ob) (.fx e3) sp (by decide) λq=>(agX (λx=>KV (.ref q) ([(q,.list [.tup [.tup [.int o,.int x,.int 0,.int e.n],.ref c]])]::cs))<|aek e.pr).mpr<|k q)
end
variable{q:Nat}
def ents(w:Wd)(i:Int)(e:Ent):List SE:=(bif decide (e.b=i) then d4 w 3 1 e else [])++(bif decide (e.e=i) then d4 w 4 (bif decide (e.b=e.e) then 2 else 0) e else [])
section
variable{nm:Nat}{L M:List SE}{l1 l2:Option V}
theorem qA:(d4 w m o e).length<=1:=by
 unfold d4;cases bv (e.tl m)
 ·exact cf _
 ·exact bq _
def AdK(F:Ch)(K:VK)(A:Nat)(us:List V):VK:=λv c=>∀X:Prop,(∀{ws c'} (B:Nat),v= .ref B->c= [(B,.list ws)]::c'->Fact F c' A (.list us)->(us++ws).length<=lim->(∀r,K (.ref r) ([(r,.list<|us++ws)]::c'))->X)->X
theorem We.Mi(x:Ev d F cs l a (.ref A))(y:We d F (AdK F KV A us) cs l b):We d F KV cs l (Pl.pr .add [a,b]):=
 .p2 (x _<|Mt.bind (f:=λv Q H=>Q v H) y λv c h=>h _ λB e1 e2 m q k=>.ret (K:=λw c=>Wp F KV c .add [.ref A,w]) (by rw [e1,e2];exact Mt.dk 1<|.mk k λR H s Q q'=>(BJ (m.wk R H s) (Fact.ix 0 ag0 R H s) q).mpr q'))
theorem Mj(h:L.length<=1)(h':M.length<=1):(L.map fD++M.map fD).length<=lim:=by rw [aX,aG,aG];exact ae (jK h h')<|au ag0
theorem Mk(h:VW F w)(he:e∈w.E)(hn:(nm,O.inst 12 [.int 10,.int 11,.int 12,.int 13,.int 14])∈F)(hl:L.length<=1)(q:decide (e.e=i))(ev:Ev (d+6) F ([(A,.list<|L.map fD)]::cs) [some (.ref w.ru),some<|.ref nm,some<|.ref e.oa,some<|.int i,some<|.int e.b,some<|.int e.e,some<|.ref A,none,none] (.ite (cm .eq (lo 4)<|lo 5) (ci 2)<|ci 0) (.int o))(k:∀q,KV (.ref q) ([(q,.list<|(L++d4 w 4 o e).map fD)]::cs)):
 W (d+6) F (fK KV) ([(A,.list<|L.map fD)]::cs) [some (.ref w.ru),some<|.ref nm,some<|.ref e.oa,some<|.int i,some<|.int e.b,some<|.int e.e,some<|.ref A,none,none] [.ite (cm .eq (lo 5)<|lo 3) (sl [ak 6 (Pl.pr .add [lo 6,ca 84 [lo 0,lo 2,at_ 46<|lo 1,.ite (cm .eq (lo 4)<|lo 5) (ci 2)<|ci 0]])]) (sl []),.ret<|lo 6]:=
 .it (.cm (.lo ag0) (.lo ag0)<|agX some q) (.bS (i:=6) (.Mi (.lo ag0)<|.ca (.cons (.lo ag0) (.cons (.lo ag0)<|.two (.at (.lo ag0) (.fx hn) ag0) ev)) (Mh (m:=4) h he (by decide) (by decide) λB X g=>g B ag0 rfl (.ix 0 ag0) (Mj hl qA) λr=>.dr 1<|.ret (.lo ag0) ((agX (λl=>KV (.ref r) ([(r,.list l)]::cs))<|bK (f:=fD)).mp<|k r))) ag0)
theorem Ml(h:VW F w)(he:e∈w.E)(hn:(nm,O.inst 12 [.int 10,.int 11,.int 12,.int 13,.int 14])∈F)(hl:L.length<=1)(k:∀q,KV (.ref q) ([(q,.list<|(L++bif decide (e.e=i) then d4 w 4 (bif decide (e.b=e.e) then 2 else 0) e else []).map fD)]::cs)):
 W (d+6) F (fK KV) ([(A,.list<|L.map fD)]::cs) [some (.ref w.ru),some<|.ref nm,some<|.ref e.oa,some<|.int i,some<|.int e.b,some<|.int e.e,some<|.ref A,none,none] [.ite (cm .eq (lo 5)<|lo 3) (sl [ak 6 (Pl.pr .add [lo 6,ca 84 [lo 0,lo 2,at_ 46<|lo 1,.ite (cm .eq (lo 4)<|lo 5) (ci 2)<|ci 0]])]) (sl []),.ret<|lo 6]:=by
 cases q:decide (e.e=i) with
 |false=>rw [q] at k;exact .el (.cm (.lo ag0) (.lo ag0)<|agX some q)<|.ret (.lo ag0) ((agX (λl:List SE=>KV (.ref A) ([(A,.list<|iF fD l)]::cs))<|bc L).mp<|k A)
 |true=>
  rw [q] at k;cases q2:decide (e.b=e.e) with
  |true=>rw [q2] at k;exact Mk h he hn hl q (.dp (.cm (.lo ag0) (.lo ag0)<|agX some q2) .k) k
  |false=>rw [q2] at k;exact Mk h he hn hl q (.eg (.cm (.lo ag0) (.lo ag0)<|agX some q2) .k) k
theorem aem(h:VW F w)(he:e∈w.E)(hn:(nm,O.inst 12 [.int 10,.int 11,.int 12,.int 13,.int 14])∈F)(k:∀q,KV (.ref q) ([(q,.list<|(ents w i e).map fD)]::cs)):Cl (d+7) F KV cs 85 [.ref w.ru,.ref nm,.ref e.oa,.int i]:=by
 refine aw g85 rfl (.tu (.ev (.tp (.two (.ca (.one (.lo rfl)) (LK h.ow he)) (.ca (.one (.lo rfl)) (LL h.ow he))) (au rfl)) (.an (.ls .nil (au rfl)) rfl λA=> ?_)) rfl rfl);unfold ents at k;cases q:decide (e.b=i) with
 |false=>rw [q] at k;exact .el (.cm (.lo ag0) (.lo ag0)<|agX some q)<|Ml (L:=[]) h he hn (bq _) k
 |true=>rw [q] at k;exact .it (.cm (.lo ag0) (.lo ag0)<|agX some q)<|.bS (.Mi (us:=[]) (.lo ag0)<|.ca (.cons (.lo ag0) (.cons (.lo ag0)<|.two (.at (.lo ag0) (.fx hn) ag0) .k)) (Mh (m:=3) (o:=1) h he (by decide) (by decide) λB X g=>g B ag0 rfl (.ix 0 ag0) (Mj (L:=[]) (bq _) qA) λr=>.dr 1<|Ml (L:=d4 w 3 1 e) h he hn qA k)) ag0
end
theorem aen(h:VW F w)(hv:VV F w vi all)(i:Nat)(hi:(i:Int)<w.sz):Co (d+3) F 145 [.ref vi,.int ((i:Int)+1)] cs (.int (97+i)) cs:=λK k=>hv _ λv1 v2 v3 v4=>h.bf _ λhb=>by obtain ⟨u,ce,ge,ts,t1,t2,t3,t4,t5⟩:=h.tx;have q1:decide ((i:Int)+1<1)=false:=decide_eq_false λc=>absurd (PF (c:(i:Int)+1<0+1)) (cH.mpr (c6 i));have q2:decide (w.sz+1<=(i:Int)+1)=false:=decide_eq_false λc=>absurd (Int.le_of_add_le_add_right c) (i8.mpr hi);have sm:small (i:Int):=lB (ae (cz.mp (aL (bZ hi) h.s1)) (by decide));exact aw JG rfl (.ret (.me (.at (.lo rfl) (.fx v1) rfl) (.fx hb) rfl (.one (.lo rfl)) λK k=>aw JH rfl (.el (.iS (.cm (.lo rfl) (.at (.lo rfl) (.fx hb) rfl) (agX some q1)) (.cm (.lo rfl) (.at (.lo rfl) (.fx hb) rfl) (agX some q2))) (.ret (.me (.at (.lo rfl) (.fx hb) rfl) (.fx t1) rfl (.one (.ie (.sub (.lo rfl) .k) (gm (i:Int) 1))) λK k=>aw abp rfl (.it (.cm (.lo rfl) (.at (.lo rfl) (.fx t1) rfl) (agX some (agZ hi))) (.ret (.fB (.at (.lo rfl) (.fx t1) rfl) (.lo rfl) (.fx t2) sm (lF (t3 i hi))) k))) k))) k)
theorem Mm(h:VW F w)(hv:VV F w vi all)(q:at'<1\/w.sz+1<=at'):Co (d+3) F 145 [.ref vi,.int at'] cs (.int<|-1) cs:=λK k=>hv _ λv1 v2 v3 v4=>h.bf _ λhb=>
 aw JG ag0 (.ret (.me (.at (.lo ag0) (.fx v1) ag0) (.fx hb) ag0 (.one<|.lo ag0) λK k=>aw JH ag0 (.it (q.elim (λq=>.mJ<|.cm (.lo ag0) (.at (.lo ag0) (.fx hb) ag0) (agX some<|agZ q)) λq=>if c:at'<1 then .mJ (.cm (.lo ag0) (.at (.lo ag0) (.fx hb) ag0) (agX some<|agZ c)) else .iS (.cm (.lo ag0) (.at (.lo ag0) (.fx hb) ag0) (agX some<|decide_eq_false c)) (.cm (.lo ag0) (.at (.lo ag0) (.fx hb) ag0) (agX some<|agZ q)))<|.ret (.neg .k) k)) k)
def near(be en z:Int)(E:List Ent):List Ent:=(E.filter λe=>inR be en e.on).filter λe=>isIn e.b e.e be en (decide<|en=z)
section
variable{T:Tr Ov}{E:List Ent}
theorem aeo(h:OW F hm ta da ru E E' T)(k:∀q,KV (.ref q) ([(q,.list<|(near be en z E').map λe=>.ref e.oa)]::cs)):Cl (d+3) F KV cs 64 [.ref hm,.int be,.int en,.int z]:=by
 refine aw g64 rfl<|.bS (.comp (Wi.lst<|.ca (.cons (.at (.lo ag0) (.fx h.ho) ag0) (.two (.lo ag0)<|.lo ag0)) (CA h λw X g=>g w _ ag0 (.ix 0 ag0)<|.of (xs:=E'.filter λe=>inR be en e.on) (g:=λe=>.ref e.na) (r:=λe=>bif isIn e.b e.e be en (decide<|en=z) then some (.ref e.na) else none) (λ_=>.lst<|.ix 0 ag0) (dL (ae (h.mS _)<|by decide)) ag0 (λe he X y nn=> ?_) λw2=> ?_))) ag0
 ·refine h.ox (h.pm.mem_iff.mp (gG.mp he).1) λ_ _ _ _ _ m _=> ?_;cases q:isIn e.b e.e be en (decide (en=z)) with
  |false=>exact nn (agX (λb=>bif b then some (V.ref e.na) else none) q) (.one<|q▸ .ca (.cons (.lo ag0)<|.cons (.lo ag0) (.two (.lo ag0)<|.cm (.lo ag0) (.lo ag0) ag0)) (Mf<|.fx m))
  |true=>exact y _ (agX (λb=>bif b then some (V.ref e.na) else none) q) (.one<|q▸ .ca (.cons (.lo ag0)<|.cons (.lo ag0) (.two (.lo ag0)<|.cm (.lo ag0) (.lo ag0) ag0)) (Mf<|.fx m))<|.lo ag0
 ·rw [oy];exact .rc (.two (.lo ag0) (.lo ag0)) (Mt.dk 1 (Mt.dk 1 (LP (G:=near be en z E') h (λe he=>h.pm.mem_iff.mp (gG.mp (gG.mp he).1).1) (.ix 0 ag0) (dL (ae (kJ _ _) (ae (h.mS _) (by decide)))) k)))
end
noncomputable def e7(i:Int)(e:Ent):Bool:=decide (i=e.b)||decide (i=e.e)
section
variable{E:List Ent}{a b:Mine.E}{v:Int}
theorem Ev.Mn{x1 x2:Int}(h:Ev d F cs l a (.int v))(g:Ev d F cs l b (.tup [.int x1,.int x2])):Ev d F cs l (Pl.cm .isIn a b) (.bool (decide<|v∈ [x1,x2])):=.cv h g λ_ _ _=>ag0
theorem Mo:decide (i∈ [e.b,e.e])=e7 i e:=by unfold e7;rw [<- Bool.decide_or];exact decide_eq_decide.mpr (aO.trans<|or_congr Iff.rfl cr)
theorem aep(h0:0<=i)(h1:i<=z)(b0:0<=e.b)(b1:e.b<=e.e)(q:e7 i e):isIn e.b e.e (max 0<|i+1-2) (i+1) (decide<|i+1=z)/\inR (max 0<|i+1-2) (i+1) e.on:=by
 have q:i=e.b\/i=e.e:=((E0 _ _).mp q).imp agY agY
 constructor
 ·unfold isIn;cases c:decide (e.b<e.e) with
  |true=>have c:=agY c;exact (lN _ _).mpr ⟨agZ<|by omega,agZ<|by omega⟩
  |false=>
   have c:=of_decide_eq_false c;refine (E0 _ _).mpr ?_
   by_cases z0:i=0
   ·exact .inl (agZ<|by omega)
   ·exact .inr<|(E0 _ _).mpr (.inl<|(lN _ _).mpr ⟨agZ<|by omega,agZ<|by omega⟩)
 ·exact (lN _ _).mpr ⟨agZ<|show e.b<=i+1 by omega,agZ<|show max 0 (i+1-2)<=e.e by omega⟩
theorem aeq(h:VW F w)(h0:0<=i)(h1:i<=w.sz)(k:∀q,KV (.ref q) ([(q,.list<|(w.E'.filter<|e7 i).map λe=>.ref e.oa)]::cs)):Cl (d+4) F KV cs 82 [.ref w.bu,.int<|i+1]:=h.bf _ λhb=>by
 refine Mt.dk 1 (aw (K:=λv c=>KV v<|cR c 1) g82 rfl<|.bS (.ca (.cons (.at (.lo ag0) (.fx hb) ag0) (.cons (.max .k<|.sub (.lo ag0) .k)<|.two (.lo ag0) (.me (.lo ag0) (.fx hb) ag0 .nil<|aej h)))<|aeo h.ow λq=> ?_) ag0);have hm:∀e∈near (max 0<|i+1-2) (i+1) w.sz w.E',e∈w.E:=λe he=>h.ow.pm.mem_iff.mp (gG.mp (gG.mp he).1).1;refine .rn (En.comp (xs:=near (max 0<|i+1-2) (i+1) w.sz w.E') (g:=λe=>.ref e.oa) (r:=λe=>bif e7 i e then some (.ref e.oa) else none) (.lst (.lo ag0)<|.ix 0 ag0) (λ_=>.lst<|.ix 0 ag0) (dL<|ae (kJ _ _) (ae (h.ow.mS _)<|by decide)) ag0 λe he X y nn=> ?_) λr=> ?_
 ·obtain ⟨l,ob⟩:=h.ow.en e (hm e he);refine h.ow.ox (hm e he) λ_ _ _ _ _ m _=> ?_;cases q:e7 i e with
  |false=>exact nn (agX (λb=>bif b then some (V.ref e.oa) else none) q) (.one<|(Mo.trans q)▸Ev.Mn (.ie (.sub (.lo ag0) .k)<|gm i 1) (.tp (.two (.at (.at (.lo ag0) (.fx ob.ob) ag0) (.fx m) ag0)<|.at (.at (.lo ag0) (.fx ob.ob) ag0) (.fx m) ag0)<|au ag0))
  |true=>exact y _ (agX (λb=>bif b then some (V.ref e.oa) else none) q) (.one<|(Mo.trans q)▸Ev.Mn (.ie (.sub (.lo ag0) .k)<|gm i 1) (.tp (.two (.at (.at (.lo ag0) (.fx ob.ob) ag0) (.fx m) ag0)<|.at (.at (.lo ag0) (.fx ob.ob) ag0) (.fx m) ag0)<|au ag0))<|.lo ag0
 ·rw [oy]
  have e1:(near (max 0<|i+1-2) (i+1) w.sz w.E').filter (e7 i)=w.E'.filter (e7 i):=by
   unfold near;rw [EW,EW];refine EX λe he=> ?_;cases q:e7 i e with
   |false=>rfl
   |true=>obtain ⟨b0,b1,_⟩:=h.bd e (h.ow.pm.mem_iff.mp he);obtain ⟨c1,c2⟩:=aep (z:=w.sz) h0 h1 b0 b1 q;rw [c1,c2];rfl
  exact e1▸k r
end
variable{L:List Ent}{x y:SE}{R:SE->SE->Prop}{b:Bool}{ky:SE->List Int}
noncomputable def k3(x:SE):List Int:=[x.1,x.2.1,x.2.2.1]
noncomputable def k4(x:SE):List Int:=[x.1,x.2.1,0,x.2.2.1]
def lJ(w:Wd)(i:Int):List SE:=dM false k3 (w.E.flatMap<|ents w i)
section
variable{E:List Ent}
theorem xn(h:x∈d4 w m o e):x.1=o/\x.2.2.1=e.n:=by
 unfold d4 at h;cases q:bv (e.tl m) with
 |true=>rw [q] at h;cases h
 |false=>rw [q] at h;exact cr.mp h▸⟨ag0,ag0⟩
theorem Mp:(d4 w m o e).Pairwise R:=by
 unfold d4;cases bv (e.tl m) with
 |true=>exact .nil
 |false=>exact Eu _ _
theorem qB{α:Type}{L:List α}{x:α}(h:x∈bif b then L else []):b/\x∈L:=by
 cases b with
 |true=>exact ⟨ag0,h⟩
 |false=>cases h
theorem Mq{α:Type}{L:List α}{R:α->α->Prop}(h:L.Pairwise R):(bif b then L else []).Pairwise R:=by
 cases b with
 |true=>exact h
 |false=>exact .nil
theorem Mr(h:x∈ents w i e):x.2.2.1=e.n:=(b9.mp h).elim (λh=>(xn (qB h).2).2) λh=>(xn (qB h).2).2
theorem aer:(ents w i e).Pairwise λx y=>x.1≠y.1:=
 lY.mpr ⟨Mq Mp,Mq Mp,λx hx y hy q=>by
  have a:=(xn (qB hx).2).1;have b:=(xn (qB hy).2).1;have c:(1:Int)=bif decide (e.b=e.e) then 2 else 0:=a.symm.trans<|q.trans b
  revert c
  cases decide (e.b=e.e)<;>exact nofun⟩
theorem tB(hk:∀x y,ky x=ky y->x.1=y.1/\x.2.2.1=y.2.2.1)(nd:(E.map Ent.n).Nodup):((E.flatMap<|ents w i).map ky).Nodup:=
 kF.mpr (List.pairwise_flatMap.mpr ⟨λe he=>aer.imp λh q=>h (hk _ _ q).1,(kF.mp nd).imp λ{a b} h x (hx:x∈ents w i a) y (hy:y∈ents w i b) q=>h<|(Mr hx).symm.trans ((hk _ _ q).2.trans<|Mr hy)⟩)
theorem Ms(x y:SE)(h:k3 x=k3 y):x.1=y.1/\x.2.2.1=y.2.2.1:=⟨(bt h).1,(bt (bt (bt h).2).2).1⟩
theorem CR(x y:SE)(h:k4 x=k4 y):x.1=y.1/\x.2.2.1=y.2.2.1:=⟨(bt h).1,(bt (bt (bt (bt h).2).2).2).1⟩
theorem aes{a b c d:Int}{r s:List Int}:lexLt (a::b::r) (c::d::s)=lexLt (a::b::z::r) (c::d::z::s):=by have:lexLt (z::r) (z::s)=lexLt r s:=if_pos ag0;show (if a=c then (if b=d then lexLt r s else decide (b<d)) else decide (a<c))=(if a=c then (if b=d then lexLt (z::r) (z::s) else decide (b<d)) else decide (a<c));rw [this]
theorem aet(nd:(E.map Ent.n).Nodup):dM false k4 (E.flatMap<|ents w i)=dM false k3 (E.flatMap<|ents w i):=
 adP (tB Ms nd) (tB CR nd) λa _ b _ h=>aes.symm.trans h
theorem aeu(h:e7 i e=false):ents w i e= []:=by obtain ⟨a,b⟩:=yn.mp h;unfold ents;rw [decide_eq_false λq=>of_decide_eq_false a q.symm,decide_eq_false λq=>of_decide_eq_false b q.symm];rfl
theorem Mv:∀{E:List Ent},(E.filter<|e7 i).flatMap (ents w i)=E.flatMap (ents w i)
 | []=>rfl
 |e::E=>by
  rw [rC, <- Mv (E:=E)];cases q:e7 i e with
  |true=>rw [uw q,rC]
  |false=>rw [qL (λh=>nomatch q.symm.trans h),aeu q];rfl
theorem CT{α:Type}{L:List α}(h:L.length<=1):(bif b then L else []).length<=1:=by
 cases b with
 |true=>exact h
 |false=>exact bq _
theorem Mw:(ents w i e).length<=2:=ae (aF aX) (jK (CT qA)<|CT qA)
theorem tC:∀(L:List Ent),(L.flatMap<|ents w i).length<=2*L.length
 | []=>bq _
 |e::L=>by rw [rC,aX];exact ae (jK Mw<|tC L) (aF<|iZ _ _)
end
variable{b e:E}{B:Nat}
noncomputable def qC(x:SE):V:=.tup [x.2.2.2,.tup []]
section
variable{t2:Nat}
theorem Ev.tok(x:En d F cs l e us):Ev d F cs l (Pl.pr .jR [e]) (.tup us):=λK k=>.pw<|.ef (x _ λA=>Mt.dk 0<|.pr k λR H s Q q'=>(CP<|Fact.ix 0 ag0 R H s).mpr q')
theorem Mx(e:h[A]? = some (.list us))(s:sortBy false us us=some out)(l:out.length<=lim):aQ Mine.G .sorted [.ref A] h Q=Q (.ref h.length) (h++ [.list out]):=
 dK ((bO (f:=z5 h) e).trans ((agX (λo=>o.bind<|bY h) s).trans<|iQ l))
theorem En.srt(x:Ev d F cs l e (.ref A))(m:Fact F cs A (.list us))(s:sortBy false us us=some out)(q:out.length<=lim):En d F cs l (Pl.pr .sorted [e]) out:=λK k=>We.pr (.one x)<|.mk k λR H s' Q q'=>(Mx (m R H s') s q).mpr q'
theorem En.cm2{α:Type}{xs:List α}{g1 g2 f:α->V}(src:En d F cs l e (xs.map λa=>.tup [g1 a,g2 a]))(hl:xs.length<=lim)(q:aR t l.length)(q2:aR t2 l.length)(step:∀cs,∀a∈xs,Ev d F cs (st (st l t<|g1 a) t2<|g2 a) elt<|f a):En d F cs l (.comp [t,t2] (.seq e) (el []) elt) (xs.map f):=λK k=>
 Mt.bind (f:=λiv (Q:V->Hp->Prop) H=>wc iv (acl d) [t,t2] [] elt l Q H) (Wi.lst (KI:=λiv c=>Mt F c (λ(Q:V->Hp->Prop) H=>wc iv (acl d) [t,t2] [] elt l Q H) K) (src _ λA X g=>g A _ ag0 (.ix 0 ag0) (Mt.dk 1 λR H Q s q'=>by
  refine BH (vs:=xs.map λa=>V.tup [g1 a,g2 a]) (λi acc h=>Hs F R ([(A,.list<|xs.map λa=>V.tup [g1 a,g2 a])]::cs) h/\acc=(xs.take i).map f) (λi acc h w=>Gives.lst (.ix 0 ag0) R h w.1) (λi acc h v kk hv w hk=> ?_) (λacc h w=> ?_) ⟨s,ag0⟩
  ·refine kh hv λa ha ev=>⟨_,ev▸KB q q2,qj.mp ?_⟩;exact step _ a (cG ha) (λv c=>v=f a/\c=_) ⟨ag0,ag0⟩ R h _ w.1 λv c H2 hv s2=>hk _ _ ⟨hv.2▸s2,by rw [w.2,hv.1,take_snoc ha,bK];rfl⟩
  ·rw [w.2,(aG _:(xs.map λa=>V.tup [g1 a,g2 a]).length=xs.length),kH];exact ⟨ae (aF (aG _)) hl,q' _ _ _ (k _) w.1.new⟩))) λ_ _ h=>h
def cL(w:Wd)(i:Int)(L:List Ent)(vi A B:Nat)(D:List Ch):Lf:=⟨Option V,λ_ x=>[some (.ref vi),some (.int<|i+1),some<|.ref A,x,none,none],λk _=>[(B,.list<|L.map λe=>.ref e.oa)]:: [(A,.list<|((L.take k).flatMap<|ents w i).map fD)]::D,λ_ _=>True⟩
theorem My(h:L.length<=5):((L.take k).flatMap<|ents w i).length<=10:=ae (tC _) (pi 2<|ae (ae (aF List.length_take)<|Ph _ _) h)
theorem aex(h:VW F w)(hv:VV F w vi all)(hL:∀e∈L,e∈w.E)(h5:L.length<=5)(hk:(L.map λe=>V.ref e.oa)[k]? = some v)(n:Nf (cL w i L vi A B cs) K' (k+1)):
 W (d+7) F (kb K K') ([(B,.list<|L.map λe=>.ref e.oa)]:: [(A,.list<|((L.take k).flatMap<|ents w i).map fD)]::cs) [some (.ref vi),some (.int<|i+1),some<|.ref A,some v,none,none] [.expr (.lm .extend (lo 2)<|el [ca 85 [me (lo 0) 33 [],at_ 51<|lo 0,lo 3,Pl.pr .sub [lo 1,ci 1]]])]:=
 kh hk λe he ev=>hv _ λv1 v2 v3 v4=>by
  have n:=n (some v) trivial;refine .xp<|.CN (.lo ag0) (.ix 1 ag0) (.ca (.cons (.me (.lo ag0) (.fx v1) ag0 .nil<|CH h hv) (.cons (.at (.lo ag0) (.fx v1) ag0)<|.two (.lo<|agX some ev) (.ie (.sub (.lo ag0) .k)<|gm i 1)))<|aem (i:=i) h (hL e<|cG he) v2 λq X g=>g q 1 ag0 rfl ag0 ?_ ⟨ag0,.nil ?_⟩)
  ·rw [aG,aG];exact ae (jK (My h5) Mw) (au ag0)
  ·have e1:(L.take<|k+1).flatMap (ents w i)=(L.take k).flatMap (ents w i)++ents w i e:=by rw [take_snoc he,yY,rC,E2,bc]
   have n:K' _ ([(B,.list<|L.map λe=>.ref e.oa)]:: [(A,.list<|((L.take<|k+1).flatMap<|ents w i).map fD)]::cs):=n;rw [e1,bK] at n;exact n
theorem aey(h:VW F w)(hv:VV F w vi all)(h0:0<=i)(h1:i<=w.sz):Co (d+8) F 150 [.ref vi,.int<|i+1] cs (.tup<|(lJ w i).map qC) cs:=λK k=>hv _ λv1 v2 v3 v4=>by refine Mt.dk 0<|Mt.dk 0 (aw (K:=λv c=>K v<|cR (cR c 0) 0) abm rfl<|.an (.ls .nil<|au ag0) ag0 λA=>.for (Wi.lst<|.ca (.two (.at (.lo ag0) (.fx v1) ag0)<|.lo ag0) (aeq h h0 h1 λB X g=>g B _ ag0 (.ix 0 ag0)<|.f1 (cL w i (w.E'.filter<|e7 i) vi A B cs) (λ_ _ _=>.lst<|.ix 0 ag0) (λ_ _=>ag0) (λk v x K' hk _ n=>aex h hv (λe he=>h.ow.pm.mem_iff.mp (gG.mp he).1) (h.ow.mS _) hk n) (λx _=> ?_) none trivial ag0 rfl)));have nd4:=tB (w:=w) (i:=i) CR (E:=w.E'.filter<|e7 i) (((h.ow.pm.filter<|e7 i).map Ent.n).nodup_iff.mpr<|(EY.map _).nodup h.ow.nd);have l10:=ae (tC (w:=w) (i:=i) (w.E'.filter<|e7 i))<|pi 2 (h.ow.mS<|e7 i);have sb:=tj (rev:=false) (g:=fD) (kv:=fD) (ky:=k4) (λ_ _=>ag0) nd4 (tm (n:=(1,4)) λ_ _=>ag0) (bx l10<|by decide);rw [LN (L:=w.E.flatMap<|ents w i) (tB CR h.ow.nd) (by rw [<- Mv (E:=w.E)];exact (h.ow.pm.filter _).flatMap_right _),aet h.ow.nd] at sb;have sl:(lJ w i).length<=lim:=dL (ae (aF e6.length_eq)<|ae (tC w.E) (ae (pi 2 h.ow.le)<|by decide));refine .ret (.tok (.cm2 (xs:=lJ w i) (g1:=λx=>.tup [.int x.1,.int x.2.1,.int 0,.int x.2.2.1]) (g2:=λx=>x.2.2.2) (f:=qC) (.srt (.lo ag0) (.ix (t:=[]) 1 ?_) sb<|ae (aF<|aG _) sl) sl ag0 rfl λcs a _=>.tp (.two (.lo ag0) (.tp .nil<|bq _))<|au ag0)) k;show ([(A,O.list<|iF fD (PE (ents w i)<|DN (iF _ _).length (w.E'.filter<|e7 i)))]:Ch)=_;rw [aG,kH]
end
variable{i bl:Nat}{x y:Int}{dd:Int->Nat}
def fZ(dd:Int->Nat)(e:Ent):V:=.tup [.int e.n,.int e.b,.int e.e,.int e.pr,.ref<|dd e.n]
structure LW(F:Ch)(w:Wd)(rl bl:Nat)(dd:Int->Nat)(bd:Nat->Nat):Prop where
 xr:(rl,O.list (w.E.map (fZ dd)))∈F
 rd:∀e∈w.E,∃kvs,(dd e.n,O.dict kvs)∈F/\∀m,0<=m->m<=4->(dJ m kvs).getD .none=e.tl m
 bw:(bl,O.list ((aT w.sz.toNat).map λi=>.ref (bd i)))∈F
 br:∀i:Nat,(i:Int)<w.sz->∃kvs,(bd i,O.dict kvs)∈F/\∀m,0<=m->m<=2->(dJ m kvs).getD .none=fY w i m
def e8(w:Wd)(i m:Int):List V:=(dP w i m).filter λv=> !bv v
section
variable{rl:Nat}{bd:Nat->Nat}
theorem aez(e:h[A]? = some (.dict kvs)):aQ Mine.G .fN [.ref A,.int z] h Q=Q ((dJ z kvs).getD .none) h:=
 dK (bO (f:=λo=>(pO o).bind λkvs=>some ((dJ z kvs).getD V.none,h)) e)
theorem Ev.dg(x:Ev d F cs l e (.ref A))(m:Fact F cs A (.dict kvs))(y:Ev d F cs l a (.int z))(q:(dJ z kvs).getD .none=v):Ev d F cs l (.lm .fN e<|el [a]) v:=λK k=>.lm x m ag0 (.one y) (.pr k λR H s Q q'=>(aez<|m R H s).mpr<|q▸q')
theorem En.rvn(x:En d F cs l e us)(q:us.length<=lim):En d F cs l (Pl.pr .rev [e]) us.reverse:=λK k=>.pw<|.ef (x _ λA=>Mt.dk 1<|.mk k λR H s Q q'=>(LI (Fact.ix 0 ag0 R H s) q).mpr q')
theorem En.srf{α:Type}{L:List α}{g kv:α->V}(x:En d F cs l e (L.map g))(q:sortBy rev (L.map kv) (L.map g)=some out)(hl:out.length<=lim)(st:∀cs a,Co d F f [g a] cs (kv a) cs):En d F cs l (.pL e f rev) out:=λK k=>
 Mt.bind (f:=λv Q H=>oP (je H v) λvs=>hU (λx h2 K=>acl d f [x] h2 K) (gq rev vs Q) vs [] H) (x _ λA=>Mt.dk 1 λR H Q s q'=>by exact oP.i (agX wC<|Fact.ix (o:=.list<|L.map g) 0 ag0 R H s)<|xg (call:=λx h3 K=>acl d f [x] h3 K) (g:=g) (kv:=kv) (K:=λks c'=>ks=L.map kv/\c'= [(A,O.list<|L.map g)]::cs) (acc:=[]) L (λa m K k=>st _ a K k) ⟨ag0,ag0⟩ R H (gq rev (L.map g) Q) s λks c' H' h s'=>h.1▸Cz q hl (q' _ ([(H'.length,O.list out)]:: [(A,O.list<|L.map g)]::cs) _ (k H'.length) (h.2▸s').new)) λ_ _ h=>h
theorem Ev.chl(h:Ev d F cs l a (.int x))(g:Ev d F cs l b (.int y))(k:Ev d F cs l c (.int z)):Ev d F cs l (.chain a .le b .lt c) (.bool<|decide (x<=y)&&decide (y<z)):=by
 cases q:decide (x<=y) with
 |false=>exact .qq h g<|agX some q
 |true=>exact .j9 h g (agX some q) k ag0
theorem aeD{cd:V->V}(h:VN F cd m v):gn v .none=some (bv v):=by
 cases h with
 |t _ _ _ x=>obtain ⟨a,c,cs,e1,-⟩:=x;rw [e1];rfl
 |_=>rfl
theorem aeE(cs:List Ch)(e:Ent):Co (d+1) F 98 [fZ dd e] cs (V.tup [.int e.pr,.int 0,.int e.b,.int<|0-e.e,.int e.n]) cs:=λK k=>
 aw g98 ag0 (.ret (.tp (.cons (.bT (.lo ag0) .k (by decide) ag0) (.cons .k<|.cons (.bT (.lo ag0) .k (by decide) ag0) (.two (.sub .k<|.bT (.lo ag0) .k (by decide) ag0)<|.bT (.lo ag0) .k (by decide) ag0)))<|au ag0) k)
theorem aeF(h:VW F w)(g:LW F w rl bl dd bd):En (d+1) F cs [some (.ref rl),some<|.ref bl,some<|.int i,some<|.int m,none,none,none,none] (Pl.pr .rev [.pL (.comp [6] (.seq<|lo 0) (el [.chain (Pl.pr .item [lo 6,ci 1]) .le (lo 2) .lt (Pl.pr .item [lo 6,ci 2])])<|lo 6) 98 false]) ((dO w.E i).map<|fZ dd):=by
 have nd:((w.E.filter (dN i)).map mR).Nodup:=LR ((EY.map _).nodup h.ow.nd);have fl:(w.E.filter (dN i)).length<=5:=ae (kJ _ _) h.ow.le;have sb:=tj (rev:=false) (g:=fZ dd) (kv:=λe=>V.tup [.int e.pr,.int 0,.int e.b,.int (0-e.e),.int e.n]) (ky:=mR) (λ_ _=>rfl) nd (tm (n:=(2,5)) λ_ _=>rfl) (bx fl (by decide));have sl:((dM false mR (w.E.filter (dN i))).map (fZ dd)).length<=lim:=dL (ae (aF ((aG _).trans e6.length_eq)) (ae fl (by decide)));unfold dO;rw [<- adO nd,Pi];refine .rvn (.srf ((oy (g:=fZ dd))▸ .comp (xs:=w.E) (g:=fZ dd) (r:=λe=>bif dN i e then some (fZ dd e) else none) (.lst (.lo rfl) (.fx g.xr)) (λ_=>.lst (.fx g.xr)) (dL (ae h.ow.le (by decide))) rfl λe _ X y nn=> ?_) sb sl aeE) sl;have t:Ev (d+1) F cs [some (.ref rl),some (.ref bl),some (.int i),some (.int m),none,none,some (fZ dd e),none] (.chain (Pl.pr .item [lo 6,ci 1]) .le (lo 2) .lt (Pl.pr .item [lo 6,ci 2])) (.bool (dN i e)):=.chl (.bT (.lo rfl) .k (by decide) rfl) (.lo rfl) (.bT (.lo rfl) .k (by decide) rfl);cases q:dN i e with
 |false=>exact nn (agX (λb=>bif b then some (fZ dd e) else none) q) (.one<|q▸t)
 |true=>exact y _ (agX (λb=>bif b then some (fZ dd e) else none) q) (.one<|q▸t)<|.lo ag0
theorem CU(h:VW F w)(g:LW F w rl bl dd bd)(hi:(i:Int)<w.sz)(m0:0<=m)(m2:m<=2)(k:∀q,KV (.ref q) ([(q,.list<|e8 w i m)]::cs)):Cl (d+2) F KV cs 99 [.ref rl,.ref bl,.int i,.int m]:=by
 obtain ⟨kvs,k1,k2⟩:=g.br i hi;have s20:i<=20:=cz.mp (aL (bZ hi) h.s1);have ol:(dO w.E i).length<=5:=xh h;have e5:∀A:Nat,[(A,O.list ((dO w.E i).map (λe=>e.tl m)++ [fY w i m]))]= [(A,O.list ((dP w i m).map λv=>v))]:=λA=>agX (λx=>[(A,O.list x)]) (PH _).symm;refine Mt.dk 1 (Mt.dk 1 (aw (K:=λv c=>KV v (cR (cR c 1) 1)) g99 rfl (.an (aeF h g) rfl λA4=>.an (.ad (.tz (xs:=dO w.E i) (g:=fZ dd) (f:=λe=>e.tl m) (.lst (.lo rfl) (.ix 0 rfl)) (λ_=>.lst (.ix 0 rfl)) (dL (ae ol (by decide))) rfl λe he X y=> ?_) (λc=>.ls (.one (.dg (.fB (.lo rfl) (.lo rfl) (.fx g.bw) (lB (ae s20 (by decide))) (lF ?_)) (.fx k1) (.lo rfl) (k2 m m0 m2))) (au rfl)) (dL (ae (lG (ae (aF (aG _)) ol) (cf 1)) (by decide)))) rfl λA5=>.rn (.comp (xs:=dP w i m) (g:=λv=>v) (r:=λv=>bif !bv v then some v else none) (.lst (.lo rfl) (.ix (t:=[]) 0 (e5 A5))) (λ_=>.lst (.ix (t:=[]) 0 (e5 A5))) (dL (ae (lG (ae (aF (aG _)) ol) (cf 1)) (by decide))) rfl λv hv X y nn=> ?_) λq=> ?_)))
 ·obtain ⟨kvs,j1,j2⟩:=g.rd e (tw he).1;exact y .nil (.dg (.bT (.lo rfl) .k (by decide) rfl) (.fx j1) (.lo rfl) (j2 m m0 (aL m2 (by decide))))
 ·rw [fb,mV ((yZ).mpr hi)];rfl
 ·have e0:(gn v .none).map not=some (!bv v):=agX (dq not) (aeD (CQ h (c6 i) hi m0 m2 v hv));cases q:bv v with
  |true=>rw [q] at e0;exact nn (agX (λb=>bif !b then some v else none) q) (.one<|.aV (.lo ag0) .k e0)
  |false=>rw [q] at e0;exact y v (agX (λb=>bif !b then some v else none) q) (.one<|.aV (.lo ag0) .k e0)<|.lo ag0
 ·rw [oy,PH];exact k q
end
variable{t:Bool}{ks:List Int}
section
variable{rl:Nat}{bd:Nat->Nat}
theorem aeG(hv:PV v)(ne:v≠ .none)(k:∀q,KV (.ref q) ([(q,.list<|(nums v).map V.int)]::cs)):Cl (d+1) F KV cs 100 [v]:=by
 cases hv with
 |n=>exact absurd ag0 ne
 |s n=>exact aw JF rfl<|.rw (.eg (.cv (.bT (.lo ag0) .k (by decide) ag0) .k λ_ _ _=>ag0)<|.ls (.one<|.bT (.lo ag0) .k (by decide) ag0) (au ag0) k)
 |l=>exact aw JF rfl<|.rw (.dp (.cv (.bT (.lo ag0) .k (by decide) ag0) .k λ_ _ _=>ag0)<|En.tz (xs:=[21,22]) (g:=sy) (f:=λ(n:Nat)=>.int n) (.tup (.L3 (.lo ag0)<|au ag0)) (λ_=>.tup) (au ag0) ag0 (λn _ X y=>y .nil<|.bT (.lo ag0) .k (by decide) ag0) _ k)
theorem CV(h:v∈e8 w i m):v∈dP w i m/\v≠ .none:=⟨(gG.mp h).1,λq=>by rw [q] at h;exact nomatch (gG.mp h).2⟩
def Mz(w:Wd)(i:Nat)(rl bl A B:Nat)(D:List Ch):Lf:=⟨Option V,λ_ x=>[some (.ref rl),some<|.ref bl,some<|.int i,some<|.ref A,x,none,none],λk _=>[(B,.list<|e8 w i 0)]:: [(A,.list<|(((e8 w i 0).take k).flatMap nums).map V.int)]::D,λk _=>(((e8 w i 0).take k).flatMap nums).length<=2*k⟩
theorem aeH(h:VW F w)(h1:(i:Int)<w.sz)(hv:(e8 w i 0)[k]? = some v)(o:(((e8 w i 0).take k).flatMap nums).length<=2*k)(n:Nf (Mz w i rl bl A B cs) K' (k+1)):
 W (d+1) F (kb K K') ([(B,.list<|e8 w i 0)]:: [(A,.list<|(((e8 w i 0).take k).flatMap nums).map V.int)]::cs) [some (.ref rl),some<|.ref bl,some<|.int i,some<|.ref A,some v,none,none] [.expr (.lm .extend (lo 3)<|el [ca 100 [lo 4]])]:=by
 obtain ⟨mv,nv⟩:=CV (cG hv);have pv:=Mb h (c6 i) h1 v mv;have nl:=L9 pv;have n:=n (some v);have k6:k<=6:=cV (bC (fF.mp hv).1 (ae (kJ _ _) (Mc h)));have n:(((e8 w i 0).take (k+1)).flatMap nums).length<=2*(k+1)->K' _ ([(B,.list (e8 w i 0))]:: [(A,.list ((((e8 w i 0).take (k+1)).flatMap nums).map V.int))]::cs):=n;rw [take_snoc hv,yY,rC,E2,bc,bK,aX] at n;refine .xp (.CN (.lo rfl) (.ix 1 rfl) (.ca (.one (.lo rfl)) (aeG pv nv λq X g=>g q 1 rfl rfl rfl ?_ ⟨rfl,.nil (n (jK o nl))⟩)));rw [aG,aG];exact ae (jK (ae o (pi 2 k6)) nl) (au rfl)
theorem MA(h:VW F w)(g:LW F w rl bl dd bd)(h1:(i:Int)<w.sz):Co (d+3) F 101 [.ref rl,.ref bl,.int i] cs (.tup<|(mT w i).map V.int) cs:=λK k=>by refine Mt.dk 0<|Mt.dk 0 (aw (K:=λv c=>K v<|cR (cR c 0) 0) aaT rfl<|.an (.ls .nil<|au ag0) ag0 λA=>.for (Wi.lst<|.ca (.cons (.lo ag0) (.cons (.lo ag0)<|.two (.lo ag0) .k)) (CU (m:=0) h g h1 (eU 0) (by decide) λB X y=>y B _ ag0 (.ix 0 ag0)<|.f1 (Mz w i rl bl A B cs) (λ_ _ _=>.lst<|.ix 0 ag0) (λ_ _=>ag0) (λk v x K' hv o n=>aeH h h1 hv o n) (λx _=>.ret (.L8 (.lo ag0)<|.ix 1 ag0) ?_) none (bq _) ag0 rfl)));show K (.tup<|(((e8 w i 0).take (e8 w i 0).length).flatMap nums).map V.int) cs;rw [kH];exact k
theorem aeI{q':Nat}(h1:H[q]? = some (.list us))(h2:H[q']? = some (.list [])):bR H .eq (.ref q) (.ref q')=some us.isEmpty:=by
 show (H[q]?.bind λo=>H[q']?.bind λo'=>nJ _ q q' o o')=_;rw [h1,h2];cases us with
 |nil=>rfl
 |cons a r=>rfl
theorem Ev.MB(x:Ev d F cs l a (.ref A))(m:Fact F cs A (.list us))(e:us.isEmpty=t):Ev d F cs l (Pl.cm .eq a<|Pl.pr .list []) (.bool t):=λK k=>.p2 (x _<|.ls .nil (bq _) λB=>Mt.dk 0 (.pr k λR H s Q q'=>by show wr (bR H .eq _ _) H Q;rw [aeI (m.wk R H s) (Fact.ix 0 ag0 R H s),e];exact q'))
theorem CW:∀{l:List V},iu l=(l.filter λv=> !bv v).headD .none
 | []=>rfl
 |v::l=>match q:bv v with
  |true=>(agX (λb=>bif b then iu l else v) q).trans (CW.trans (agX (λx=>PJ x V.none) (qL (p:=λv=> !bv v) (λc=>nomatch (agX not q).symm.trans c)).symm))
  |false=>(agX (λb=>bif b then iu l else v) q).trans<|agX (λx=>PJ x V.none) (uw (p:=λv=> !bv v)<|agX not q).symm
theorem aeJ(q:ks.length=us.length/\ks.Nodup/\ks.length<=10):aQ Mine.G (.dict ks) us H Q=Q (.ref H.length) (H++ [.dict (ks.zip us)]):=by show wp (if ks.length=us.length/\ks.Nodup/\ks.length<=10 then some (.ref H.length,H++ [.dict (ks.zip us)]) else none) Q=_;rw [if_pos q];rfl
theorem We.dict(xs:cI d F cs l es us)(q:ks.length=us.length/\ks.Nodup/\ks.length<=10)(k:∀a,KV (.ref a) ([(a,.dict<|ks.zip us)]::cs)):We d F KV cs l (Pl.pr (.dict ks) es):=.pr xs λR H Q s q'=>(aeJ q).mpr<|q' _ _ _ (k H.length) s.new
theorem aeK(h:VW F w)(g:LW F w rl bl dd bd)(h1:(i:Int)<w.sz):Co (d+3) F 102 [.ref rl,.ref bl,.int i,.bool all] cs (.int<|tA w all i) cs:=λK k=>by
 refine Mt.dk 0 (aw (K:=λv c=>K v (cR c 0)) aaU rfl (.bS (.ca (.cons (.lo rfl) (.cons (.lo rfl) (.two (.lo rfl) .k))) (CU (m:=1) h g h1 (by decide) (by decide) λA=> ?_)) rfl));have hm:∀v∈e8 w i 1,∃n:Nat,n∈ [30,31,32]/\v=sy n:=λv hv=>((CQ h (c6 i) h1 (m:=1) (by decide) (by decide) v (CV hv).1).one rfl).resolve_left (CV hv).2;have e0:aI w i 1=(e8 w i 1).headD .none:=CW;unfold tA at k;rw [e0] at k;cases c:e8 w i 1 with
 |nil=>rw [c] at k;exact .it (.MB (.lo ag0) (.ix 0 ag0) ag0)<|.ret .k k
 |cons v r=>
  rw [c] at k hm;obtain ⟨n,hn,e⟩:=hm v (.head _);subst e;refine .el (.MB (.lo rfl) (.ix 0 rfl) rfl) ?_;cases all with
  |true=>exact .ret (.dp (.lo ag0) .k) k
  |false=>
   refine .rw (.eg (.lo rfl) (.p2 (.dict (.cons .k (.two .k .k)) (by decide) λD=>.ev (v:=.int n) (.bT (.fB (us:=sy n::r) (.lo rfl) .k (.ix 1 rfl) (by decide) rfl) .k (by decide) rfl) (Mt.dk 0 (.pr (x:=V.int (xj n)) k λR H s Q q'=>(LJ (Fact.ix 0 rfl R H s) ?_).mpr q')))));rcases aO.mp hn with e|hn
   ·subst e;rfl
   ·rcases aO.mp hn with e|hn
    ·subst e;rfl
    ·rw [cr.mp hn];rfl
end
section
variable{rl:Nat}{bd:Nat->Nat}
theorem En.ca(xs:cI d F cs l es vs)(c:∀K:VK,(∀q,K (.ref q) ([(q,.list us)]::cs))->Cl d F K cs f vs):En d F cs l (Pl.ca f es) us:=λK k=>.ca xs<|c K k
theorem Ev.iP(x:En d F cs l e us)(s:small z)(q:fP us z=some v):Ev d F cs l (Pl.pr .item [e,.cst<|.int z]) v:=λK k=>.p2<|x _ λA=>.ev .k (Mt.dk 0<|.pr k λR H s' Q q'=>(BI (Fact.ix 0 ag0 R H s') s q).mpr q')
theorem aeL:∀l:List V,fP (l++ [.none]) 0=some (l.headD .none)
 | []=>rfl
 |_::_=>rfl
def gS(w:Wd):List V:=(aT w.sz.toNat).map λ(j:Nat)=>aI w j 2
theorem aeM(h:VW F w)(h1:(i:Int)<w.sz):fP (gS w) i=some (aI w i 2):=lF (by unfold gS;rw [fb,mV<|(yZ).mpr h1];rfl)
theorem aeN(h:VW F w):((w.sz.toNat:Nat):Int)=w.sz:=uz<|bZ h.s0
theorem aeO(h:VW F w)(h1:(i:Int)<w.sz):small (i:Int):=lB (ae (cz.mp<|aL (bZ h1) h.s1)<|by decide)
theorem Ev.vo(h:VW F w)(h1:(i:Int)<w.sz)(x:Ev d F cs l a (.ref A))(m:Fact F cs A (.list<|gS w))(y:Ev d F cs l b (.int i)):Ev d F cs l (Pl.pr .item [a,b]) (aI w i 2):=.fB x y m (aeO h h1)<|aeM h h1
theorem aeP(h:VW F w):((gS w).length:Int)=w.sz:=(agX (yU:Nat->Int)<|(aG _).trans c5).trans<|aeN h
theorem aeQ(h:VW F w)(g:LW F w rl bl dd bd):En (d+3) F cs [some (.ref rl),some<|.ref bl,some<|.int i,none,none,none,none] (.comp [5] (.aN<|Pl.pr .len [lo 1]) (el [])<|Pl.pr .item [Pl.pr .add [Pl.ca 99 [lo 0,lo 1,lo 5,ci 2],Pl.pr .list [cN]],ci 0]) (gS w):=by
 have s20:w.sz.toNat<=20:=nj.mpr h.s1;have sl:w.sz.toNat<=lim:=dL (ae s20<|by decide);refine .tz (xs:=aT w.sz.toNat) (g:=λ(j:Nat)=>.int<|0+(j:Int)) (.aN (.ie (.len (.lo ag0)<|.fx g.bw) (agX yU<|(aG _).trans c5)) sl) (λ_=>.aN) (ae (aF c5) sl) ag0 λj hj X y=>y .nil<|.iP (us:=e8 w j 2++ [.none]) (.ad (.ca (.cons (.lo ag0) (.cons (.lo ag0)<|.two (.ie (.lo ag0)<|dR _) .k)) λK k=>CU (m:=2) h g ?_ (by decide) (by decide) k) (λc=>.ls (.one .k)<|au ag0) (dL<|ae (lG (ae (kJ _ _) ?_)<|cf 1) (by decide:5+1+1<=1000))) (by decide) ?_
 ·exact (yZ).mp<|iB.mp hj
 ·exact lG (ae (aF<|aG _)<|xh h)<|cf 1
 ·exact (aeL _).trans<|agX some (CW (l:=dP w j 2)).symm
def shP(w:Wd)(i rl bl A:Nat)(D:List Ch):Lp:=⟨Nat,λb=>[some (.ref rl),some<|.ref bl,some<|.int i,some<|.ref A,some<|.int b,none,none],λ_=>[(A,.list<|gS w)]::D,λb=>i<=b/\(b:Int)<=w.sz/\∀j:Nat,i<=j->j<b->aI w j 2=aI w i 2,λb=>w.sz.toNat-b⟩
theorem aeS(h:VW F w)(g:LW F w rl bl dd bd)(h1:(i:Int)<w.sz)(k1:aI w i 2= .none->KV .none cs)(k2:aI w i 2≠ .none->0<(i:Int)->aI w ((i:Int)-1) 2=aI w i 2->∀q,KV (.tup [.ref q,.tup [],.int<|(i:Int)+2]) ([(q,.list [])]::cs))(k3:aI w i 2≠ .none->¬(0<(i:Int)/\aI w ((i:Int)-1) 2=aI w i 2)->∀z:Nat,i<z->(z:Int)<=w.sz->(∀j:Nat,i<=j->j<z->aI w j 2=aI w i 2)->((z:Int)=w.sz\/aI w z 2≠aI w i 2)->KV (.tup [w.cd (aI w i 2),.tup<|(mT w i).map V.int,.int<|z+1]) cs):
 Cl (d+4) F KV cs 103 [.ref rl,.ref bl,.int i]:=by
 have vp:=λ(j:Nat) (hj:(j:Int)<w.sz)=>qw (m:=2) h (c6 j) hj (by decide) (by decide);refine aw aaV rfl (.an (aeQ h g) rfl λA=> ?_);rcases (xl (m:=2) h (c6 i) h1 (by decide) (by decide)).two (by decide) with e|⟨a,c,cs',e1,e2,e3,-⟩
 ·exact .it (.is (.vo h h1 (.lo ag0) (.ix 0 ag0)<|.lo ag0) .k<|(agX (gn · .none) e).trans ag0) (.rw<|Mt.dk 0 (We.ev .k<|k1 e))
 ·have ne:aI w i 2≠ .none:=λq=>nomatch e1.symm.trans q;refine .el (.is (.vo h h1 (.lo ag0) (.ix 0 ag0)<|.lo ag0) .k<|(agX (gn · .none) e1).trans ag0) ?_
  have rest:¬(0<(i:Int)/\aI w ((i:Int)-1) 2=aI w i 2)->W (d+3) F (fK KV) ([(A,.list<|gS w)]::cs) [some (.ref rl),some<|.ref bl,some<|.int i,some<|.ref A,none,none,none] [ak 4 (lo 2),.while (.and (cm .lt (lo 4)<|Pl.pr .len [lo 3]) (cm .eq (Pl.pr .item [lo 3,lo 4])<|Pl.pr .item [lo 3,lo 2]))<|sl [ak 4 (Pl.pr .add [lo 4,ci 1])],.ret<|Pl.pr .tup [at_ 39 (Pl.pr .item [lo 3,lo 2]),Pl.ca 101 [lo 0,lo 1,lo 2],Pl.pr .add [lo 4,ci 1]]]:=λhc=>.as (.lo ag0) ag0 (.wg (shP w i rl bl A cs) (λ(b:Nat) K' o n=>by
   obtain ⟨b1,b2,b3⟩:=o
   have fin:i<b->((b:Int)=w.sz\/aI w b 2≠aI w i 2)->W (d+3) F (fK KV) ([(A,.list<|gS w)]::cs) [some (.ref rl),some<|.ref bl,some<|.int i,some<|.ref A,some<|.int b,none,none] [.ret (Pl.pr .tup [at_ 39 (Pl.pr .item [lo 3,lo 2]),Pl.ca 101 [lo 0,lo 1,lo 2],Pl.pr .add [lo 4,ci 1]])]:=λb4 b5=>
    .rw (Mt.dk 0 (We.ev (.tp (.cons (.at (e1▸ .vo h h1 (.lo ag0) (.ix 0 ag0) (.lo ag0)) (.fx e3)<|agX some e2.symm) (.two (.ca (.cons (.lo ag0) (.two (.lo ag0)<|.lo ag0))<|MA h g h1)<|.add (.lo ag0) .k))<|au ag0)<|k3 ne hc b b4 b2 b3 b5))
   have ln:Ev (d+3) F ([(A,.list (gS w))]::cs) [some (.ref rl),some (.ref bl),some (.int i),some (.ref A),some (.int b),none,none] (Pl.pr .len [lo 3]) (.int w.sz):=.ie (.len (.lo rfl) (.ix 0 rfl)) (aeP h);cases q:decide ((b:Int)<w.sz) with
   |false=>have e:(b:Int)=w.sz:=ph b2 (cH.mp<|of_decide_eq_false q);exact .off (.ew (.cm (.lo ag0) ln<|agX some q)) (fin (dh.mp<|e▸h1)<|.inl e)
   |true=>
    have hb:=agY q;refine B6 (cs:=[(A,.list (gS w))]::cs) VW.rd (vp b hb) (vp i h1) λr e jj=> ?_;have t:Ev (d+3) F ([(A,.list (gS w))]::cs) [some (.ref rl),some (.ref bl),some (.int i),some (.ref A),some (.int b),none,none] (.and (cm .lt (lo 4) (Pl.pr .len [lo 3])) (cm .eq (Pl.pr .item [lo 3,lo 4]) (Pl.pr .item [lo 3,lo 2]))) (.bool r):=.cS (.cm (.lo rfl) ln (agX some q)) (.cv (.vo h hb (.lo rfl) (.ix 0 rfl) (.lo rfl)) (.vo h h1 (.lo rfl) (.ix 0 rfl) (.lo rfl)) e);cases r with
    |true=>exact .on t<|.as (.add (.lo ag0) .k) ag0 (.nil<|n (b+1:Nat) (Nat.sub_succ_lt_self _ _<|(yZ).mpr hb) ⟨kD b1,hb,λj j1 j2=>(Of<|o8 j2).elim (b3 j j1) λc=>c▸jj.mp ag0⟩)
    |false=>have ne2:aI w b 2≠aI w i 2:=λc=>nomatch jj.mpr c;exact .off t (fin (Eh b1 λc=>ne2<|c▸rfl)<|.inr ne2)) i ⟨cf _,bZ h1,λj a b=>absurd a<|Nat.not_le.mpr b⟩ ag0 rfl)
  cases i with
  |zero=>exact .el (.ew<|.cm (.lo ag0) .k ag0) (rest λc=>absurd c.1<|ny 0)
  |succ i=>
   have p:((i+1:Nat):Int)-1=i:=gm (i:Int) 1;have hi:(i:Int)<w.sz:=gY (za (i:Int)) h1;have gt:Ev (d+3) F ([(A,.list (gS w))]::cs) [some (.ref rl),some (.ref bl),some (.int (i+1:Nat)),some (.ref A),none,none,none] (cm .gt (lo 2) (ci 0)) (.bool true):=.cm (.lo rfl) .k (agX some (agZ (gg (by decide:(0:Int)<1) (EO (c6 i)))));refine B6 (cs:=[(A,.list (gS w))]::cs) VW.rd (vp i hi) (vp (i+1) h1) λr e j=> ?_;have t:Ev (d+3) F ([(A,.list (gS w))]::cs) [some (.ref rl),some (.ref bl),some (.int (i+1:Nat)),some (.ref A),none,none,none] (.and (cm .gt (lo 2) (ci 0)) (cm .eq (Pl.pr .item [lo 3,Pl.pr .sub [lo 2,ci 1]]) (Pl.pr .item [lo 3,lo 2]))) (.bool r):=.cS gt (.cv (.vo h hi (.lo rfl) (.ix 0 rfl) (.ie (.sub (.lo rfl) .k) p)) (.vo h h1 (.lo rfl) (.ix 0 rfl) (.lo rfl)) e);rw [p] at k2 rest;cases r with
   |true=>exact .it t<|.rw (.pw<|.cx (.ls .nil (bq _) λq=>Mt.drop 1<|d9.co (.tp .nil<|bq _) (.co (.add (.lo ag0) .k)<|.nil (.tp (au ag0)<|k2 ne (gg (by decide:(0:Int)<1) (EO<|c6 i)) (j.mp ag0) q))))
   |false=>exact .el t (rest λc=>nomatch j.mpr c.2)
end
variable{L:List SE}{en:Ent}{l3 l4:Option V}{R:Ch}{b':Int}{j:Nat}
def dQ(T:Ch):Prop:=T= [(1,.tab none)]\/∃i,T= [(1,.tab<|some i),(i,.aux)]
noncomputable def iw(x:SE):V:=.tup [.int x.1,.int x.2.1,.int x.2.2.1,x.2.2.2]
section
variable{i:Int}{a b c e body:E}{rl:Nat}{T c0:Ch}{bd:Nat->Nat}{l6:Option V}
theorem aeT(t:dQ T)(s:Hs F R (c0::T::cs) H)(g:∀T' H',dQ T'->rT H=some H'->Hs F R (c0::T'::cs) H'->X):X:=by
 rcases t with rfl|⟨i,rfl⟩
 ·refine g [(1,.tab<|some H.length),(H.length,.aux)] (H.set 1 (.tab<|some H.length)++ [.aux]) (.inr ⟨_,ag0⟩) ?_ ?_
  ·exact (agX (λo:Option O=>o.bind λo=>(vf o).bind<|tabS H)<|Fact.ix (F:=F) (cs:=c0:: [(1,.tab none)]::cs) 1 ag0 R H s)
  ·have s1:=(Hs.wr (o':=.tab<|some H.length) (i:=1) s ag0).new (o:=.aux);rw [tR] at s1;exact s1.perm (((eW _ _ _).trans<|(List.Perm.swap _ _ _).append_left c0).trans<|.refl _)
 ·refine g _ H (.inr ⟨i,ag0⟩) ?_ s;refine (agX (λo:Option O=>o.bind λo=>(vf o).bind<|tabS H)<|Fact.ix (F:=F) (cs:=c0:: [(1,.tab<|some i),(i,.aux)]::cs) 1 ag0 R H s).trans ?_;have e:H[i]? = some .aux:=Fact.cx (F:=F) (cs:=c0:: [(1,.tab<|some i),(i,.aux)]::cs) (bp _ (.tail _<|.head _)) R H s;exact agX (λo:Option O=>o.bind λo=>bif z6 o then some H else none) e
theorem We.srl{α:Type}{L:List α}{g kv:α->V}(x:Ev d F ([(A,.list<|L.map g)]::T::cs) l e (.ref A))(t:dQ T)(q:sortBy false (L.map kv) (L.map g)=some out)(hl:out.length<=lim)(st:∀cs a,Ev d F cs [some (g a)] body<|kv a)(k:∀T',dQ T'->∀r,KV (.ref r) ([(r,.list out)]:: [(A,.list<|L.map g)]::T'::cs)):We d F KV ([(A,.list<|L.map g)]::T::cs) l (.pM e body):=
 Mt.bind (f:=λv (Q:V->Hp->Prop) H=>oP (je H v) λvs=>oP (rT H) λh2=>hU (λx h3 K=>aH Mine.G (acl d) body [some x] h3 K) (gq false vs Q) vs [] h2) (x (λv c=>v= .ref A/\c= [(A,.list<|L.map g)]::T::cs) ⟨ag0,ag0⟩) λv c h=>by rw [h.1,h.2];intro R H Q s q';refine aeT t s λT' H' t' e s1=> ?_;exact oP.i (agX wC<|Fact.ix (o:=.list<|L.map g) 0 ag0 R H s)<|oP.i e<|xg (call:=λx h3 K=>aH Mine.G (acl d) body [some x] h3 K) (g:=g) (kv:=kv) (K:=λks c'=>ks=L.map kv/\c'= [(A,O.list<|L.map g)]::T'::cs) (acc:=[]) L (λa m K k=>st _ a K k) ⟨ag0,ag0⟩ R H' (gq false (L.map g) Q) s1 λks c' H2 h s'=>h.1▸Cz q hl (q' _ ([(H2.length,O.list out)]:: [(A,O.list<|L.map g)]::T'::cs) _ (k T' t' H2.length) (h.2▸s').new)
theorem aeV{a b c e:V}:aQ Mine.G .sliceTo [.tup [a,b,c,e],.int 3] H Q=Q (.tup [a,b,c]) H:=by show wp (if (0:Int)<=3/\(3:Int)< [a,b,c,e].length/\[a,b,c,e].length<=lim then some (.tup<|[a,b,c,e].take (3:Int).toNat,H) else none) Q=_;rw [if_pos ⟨by decide,(by decide:(3:Int)<((4:Nat):Int)),au ag0⟩];rfl
theorem MC(q:bv (en.tl m)):d4 w m o en= []:=agX (λb=>bif b then ([]:List SE) else [(o,bif decide (o=1) then en.pr else -en.pr,en.n,w.cd<|en.tl m)]) q
theorem MD(q:bv (en.tl m)=false):d4 w m o en= [(o,bif decide (o=1) then en.pr else -en.pr,en.n,w.cd<|en.tl m)]:=agX (λb=>bif b then ([]:List SE) else [(o,bif decide (o=1) then en.pr else -en.pr,en.n,w.cd<|en.tl m)]) q
theorem aeW(h:VW F w)(he:en∈w.E)(m3:3<=m)(m4:m<=4)(g:gl l k=some (en.tl m))(k1:bv (en.tl m)->Ev d F cs l (cm .aY (lo k) cN) (.bool false)->X)(k2:bv (en.tl m)=false->Ev d F cs l (cm .aY (lo k) cN) (.bool true)->Ev d F cs l (at_ 39<|lo k) (w.cd<|en.tl m)->X):X:=by
 rcases (h.ty en he m (aL (by decide) m3) m4).two (aL (by decide) m3) with e|⟨a,c,cs',e1,e2,e3,-⟩
 ·exact k1 (agX bv e) (.aV (.lo g) .k<|agX (λv=>(gn v .none).map xQ) e)
 ·exact k2 (agX bv e1) (.aV (.lo g) .k<|agX (λv=>(gn v .none).map xQ) e1) (.at (.lo<|e1▸g) (.fx e3)<|agX some e2.symm)
def CX(n j:Nat)(e1 e2:E):S:=.ite (.and (cm .aY (lo n) cN) (cm .eq (Pl.pr .item [lo 3,ci j])<|lo 1)) (sl [.expr (.lm .append (lo 2)<|el [Pl.pr .tup [e1,e2,Pl.pr .item [lo 3,ci 0],at_ 39<|lo n]])])<|sl []
theorem ME(h:VW F w)(he:en∈w.E)(m3:3<=m)(m4:m<=4)(hl:L.length<100)(g:gl l n=some (en.tl m))(g1:gl l 1=some (.int i))(g2:gl l 2=some (.ref A))(g3:Ev d F ([(A,.list<|L.map iw)]::cs) l (Pl.pr .item [lo 3,ci j]) (.int b'))(g0:Ev d F ([(A,.list<|L.map iw)]::cs) l (Pl.pr .item [lo 3,ci 0]) (.int en.n))(x1:b'=i->Ev d F ([(A,.list<|L.map iw)]::cs) l e1 (.int o))(x2:Ev d F ([(A,.list<|L.map iw)]::cs) l e2 (.int<|bif decide (o=1) then en.pr else -en.pr))(k:W d F K ([(A,.list<|(L++bif decide (b'=i) then d4 w m o en else []).map iw)]::cs) l p):W d F K ([(A,.list<|L.map iw)]::cs) l (CX n j e1 e2::p):=by
 have no:(bif decide (b'=i) then d4 w m o en else [])= []->W d F K ([(A,.list<|L.map iw)]::cs) l p:=λq=>by rw [q,bc] at k;exact k
 refine aeW (k:=n) h he m3 m4 g (λq t=>.el (.ew t)<|no ?_) λq t ta=> ?_
 ·rw [MC q];cases decide (b'=i)<;>rfl
 ·cases c:decide (b'=i) with
  |false=>exact .el (.cS t (.cm g3 (.lo g1)<|agX some c)) (no<|agX (λb=>bif b then d4 w m o en else []) c)
  |true=>rw [c,MD q,bK] at k;refine .it (.cS t (.cm g3 (.lo g1)<|agX some c)) (.xp<|.sT (.lo g2) (.tp (.cons (x1<|agY c) (.cons x2<|.two g0 ta))<|au ag0) 0 ag0 ?_ ⟨ag0,k⟩);rw [aG];exact bC hl<|au ag0
def MF(w:Wd)(i:Int)(rl A:Nat)(D:List Ch):Lf:=⟨Option V×Option V×Option V,λ_ x=>[some (.ref rl),some<|.int i,some<|.ref A,x.1,x.2.1,x.2.2,none,none],λk _=>[(A,.list<|((w.E.take k).flatMap<|ents w i).map iw)]::D,λ_ _=>True⟩
theorem aeX(h:VW F w)(g:LW F w rl bl dd bd)(hv:(w.E.map<|fZ dd)[k]? = some v)(n:Nf (MF w i rl A cs) K' (k+1)):
 W d F (kb K K') ([(A,.list<|((w.E.take k).flatMap<|ents w i).map iw)]::cs) [some (.ref rl),some<|.int i,some<|.ref A,some v,y4,y5,none,none] [.ag (.tup<|tl [.loc 4,.loc 5]) (Pl.pr .tup [.lm .fN (Pl.pr .item [lo 3,ci 4]) (el [ci 3]),.lm .fN (Pl.pr .item [lo 3,ci 4])<|el [ci 4]]),CX 4 1 (ci 1)<|Pl.pr .item [lo 3,ci 3],CX 5 2 (.ite (cm .eq (Pl.pr .item [lo 3,ci 1])<|lo 1) (ci 2)<|ci 0)<|Pl.pr .sub [ci 0,Pl.pr .item [lo 3,ci 3]]]:=kh hv λen he ev=>by
 subst ev;have hE:=cG he;obtain ⟨kvs,j1,j2⟩:=g.rd en hE;have l10:=My (w:=w) (i:=i) (k:=k) h.ow.le;have n:=n (some (fZ dd en),some (en.tl 3),some (en.tl 4)) trivial;have e1:(w.E.take (k+1)).flatMap (ents w i)=((w.E.take k).flatMap (ents w i)++bif decide (en.b=i) then d4 w 3 1 en else [])++bif decide (en.e=i) then d4 w 4 (bif decide (en.b=en.e) then 2 else 0) en else []:=by rw [take_snoc he,yY,rC,E2,bc];exact (aJ _ _ _).symm
 have n:K' _ ([(A,.list<|((w.E.take<|k+1).flatMap<|ents w i).map iw)]::cs):=n;rw [e1] at n;refine .tu (.ev (.tp (.two (.dg (.bT (.lo ag0) .k (by decide) ag0) (.fx j1) .k (j2 3 (by decide)<|by decide))<|.dg (.bT (.lo ag0) .k (by decide) ag0) (.fx j1) .k (j2 4 (by decide)<|by decide))<|au ag0) ?_) ag0 rfl;refine ME (m:=3) (o:=1) (b':=en.b) h hE (by decide) (by decide) (bx l10<|by decide) ag0 rfl ag0 (.bT (.lo ag0) .k (by decide) ag0) (.bT (.lo ag0) .k (by decide) ag0) (λ_=>.k) (.bT (.lo ag0) .k (by decide) ag0) ?_;refine ME (m:=4) (o:=bif decide (en.b=en.e) then 2 else 0) (b':=en.e) h hE (by decide) (by decide) (bx (lG l10<|CT qA)<|by decide) ag0 rfl ag0 (.bT (.lo ag0) .k (by decide) ag0) (.bT (.lo ag0) .k (by decide) ag0) (λq=> ?_) (.ie (.sub .k<|.bT (.lo ag0) .k (by decide) ag0)<|(EQ _).trans ?_)<|.nil n
 ·rw [q];cases c:decide (en.b=i) with
  |true=>exact .dp (.cm (.bT (.lo ag0) .k (by decide) ag0) (.lo ag0)<|agX some c) .k
  |false=>exact .eg (.cm (.bT (.lo ag0) .k (by decide) ag0) (.lo ag0)<|agX some c) .k
 ·cases decide (en.b=en.e)<;>rfl
theorem aeY(h:VW F w)(g:LW F w rl bl dd bd)(t:dQ T)(k:∀T',dQ T'->KV (.tup<|(lJ w i).map qC) (T'::cs)):Cl (d+1) F KV (T::cs) 104 [.ref rl,.int i]:=by have nd3:=tB (w:=w) (i:=i) Ms h.ow.nd;have l10:=ae (tC (w:=w) (i:=i) w.E)<|pi 2 h.ow.le;have sb:=tj (rev:=false) (g:=iw) (kv:=λx=>V.tup [.int x.1,.int x.2.1,.int x.2.2.1]) (ky:=k3) (λ_ _=>ag0) nd3 (tm (n:=(2,3)) λ_ _=>ag0) (bx l10<|by decide);have sl:(lJ w i).length<=lim:=dL<|ae (aF e6.length_eq) (ae l10<|by decide);refine aw aaW rfl<|.an (.ls .nil<|au ag0) ag0 λA=>.f1 (.lst (.lo ag0)<|.fx g.xr) (MF w i rl A (T::cs)) (λ_ _ _=>.lst<|.fx g.xr) (λ_ _=>ag0) (λk v x K' hv _ n=>aeX h g hv n) (λx _=> ?_) (none,none,none) trivial ag0 rfl;show W d F (fK KV) ([(A,O.list<|((w.E.take (w.E.map<|fZ dd).length).flatMap<|ents w i).map iw)]::T::cs) _ _;rw [aG,kH];refine .rw (.pw<|.ef (.comp<|Wi.lst (.srl (.lo ag0) t sb (ae (aF<|aG _) sl) (λcs a=>λK k=>We.pr (.two (.lo ag0) .k)<|.pr k λR H s Q q'=>aeV.mpr q') λT' t' r X y=>y r _ ag0 (.ix 0 ag0)<|.of (xs:=lJ w i) (g:=iw) (r:=λx=>some<|qC x) (λ_=>.lst<|.ix 0 ag0) sl ag0 (λa _ X y _=>y _ ag0 .nil (.tp (.two (.bT (.lo ag0) .k (by decide) ag0) (.tp .nil<|bq _))<|au ag0)) λB=> ?_)));rw [qu];exact Mt.dk 0<|Mt.dk 0 (Mt.dk 0<|.pr (k T' t') λR H s Q q'=>(CP<|Fact.ix 0 ag0 R H s).mpr q')
end
variable{r:List Ch}{a b e:E}{w:V}{t:Ch}{o:O}{is:List Int}
def Wt(d:Nat)(F:Ch)(K:Loc->List Ch->Prop)(cs:List Ch)(l:Loc)(t:Mine.T)(v:V):Prop:=Mt F cs (λ(Q:Loc->Hp->Prop) H=>hV Mine.G (acl d) t v l H Q) K
def qD(d:Nat)(F:Ch)(K:Loc->List Ch->Prop)(cs:List Ch)(l:Loc)(ts:List Mine.T)(vs:List V):Prop:=Mt F cs (λ(Q:Loc->Hp->Prop) H=>jg Mine.G (acl d) (tl ts) vs l H Q) K
inductive bX(P:Nat):Ch->Prop
 |mk (ca:Nat) (l:List Int) (i s:Int):(∀c∈l,0<=c)->0<=i->0<=s->s<=70000->l.length<=100->bX P [(P,.list [.ref ca,.int i,.int s]),(ca,.list (l.map V.int))]
section
variable{KT:Loc->List Ch->Prop}{P:Nat}{tg:Mine.T}{ts:List Mine.T}
theorem W.asg(x:We d F (λv c=>Wt d F (λl c=>W d F K c l p) c l tg v) cs l e):W d F K cs l (.ag tg e::p):=
 .s (Mt.bind (f:=λv Q H=>hV Mine.G (acl d) tg v l H λl' h2=>Q (Fl.next,l') h2) x λv c h R H Q s q=>h R H (λl'=>Q (.next,l')) s λl' c' H' k s'=>q (.next,l') c' H' k s')
theorem Wt.lo(q:aR i l.length)(k:KT (st l i v) cs):Wt d F KT cs l (.loc i) v:=λR H Q s q'=>sQ l i _ q<|q' _ _ _ k s
theorem Wt.at(y:Ev d F cs l e (.ref A))(i:Nat)(m:nt cs i=(A,o)::t)(q:sP o n v=some o')(k:KT l (ups cs i ((A,o')::t))):Wt d F KT cs l (.attr e n) v:=
 Mt.bind (f:=λu Q H=>sO u H n v λh2=>Q l h2) (y (λw c=>w= .ref A/\c=cs) ⟨ag0,ag0⟩) λw c h=>by rw [h.1,h.2];intro R H Q s q';show oP (wE H A H[A]? n v) _;rw [BN (Fact.ix i m R H s) q];exact q' _ _ _ k<|s.wr m
theorem aeZ(e:H[A]? = some (.list vs))(q:0<=z/\z<vs.length):nK H (.ref A) (.int z) v=some (H.set A (.list<|vs.set z.toNat v)):=(bO (f:=zU H A z v) e).trans<|if_pos q
theorem ae0(e:H[A]? = some (.dict kvs))(q:kvs.length<=100/\small z):nK H (.ref A) (.int z) v=some (H.set A (.dict<|fq z v kvs)):=(bO (f:=zU H A z v) e).trans<|if_pos q
theorem Wt.MG(x:Ev d F cs l e1 (.ref A))(y:Ev d F cs l e2 (.int z))(i:Nat)(m:nt cs i=(A,o)::t)(q:∀H:Hp,H[A]? = some o->nK H (.ref A) (.int z) v=some (H.set A o'))(k:KT l (ups cs i ((A,o')::t))):Wt d F KT cs l (.item e1 e2) v:=
 Mt.bind (f:=λu Q H=>aH Mine.G (acl d) e2 l H λk h2=>oP (nK h2 u k v) λh3=>Q l h3) (x (λw c=>w= .ref A/\c=cs) ⟨ag0,ag0⟩) λw c h=>by rw [h.1,h.2];refine Mt.bind (f:=λk Q H=>oP (nK H (.ref A) k v) λh3=>Q l h3) (y (λw c=>w= .int z/\c=cs) ⟨ag0,ag0⟩) λw c h=> ?_;rw [h.1,h.2];intro R H Q s q';rw [q H (Fact.ix i m R H s)];exact q' _ _ _ k<|s.wr m
theorem Wt.il(x:Ev d F cs l e1 (.ref A))(y:Ev d F cs l e2 (.int z))(i:Nat)(m:nt cs i=(A,.list us)::t)(q:0<=z/\z<us.length)(k:KT l (ups cs i ((A,.list<|us.set z.toNat v)::t))):Wt d F KT cs l (.item e1 e2) v:=.MG x y i m (λ_ e=>aeZ e q) k
theorem Wt.id(x:Ev d F cs l e1 (.ref A))(y:Ev d F cs l e2 (.int z))(i:Nat)(m:nt cs i=(A,.dict kvs)::t)(q:kvs.length<=100/\small z)(k:KT l (ups cs i ((A,.dict<|fq z v kvs)::t))):Wt d F KT cs l (.item e1 e2) v:=.MG x y i m (λ_ e=>ae0 e q) k
theorem qD.nil(k:KT l cs):qD d F KT cs l [] []:=.ret k
theorem qD.cons(x:Wt d F (λl c=>qD d F KT c l ts vs) cs l tg v):qD d F KT cs l (tg::ts) (v::vs):=Mt.bind (f:=λl' (Q:Loc->Hp->Prop) H=>jg Mine.G (acl d) (tl ts) vs l' H Q) x λ_ _ h=>h
theorem Wt.tup(q:vs.length=(tl ts).len)(x:qD d F KT cs l ts vs):Wt d F KT cs l (.tup<|tl ts) (.tup vs):=λR H Q s q'=>⟨q,x R H Q s q'⟩
theorem Ev.mod(h:Ev d F cs l a (.int x))(g:Ev d F cs l b (.int y))(s:0<y):Ev d F cs l (Pl.pr .mod [a,b]) (.int<|x % y):=λK k=>We.pr (.two h g)<|.pr k λ_ _ _ _ q=>(abJ s).mpr q
theorem ae1(p:bX P C)(hm:0<m):jr (d+1) F 95 [.ref P,.int m] [C] (λr:Ch×Int=>bX P r.1/\0<=r.2/\r.2<m) (λr=>.int r.2) (λr=>[r.1]):=λK k=>by
 obtain ⟨ca,l,i,s,h3,h4,h5,h6,h7⟩:=p;have m0:m≠0:=DI hm;refine aw g95 rfl (.as (.fB (.lo rfl) .k (.ix 0 rfl) (by decide) rfl) rfl (.asg (.ev (.add (.lo rfl) .k) (.il (.lo rfl) .k 0 rfl ⟨by decide,(by decide:(1:Int)<(3:Nat))⟩ ?_))));have fa:Fact F [[(P,.list [.ref ca,.int (i+1),.int s]),(ca,.list (l.map V.int))]] ca (.list (l.map V.int)):=.cx (.tail _ (.head _));have e0:Ev d F [[(P,.list [.ref ca,.int (i+1),.int s]),(ca,.list (l.map V.int))]] [some (.ref P),some (.int m),some (.int i),none,none] (Pl.pr .item [lo 0,ci 0]) (.ref ca):=.fB (.lo rfl) .k (.ix 0 rfl) (by decide) rfl;have ln:((l.map V.int).length:Int)=l.length:=agX yU (aG _);cases q:decide (i<l.length) with
 |true=>
  have q:=agY q;obtain ⟨j,rfl⟩:=kz h4;have hj:j<l.length:=dh.mp q;have e1:(l.map V.int)[j]? = some (.int l[j]):=by rw [fb,de hj];rfl
  refine .it (.cm (.lo ag0) (.ie (.len e0 fa) ln) (agX some<|agZ q))<|.ret (.mod (.fB e0 (.lo ag0) fa (lB<|ae (cV hj) (ae h7<|by decide))<|lF e1) (.lo ag0) hm) ?_;exact k (_,l[j] % m) ⟨.mk ca l _ s h3 (aL h4 (bZ<|za (j:Int))) h5 h6 h7,zb _ m0,zg _ hm⟩
 |false=>refine .el (.cm (.lo ag0) (.ie (.len e0 fa) ln)<|agX some q) (.asg<|.ev (.mod (.add (.mul (.fB (.lo ag0) .k (.ix 0 ag0) (by decide) ag0) .k ⟨aL (by decide) h5,aL h6<|by decide⟩<|by decide) .k) .k<|by decide) (.il (.lo ag0) .k 0 ag0 ⟨by decide,(by decide:(2:Int)<(3:Nat))⟩<|.ret (.mod (.fB (.lo ag0) .k (.ix 0 ag0) (by decide) ag0) (.lo ag0) hm) ?_));exact k (_,(s*75+74) % 65537 % m) ⟨.mk ca l _ _ h3 (aL h4 (bZ<|za i)) (zb _<|by decide) (aL (bZ<|zg (s*75+74) (by decide:(0:Int)<65537))<|by decide) h7,zb _ m0,zg _ hm⟩
theorem gB(j:Nat)(q:pk cs [j]=C::r)(p:bX P C)(hm:0<m)(k:∀C' x,bX P C'->0<=x->x<m->KV (.int x) (C'::r)):Cl (d+1) F KV cs 95 [.ref P,.int m]:=(ae1 p hm).cl [j] q λx h=>k x.1 x.2 h.1 h.2.1 h.2.2
end
variable{c:E}{t:Nat}{X X':Ch}{ns:List Int}{Y:Prop}
noncomputable def mg:List Ch->List Ch
 |a::b::r=>(a++b)::r
 |c=>c
def VB(X:Ch)(m:Int)(v:V):Prop:=∃cd,VN X cd m v
section
variable{P:Nat}{us:List V}{cd:V->V}{pp:Mine.P}
theorem MH:∀(c:List Ch),c.flatten.Perm (mg c).flatten
 | []=>.refl _
 | [_]=>.refl _
 |a::b::r=>.of_eq (aJ a b r.flatten).symm
section
variable{α:Type}{mm:(α->Hp->Prop)->Hp->Prop}{KA:α->List Ch->Prop}
theorem Mt.mg(x:Mt F cs mm λa c=>KA a<|Wl.mg c):Mt F cs mm KA:=λR H Q s q=>x R H Q s λa c' H' k s'=>q a _ H' k (s'.perm<|MH c')
theorem Mt.kk(is:List Nat)(x:Mt F cs mm λa c=>KA a<|pk c is):Mt F cs mm KA:=λR H Q s q=>x R H Q s λa c' H' k s'=>q a _ H' k (s'.perm<|iR is c')
end
theorem W.mg(k:W d F K (Wl.mg cs) l p):W d F K cs l p:=.pm (MH cs) k
theorem Wp.fB(m:Fact F cs A (.list us))(s:small z)(q:fP us z=some v)(k:KV v cs):Wp F KV cs .item [.ref A,.int z]:=.pr k λR H s' Q q'=>(BI (m R H s') s q).mpr q'
theorem Wp.cm(q:qk x y op=some tt)(k:KV (.bool tt) cs):Wp F KV cs (.cmp op) [.int x,.int y]:=.pr k λR H s Q q'=>by show wr (bR H op _ _) H Q;rw [sR q];exact q'
theorem Wp.ls(q:us.length<=lim)(k:∀a,KV (.ref a) ([(a,.list us)]::cs)):Wp F KV cs .list us:=.mk k λR H s Q q'=>(JN q).mpr q'
theorem We.iT(x:We d F (λv c'=>(v= .bool true/\We d F KV c' l a)\/(v= .bool false/\We d F KV c' l b)) cs l c):We d F KV cs l (.ite c a b):=Mt.bind (f:=λv Q H=>Mine.wb v (aH Mine.G (acl d) a l H Q)<|aH Mine.G (acl d) b l H Q) x λv c h=>by
 rcases h with ⟨rfl,h⟩|⟨rfl,h⟩
 ·exact h
 ·exact h
theorem We.qE(g:∀k:Nat->Prop,k f->wG ic k)(xs:d9 d F (λvs c=>∀a,Cl d F (λr c=>r= .none/\KV (.ref a) c) ([(a,.inst ic [])]::c) f (.ref a::vs)) cs l es):We d F KV cs l (nw ic es):=
 Mt.bind (f:=λ(vs:List V) (Q:bA) (H:Hp)=>wG ic λf=>acl d f (V.ref H.length::vs) (H++ [O.inst ic []]) λr h2=>uZ r<|Q (V.ref H.length) h2) xs λus c h R H Q s q=>g _ (h H.length R _ _ s.new λr c H' h s'=>by rw [h.1];exact q _ c H' h.2 s')
theorem En.cmn{α:Type}{xs:List α}{g f:α->V}(src:En d F cs l e (xs.map g))(hl:xs.length<=lim)(q:aR t l.length)(step:∀cs a,Ev d F cs (st l t<|g a) b<|f a):En d F cs l (.comp [t] (.seq e) (el []) b) (xs.map f):=λK k=>
 .comp (Wi.lst (src _ λA X y=>y A _ ag0 (.ix 0 ag0)<|Mt.dk 1 (Cm.of (xs:=xs) (g:=g) (r:=λa=>some<|f a) (λ_=>.lst<|.ix 0 ag0) hl q (λa _ X y _=>y _ ag0 .nil<|step _ a)<|qu (F:=xs) (g:=f)▸k)))
theorem ae3(e:h[A]? = some (.fix ns))(s:0<=z/\z<=lim)(l:(ns.take z.toNat).length<=lim):aQ Mine.G .sliceTo [.ref A,.int z] h Q=Q (.ref h.length) (h++ [.list ((ns.take z.toNat).map V.int)]):=
 dK ((bO (f:=zW h z) e).trans<|(if_pos s).trans (iQ<|ae (aF<|aG _) l))
theorem MI:∀{l:List Int},allInts (l.map V.int)=some l
 | []=>rfl
 |a::r=>agX (dq (a:: ·))<|MI (l:=r)
theorem ae4(e:h[A]? = some (.list<|ns.map V.int))(q:∀i∈ns,0<=i/\i<=2 ^ 40):aQ Mine.G .sum [.ref A] h Q=Q (.int ns.sum) h:=
 dK ((ly (f:=λ_ xs=>sumOf h xs) e).trans ((agX (λo=>o.bind (λns=>if ∀i∈ns,0<=i/\i<=2 ^ 40 then some (V.int ns.sum,h) else none)) MI).trans<|if_pos q))
theorem Ev.sum(x:Ev d F cs l e (.ref A))(m:Fact F cs A (.list<|ns.map V.int))(q:∀i∈ns,0<=i/\i<=2 ^ 40):Ev d F cs l (Pl.pr .sum [e]) (.int ns.sum):=λK k=>We.pr (.one x)<|.pr k λR H s Q q'=>(ae4 (m R H s) q).mpr q'
theorem MJ(x:Int)(h:0<m)(hy:m<=y):0<=x % m/\x % m<=y:=⟨zb _<|DI h,aL (bZ<|zg _ h) hy⟩
theorem ae5(m:Fact F cs 0 (.fix ns))(k:∀P C,bX P C->KV (.ref P) (C::cs)):Cl (d+1) F KV cs 94 [.ref 0]:=by
 have tl:(ns.take (48:Int).toNat).length<=48:=zh _ _;generalize e:ns.take (48:Int).toNat=N at tl;have b:∀i∈N.map (λ(i:Int)=>((i.natAbs:Int) % 1000003)),0<=i/\i<=2 ^ 40:=λi hi=>by obtain ⟨j,_,rfl⟩:=bB.mp hi;exact MJ _ (by decide) (by decide)
 have s:=MJ (N.map λ(i:Int)=>((i.natAbs:Int) % 1000003)).sum (m:=65519) (y:=69851) (by decide) (by decide);refine Mt.mg (aw (K:=λv c=>KV v<|Wl.mg c) g94 rfl<|.an (.cmn (xs:=N) (g:=V.int) (f:=λ(i:Int)=>V.int<|(i.natAbs:Int) % 1000003) (λK k=>We.pr (.two (.lo ag0) .k) (.mk k λR H s Q q'=>(ae3 (m R H s) ⟨by decide,by decide⟩<|e▸ae tl (au ag0)).mpr<|e▸q')) (ae tl<|au ag0) ag0 λcs a=>.mod (.abs<|.lo ag0) .k<|by decide) ag0 λA=>.rn (.ls (.cons (.lo ag0) (.two .k<|.add .k (.mod (.sum (ns:=N.map λ(i:Int)=>((i.natAbs:Int) % 1000003)) (.lo ag0) (.ix (t:=[]) 0 ?_) b) .k<|by decide)))<|au ag0) λP=> ?_)
 ·rw [iG];rfl
 ·have:=k P _ (.mk A (N.map λ(i:Int)=>((i.natAbs:Int) % 1000003)) 0 (149+(N.map λ(i:Int)=>((i.natAbs:Int) % 1000003)).sum % 65519) (λc hc=>(b c hc).1) (eU 0) (lS (by decide) s.1) (lX s.2 149)<|ae (aF<|aG _) (ae tl<|by decide));rw [iG] at this;exact this
theorem VN.mono(s:∀q∈X,q∈X')(h:VN X cd m v):VN X' cd m v:=by
 induction h with
 |n m=>exact .n m
 |a k h=>exact .a k h
 |l=>exact .l
 |b k h=>exact .b k h
 |t m v h x=>obtain ⟨a,c,cs,e1,e2,e3,e4,e5⟩:=x;exact .t m v h ⟨a,c,cs,e1,e2,s _ e3,s _ e4,e5⟩
theorem VB.mono(s:∀q∈X,q∈X')(h:VB X m v):VB X' m v:=h.imp λ_ h=>h.mono s
theorem VB.none:VB X m .none:=⟨id,.n m⟩
theorem CY(h0:0<=z)(h:z<us.length)(g:∀v,v∈us->fP us z=some v->Y):Y:=by obtain ⟨j,rfl⟩:=kz h0;have hj:j<us.length:=dh.mp h;exact g _ (Oh hj) (lF (de hj))
theorem tD(h0:0<=z)(h:z<1000):small z:=⟨aL (by decide) h0,aL (bZ h)<|by decide⟩
theorem MK{n4:Int}(p:bX P C)(e4:n4=us.length)(h0:0<n4)(h9:n4<=1000)(h:∀v∈us,VB [] m v)(g0:gl l 0=some (.ref P))(k:∀C' X v,bX P C'->VB X m v->KV v (C'::X::cs)):We (d+1) F (λw c'=>Wp F KV c' .item [.ref A,w]) ([(A,.list us)]::C::cs) l (Pl.ca 95 [lo 0,.cst<|.int n4]):=
 .ca (.two (.lo g0) .k) (gB 1 ag0 p h0 λC' x p' x0 x4=>CY x0 (e4▸x4) λv hv e=>Mt.dk 2 (Mt.perm (cs':=C':: []:: [(A,.list us)]::cs) (.refl _)<|Wp.fB (.ix 2 ag0) (tD x0<|gg x4 h9) e (k C' [] v p'<|h v hv)))
theorem CZ{us:List Int}(m2:2<=m)(h:us.length<=10)(p:bX P C)(k:∀C' X v,bX P C'->VB X m v->KV v (C'::X::cs))(a:Nat):Cl (d+1) F (λr c=>r= .none/\KV (.ref a) (pk (Wl.mg c) [1])) ([(a,.inst 9 [])]:: [(B,.list<|us.map V.int)]::C::cs) 127 [.ref a,.ref B]:=
 aw aba ag0 (.put (.lo ag0) (.lo ag0) 0 ag0 rfl (.put (.lo ag0) (.lo ag0) 0 ag0 rfl<|.nil ⟨ag0,k C [(a,.inst 9 [.ref B,.none]),(B,.list<|us.map V.int)] (.ref a) p ⟨λ_=>.ref B,.t m _ m2 ⟨a,B,us,ag0,ag0,.head _,.tail _<|.head _,h⟩⟩⟩))
theorem ae6(p:bX P C)(m2:2<=m){l1 l2:Option V}(k:∀C' X v,bX P C'->VB X m v->KV v (C'::X::cs)):We (d+1) F KV (C::cs) [some (.ref P),l1,l2,l3,l4] (.ite (cm .gt (Pl.ca 95 [lo 0,ci 5])<|ci 0) (nw 9 [Pl.pr .item [Pl.pr .list [Pl.pr .list [ci 120],Pl.pr .list [ci 121,ci 122],Pl.pr .list []],Pl.ca 95 [lo 0,ci 3]]]) cN):=by
 refine Mt.kk [1] (Mt.mg (We.iT (.p2 (.ca (.two (.lo rfl) .k) (gB 0 rfl p (by decide) λC1 x p1 x0 x5=>.ev .k (Wp.cm rfl ?_))))));cases decide (0<x) with
 |false=>exact .inr ⟨ag0,Mt.perm (cs':=[]:: []::C1::cs) (.refl _) (We.ev .k<|k C1 [] .none p1 .none)⟩
 |true=>
  refine .inl ⟨rfl,.qE (λ_ k=>k) (.ef (.p2 (.pw (.cx (.ls (.one .k) (au rfl) λa0=>.cx (.ls (.two .k .k) (au rfl) λa1=>.cx (.ls .nil (au rfl) λa2=>.nil (Wp.ls (au rfl) λA=>.ca (.two (.lo rfl) .k) (gB 4 rfl p1 (by decide) λC2 y p2 y0 y3=>CY (us:=[.ref a0,.ref a1,.ref a2]) y0 y3 λv hv e=>Wp.fB (.ix 1 rfl) (tD y0 (gY y3 (by decide))) e λa=> ?_)))))))))⟩;rcases aO.mp hv with e|hv
  ·subst e;exact Mt.drop 2 (Mt.drop 2 (Mt.drop 2 (Mt.perm (iR [0,1] _) (CZ (B:=a0) (us:=[120]) m2 (by decide) p2 k a))))
  ·rcases aO.mp hv with e|hv
   ·subst e;exact Mt.drop 2 (Mt.drop 2 (Mt.drop 3 (Mt.perm (iR [0,1] _) (CZ (B:=a1) (us:=[121,122]) m2 (by decide) p2 k a))))
   ·cases cr.mp hv;exact Mt.drop 2 (Mt.drop 3 (Mt.drop 3 (Mt.perm (iR [0,1] _) (CZ (B:=a2) (us:=[]) m2 (by decide) p2 k a))))
theorem ML(p:bX P C)(h0:0<=m)(k:∀C' X v,bX P C'->VB X m v->KV v (C'::X::cs)):Cl (d+2) F KV (C::cs) 96 [.ref P,.int m]:=by
 refine aw g96 rfl ?_;cases q0:decide (m=0) with
 |true=>
  cases agY q0;refine .it (.cm (.lo rfl) .k rfl) (.an (.ls (vs:=[sy 20,sy 21,B4,.none]) (.cons (.tp (.two .k .k) (au rfl)) (.cons (.tp (.two .k .k) (au rfl)) (.two (.tp (.cons .k (.two (.tp (.two .k .k) (au rfl)) (.tp (.two .k .k) (au rfl)))) (au rfl)) .k))) (au rfl)) rfl λA=>.rw (.p2 (.ev (.lo rfl) (MK p rfl (by decide) (by decide) (λv hv=> ?_) rfl k))));rcases aO.mp hv with e|hv
  ·exact e▸⟨id,.a 20<|by decide⟩
  ·rcases aO.mp hv with e|hv
   ·exact e▸⟨id,.a 21<|by decide⟩
   ·rcases aO.mp hv with e|hv
    ·exact e▸⟨id,.l⟩
    ·exact cr.mp hv▸VB.none
 |false=>
  refine .el (.cm (.lo rfl) .k (agX some q0)) ?_;cases q1:decide (m=1) with
  |true=>
   cases agY q1;refine .it (.cm (.lo rfl) .k rfl) (.rw (.p2 (.ls (vs:=[sy 30,sy 31,sy 32,.none]) (.cons (.tp (.two .k .k) (au rfl)) (.cons (.tp (.two .k .k) (au rfl)) (.two (.tp (.two .k .k) (au rfl)) .k))) (au rfl) λA=>MK p rfl (by decide) (by decide) (λv hv=> ?_) rfl k)));rcases aO.mp hv with e|hv
   ·exact e▸⟨id,.b 30<|by decide⟩
   ·rcases aO.mp hv with e|hv
    ·exact e▸⟨id,.b 31<|by decide⟩
    ·rcases aO.mp hv with e|hv
     ·exact e▸⟨id,.b 32<|by decide⟩
     ·exact cr.mp hv▸VB.none
  |false=>exact .el (.cm (.lo ag0) .k<|agX some q1) (.rw<|ae6 p (yT.mpr ⟨yT.mpr ⟨h0,λq=>of_decide_eq_false q0 q.symm⟩,λq=>of_decide_eq_false q1 q.symm⟩) k)
end
variable{kv:List Kv}{y8:Option V}
structure Rw where
 n:Int
 b:Int
 e:Int
 pr:Int
 da:Nat
 kv:List Kv
def iy(r:Rw):V:=.tup [.int r.n,.int r.b,.int r.e,.int r.pr,.ref r.da]
structure gT(X:Ch)(kv:List Kv)(k:Nat):Prop where
 ky:∀p∈kv,0<=p.1/\p.1<=4/\VB X p.1 p.2
 nd:(kv.map (·.1)).Nodup
 le:kv.length<=k
structure gU(X:Ch)(sz:Int)(r:Rw):Prop where
 b:0<=r.b/\r.b<=r.e/\r.e<=sz
 pr:small r.pr
 da:(r.da,O.dict r.kv)∈X
 kv:gT X r.kv 5
structure RO(P:Nat)(sz:Int)(k:Nat)(C X:Ch)(R:List Rw):Prop where
 p:bX P C
 r:∀r∈R,gU X sz r
 n:R.map Rw.n=(aT k).map λ(j:Nat)=>(j:Int)
section
variable{KT:Loc->List Ch->Prop}{l:Loc}{P rl:Nat}{e':Int}{bd:List S}{R:List Rw}{r:Rw}
theorem tE:∀{l:List Kv},fq m v l=dY l m v
 | []=>rfl
 |(j,x)::r=>if q:m=j then (by subst q;exact (if_pos ag0).trans (if_pos ag0).symm) else ((if_neg q).trans<|agX ((j,x):: ·) tE).trans (if_neg<|cU q).symm
theorem tF:∀{l:List Kv},dJ m l=lk l m
 | []=>rfl
 |(j,x)::r=>if q:m=j then (if_pos q).trans (if_pos q.symm).symm else ((if_neg q).trans tF).trans (if_neg<|cU q).symm
theorem MM{l:List Kv}:(dY l m v).length<=l.length+1:=by
 induction l with
 |nil=>exact cf _
 |cons g l ih=>exact if q:g.1=m then (wY q (ll:=l) (v:=v))▸oV _ else (s7 q (ll:=l) (v:=v))▸i9 ih
theorem gT.mono(s:∀q∈X,q∈X')(h:gT X kv k):gT X' kv k:=⟨λp hp=>⟨(h.ky p hp).1,(h.ky p hp).2.1,(h.ky p hp).2.2.mono s⟩,h.nd,h.le⟩
theorem gU.mono(s:∀q∈X,q∈X')(h:gU X sz r):gU X' sz r:=⟨h.b,h.pr,s _ h.da,h.kv.mono s⟩
theorem gT.up(h:gT X kv k)(q:k<=n):gT X kv n:=⟨h.ky,h.nd,ae h.le q⟩
theorem gT.put(h:gT X kv k)(m0:0<=m)(m4:m<=4)(hv:VB X m v):gT X (fq m v kv) (k+1):=by rw [tE];exact ⟨λp hp=>(s9 hp).elim (λq=>q▸⟨m0,m4,hv⟩)<|h.ky p,wZ h.nd,ae MM<|i9 h.le⟩
theorem Wi.aN{KI:IV->List Ch->Prop}(x:We d F (λv c=>∀Y:Prop,(∀n:Nat,v= .int n->n<=lim->KI (.aN 0 n) c->Y)->Y) cs l e):Mt F cs (λ(Q:IV->Hp->Prop) H=>ml Mine.G (acl d) (.aN e) l H Q) KI:=
 Mt.bind (f:=λv (Q:IV->Hp->Prop) H=>wz v λi=>0<=i/\i<=lim/\Q (.aN 0 i.toNat) H) x λv c h=>h _ λn e q k=>e▸ .pr k λR H s Q q'=>⟨c6 n,cz.mpr q,q'⟩
def MN(P rl j da:Nat)(sz b' e':Int)(X:Ch)(cs:List Ch):Lf:=⟨(Ch×Ch×List Kv)×Option V×Option V,λ_ i=>[some (.ref P),some<|.int sz,some<|.ref rl,some<|.int j,some<|.int b',some<|.int e',some<|.ref da,i.2.1,i.2.2,none,none],λ_ i=>i.1.1::i.1.2.1:: [(da,.dict i.1.2.2)]::cs,λk i=>bX P i.1.1/\(∀q∈X,q∈i.1.2.1)/\gT i.1.2.1 i.1.2.2 k⟩
theorem ae7(p:bX P C)(s:∀q∈X,q∈X')(h:gT X' kv k)(hk:k<=5)(n:Nf (MN P rl j da sz b' e' X cs) K' (k+1)):
 W (d+2) F (kb K K') (C::X':: [(da,.dict kv)]::cs) [some (.ref P),some<|.int sz,some<|.ref rl,some<|.int j,some<|.int b',some<|.int e',some<|.ref da,some v,y8,none,none] [ak 8 (ca 95 [lo 0,ci 5]),.ag (.item (lo 6)<|lo 8)<|ca 96 [lo 0,lo 8]]:=
 .bS (.ca (.two (.lo ag0) .k) (gB 0 ag0 p (by decide) λC1 m p1 m0 m5=>.asg<|.ca (.two (.lo ag0)<|.lo ag0) (ML p1 m0 λC2 X1 u p2 hu=>.id (.lo ag0) (.lo ag0) 3 ag0 ⟨ae h.le (ae hk<|by decide),tD m0 (gY m5<|by decide)⟩<|.re [1,1] (.mg<|.re [1] (.nil<|n ((C2,X1++X',fq m u kv),some v,some<|.int m) ⟨p2,λq hq=>bp _<|s q hq,(h.mono λq hq=>bp _ hq).put m0 (uA.mp m5)<|hu.mono λq hq=>cJ _ hq⟩))))) ag0
def MO:E:=Pl.pr .item [Pl.pr .list [ci 0,ci 0,ci 5,Pl.pr .neg [ci 2]],ca 95 [lo 0,ci 4]]
def b97:List S:=[ak 4 (ca 95 [lo 0,Pl.pr .add [lo 1,ci 1]]),ak 5<|Pl.pr .min2 [lo 1,Pl.pr .add [lo 4,ca 95 [lo 0,ci 4]]],ak 6<|Pl.pr (.dict []) [],.for [7] (.aN<|Pl.pr .add [ci 1,ca 95 [lo 0,ci 2]])<|sl [ak 8 (ca 95 [lo 0,ci 5]),.ag (.item (lo 6)<|lo 8)<|ca 96 [lo 0,lo 8]],.expr (.lm .append (lo 2)<|el [Pl.pr .tup [lo 3,lo 4,lo 5,MO,lo 6]])]
def C0(P rl:Nat)(sz:Int)(cs:List Ch):Lf:=⟨(Ch×Ch×List Rw)×Loc,λ_ i=>[some (.ref P),some<|.int sz,some<|.ref rl,gl i.2 0,gl i.2 1,gl i.2 2,gl i.2 3,gl i.2 4,gl i.2 5,none,none],λ_ i=>i.1.1::i.1.2.1:: [(rl,.list<|i.1.2.2.map iy)]::cs,λk i=>RO P sz k i.1.1 i.1.2.1 i.1.2.2⟩
theorem RO.len(h:RO P sz k C X R):R.length=k:=(aG (f:=Rw.n)).symm.trans ((agX cu h.n).trans<|(aG _).trans c5)
theorem RO.next(h:RO P sz k C X R)(p:bX P C')(s:∀q∈X,q∈X')(o:gU X' sz r)(e:r.n=k):RO P sz (k+1) C' X' (R++ [r]):=
 ⟨p,λg hg=>(b9.mp hg).elim (λhg=>(h.r g hg).mono s) λhg=>cr.mp hg▸o,by rw [bK,h.n,E3,bK];exact agX (λx=>_++ [x]) e⟩
theorem ae9{y7:Option V}(o:RO P sz k C X R)(hk:k<=5)(p:bX P C')(s:∀q∈X,q∈X')(h:gT X' kv 2)(b0:0<=b')(be:b'<=e')(ez:e'<=sz)(n:Nf (C0 P rl sz cs) K' (k+1)):
 W (d+2) F (kb K K') (C'::X':: [(da,.dict kv)]:: [(rl,.list<|R.map iy)]::cs) [some (.ref P),some<|.int sz,some<|.ref rl,some<|.int (k:Int),some<|.int b',some<|.int e',some<|.ref da,y7,y8,none,none] [.expr (.lm .append (lo 2)<|el [Pl.pr .tup [lo 3,lo 4,lo 5,MO,lo 6]])]:=by
 refine .xp (.CM (.lo rfl) (.ix 3 rfl) (.pw (.co (.lo rfl) (.co (.lo rfl) (.co (.lo rfl) (.cx (.p2 (.ls (vs:=([0,0,5,-2]:List Int).map V.int) (.cons .k (.cons .k (.two .k (.neg .k)))) (au rfl) λA=>.ca (.two (.lo rfl) .k) (gB 1 rfl p (by decide) λC2 x p2 x0 x4=>CY (us:=([0,0,5,-2]:List Int).map V.int) x0 x4 λv hv e=>Wp.fB (.ix 1 rfl) (tD x0 (gY x4 (by decide))) e ?_)))))))));obtain ⟨pr,hp,ev⟩:=bB.mp hv;subst ev
 have sp:small pr:=by
  rcases aO.mp hp with e|hp
  ·subst e;decide
  ·rcases aO.mp hp with e|hp
   ·subst e;decide
   ·rcases aO.mp hp with e|hp
    ·subst e;decide
    ·cases cr.mp hp;decide
 refine Mt.drop 1<|d9.co (.lo ag0) (.nil<|.tp (au ag0) λY g=>g 3 ag0 ?_ ⟨ag0,.re [2,1]<|.mg (.re [1]<|.nil ?_)⟩)
 ·rw [aG,o.len];exact bx hk (au ag0)
 ·have n:=n ((C2,[(da,.dict kv)]++X',R++ [(⟨k,b',e',pr,da,kv⟩:Rw)]),[some (.int (k:Int)),some<|.int b',some<|.int e',some<|.ref da,y7,y8])<|o.next p2 (λq hq=>.tail _<|s q hq) ⟨⟨b0,be,ez⟩,sp,.head _,(h.mono λq hq=>.tail _ hq).up<|by decide⟩ ag0;have n:K' _ (C2::([(da,.dict kv)]++X'):: [(rl,.list<|(R++ [(⟨k,b',e',pr,da,kv⟩:Rw)]).map iy)]::cs):=n;rw [bK] at n;exact n
theorem afa{x6 x7 x8:Option V}(hz:1<=sz)(o:RO P sz k C X R)(hk:k<=5)(n:Nf (C0 P rl sz cs) K' (k+1)):
 W (d+2) F (kb K K') (C::X:: [(rl,.list<|R.map iy)]::cs) [some (.ref P),some<|.int sz,some<|.ref rl,some<|.int (k:Int),x4,x5,x6,x7,x8,none,none] b97:=by
 refine .bS (.ca (.two (.lo ag0)<|.add (.lo ag0) .k)<|gB 0 ag0 o.p (Int.lt_add_one_of_le<|aL (by decide) hz) λC1 b p1 b0 bz=>.bS (.p2<|.ev (.lo ag0) (.p2<|.ev (.lo ag0) (.ca (.two (.lo ag0) .k)<|gB 0 ag0 p1 (by decide) λC2 x p2 x0 x4=>.pr (x:=V.int<|b+x) (.pr (x:=V.int (min sz<|b+x)) ?_ λ_ _ _ _ q=>q) λ_ _ _ _ q=>q))) ag0) ag0;have be:b<=min sz (b+x):=Int.le_min.mpr ⟨uA.mp bz,jc x0⟩;have ez:min sz (b+x)<=sz:=yX _ _;generalize min sz (b+x)=e' at be ez;refine .bS (.dict .nil ⟨ag0,.nil,by decide⟩ λda=>.for<|Wi.aN (.p2<|.ev .k (.ca (.two (.lo ag0) .k)<|gB 1 ag0 p2 (by decide) λC3 y p3 y0 y2=>.pr (x:=V.int<|1+y) ?_ λ_ _ _ _ q=>q))) ag0;have j2:(1+y).toNat<=2:=nj.mpr<|lX (uA.mp y2:y<=1) 1;have ej:V.int (1+y)=V.int ((1+y).toNat:Nat):=agX V.int (uz<|lS (by decide) y0).symm;generalize (1+y).toNat=j at j2 ej;intro Y g;refine g j ej (ae j2<|au ag0) (Mt.perm (iR [0,1,0] _)<|Lo.f1 (vs:=(aT j).map λ(j:Nat)=>V.int<|0+(j:Int)) (MN P rl k da sz b e' X ([(rl,.list<|R.map iy)]::cs)) (λ_ _ _=>.aN) (λ_ _=>ag0) (λi v s K2 hv h n=>sZ hv λlt ev=> ?_) (λs h=> ?_) ((C3,X,[]),x7,x8) ⟨p3,λ_ h=>h,⟨λ_ h=>absurd h du,.nil,cf _⟩⟩ ag0 rfl)
 ·exact ae7 h.1 h.2.1 h.2.2 (ae (cV lt) (ae j2<|by decide)) n
 ·exact ae9 o hk h.1 h.2.1 (h.2.2.up<|ae (aF<|(aG _).trans c5) j2) b0 be ez n
theorem afb(p:bX P C)(hz:1<=sz)(k:∀C' X R n rl,bX P C'->RO P sz n C' X R->n<=4->KV (.ref rl) (C'::X:: [(rl,.list<|R.map iy)]::cs)):Cl (d+3) F KV (C::cs) 97 [.ref P,.int sz]:=by
 refine aw g97 ag0 (.an (.ls .nil<|au ag0) ag0 λrl=>.for<|Wi.aN (.ca (.two (.lo ag0) .k)<|gB 1 ag0 p (by decide) λC1 x p1 x0 x5=> ?_));have j4:x.toNat<=4:=nj.mpr<|uA.mp x5;have ej:V.int x=V.int (x.toNat:Nat):=agX V.int (uz x0).symm;generalize x.toNat=j at j4 ej;intro Y g;refine g j ej (ae j4<|au ag0) (Mt.perm (cs':=C1:: []:: [(rl,.list [])]::cs) (.refl _)<|Lo.f1 (vs:=(aT j).map λ(j:Nat)=>V.int<|0+(j:Int)) (C0 P rl sz cs) (λ_ _ _=>.aN) (λ_ _=>ag0) (λi v s K2 hv o n=>sZ hv λlt ev=> ?_) (λs o=>.ret (.lo ag0)<|k s.1.1 s.1.2.1 s.1.2.2 j rl ?_ ?_ j4) ((C1,[],[]),[none,none,none,none,none,none]) ⟨p1,λ_ h=>absurd h du,ag0⟩ ag0 rfl)
 ·subst ev;exact afa hz o (ae (cV lt) (ae j4 (by decide))) n
 ·exact o.p
 ·rw [aG,c5] at o;exact o
end
variable{l:Loc}{e3:E}{bu tx mk ls:Nat}{us:List V}{t:List Nat}{tt:Ch}
section
variable{KT:Loc->List Ch->Prop}{P:Nat}{bd:List S}
theorem W.xq(x:We d F (λv c=>(∀p:Prop,wn v p=p)/\W d F K c l p) cs l e):W d F K cs l (.expr e::p):=.s (Mt.bind (f:=λv Q H=>wn v<|Q (Fl.next,l) H) x λv c h R H Q s q=>(h.1 _).mpr<|q _ _ H h.2 s)
theorem Lo.nil(m:Fact F cs A (.list []))(k:W d F K cs l p):Lo d F K t bd p l (.lst A) cs:=λR H Q s q=>⟨1,by unfold mq;rw [Gives.lst (k:=0) m R H s];exact k R H Q s q⟩
theorem afc(e:h[A]? = some (.list us))(l:us.length<=lim):aQ Mine.G .listOf [.ref A] h Q=Q (.ref h.length) (h++ [.list us]):=
 dK ((bO (f:=zZ h) e).trans<|iQ l)
theorem En.MP(x:Ev d F cs l e (.ref A))(m:Fact F cs A (.list us))(q:us.length<=lim):En d F cs l (Pl.pr .listOf [e]) us:=λK k=>We.pr (.one x)<|.mk k λR H s Q q'=>(afc (m R H s) q).mpr q'
theorem W.MQ(x:Ev d F cs l e (.ref A))(m:Fact F cs A (.list []))(k:W d F K cs l p):W d F K cs l (.for t (.seq<|Pl.pr .listOf [e]) (sl bd)::p):=
 .for (Wi.lst<|En.MP x m (bq _) _ λB Y g=>g B _ ag0 (.ix 0 ag0) (.nil (.ix 0 ag0)<|.dr 0 k))
theorem afd(e:H[A]? = some (.list [v]))(q:0<=z/\z<=100):aQ Mine.G .mul [.ref A,.int z] H Q=Q (.ref H.length) (H++ [.list (cg z.toNat v)]):=
 dK ((bO (f:=λo=>(cW o).bind λxs=>Mine.fI (V.int z) λk=>fQ xs λx=>if 0<=k/\k<=100 then bY H (cg k.toNat x) else none) e).trans<|(if_pos q).trans (iQ<|ae (aF PK) (ae (nj.mpr q.2)<|au ag0)))
theorem En.afe(x:En d F cs l a [v])(y:∀cs,Ev d F cs l b<|.int z)(q:0<=z/\z<=100):En d F cs l (Pl.pr .mul [a,b]) (cg z.toNat v):=λK k=>.p2<|x _ λA=>.ev (y _) (Mt.dk 1<|.mk k λR H s Q q'=>(afd (Fact.ix 0 ag0 R H s) q).mpr q')
theorem aff(k:∀D,KV .none ([(D,.dict [])]:: [(li,.inst 19 [.int 100,.none,.bool true,.ref D])]::cs)):Cl (d+1) F KV ([(li,.inst 19 [])]::cs) 184 [.ref li,.int 100]:=
 aw abC ag0 (.put (.lo ag0) (.lo ag0) 0 ag0 rfl (.put .k (.lo ag0) 0 ag0 rfl<|.put .k (.lo ag0) 0 ag0 rfl (.asg<|.dict .nil ⟨ag0,.nil,by decide⟩ λD=>.at (.lo ag0) 1 ag0 rfl (.nil<|k D))))
theorem tG(m:Fact F cs li (.inst 19 [.int 100,.none,.bool true,.ref pd]))(hn:n<5):Co (d+1) F 185 [.ref li,.str n] cs (.int<|100+n) cs:=λK k=>
 aw abD ag0 (.ret (.add (.at (.lo ag0) m ag0) λK k=>We.pr (.one<|.lo ag0) (.pr k λR H s Q q'=>by show wp (if n<5 then some (V.int n,H) else none) Q;rw [if_pos hn];exact q')) k)
theorem afg(m:Fact F cs li (.inst 19 [.int 100,.none,.bool true,.ref pd]))(k:∀D,KV .none ([(D,.dict [])]:: [(ru,.inst 4 [.ref li,.none,.bool true,.int 100,.int 101,.int 102,.int 103,.int 104,.ref D])]::cs)):Cl (d+2) F KV ([(ru,.inst 4 [])]::cs) 110 [.ref ru,.ref li]:=
 aw aa3 ag0 (.put (.lo ag0) (.lo ag0) 0 ag0 rfl<|.put (.at (.lo ag0) m.wk ag0) (.lo ag0) 0 ag0 rfl (.put (.at (.lo ag0) m.wk ag0) (.lo ag0) 0 ag0 rfl<|.put (.me (.lo ag0) m.wk ag0 (.one .k) (tG m.wk<|by decide)) (.lo ag0) 0 ag0 rfl (.put (.me (.lo ag0) m.wk ag0 (.one .k) (tG m.wk<|by decide)) (.lo ag0) 0 ag0 rfl<|.put (.me (.lo ag0) m.wk ag0 (.one .k) (tG m.wk<|by decide)) (.lo ag0) 0 ag0 rfl (.put (.me (.lo ag0) m.wk ag0 (.one .k) (tG m.wk<|by decide)) (.lo ag0) 0 ag0 rfl<|.put (.me (.lo ag0) m.wk ag0 (.one .k) (tG m.wk<|by decide)) (.lo ag0) 0 ag0 rfl (.asg<|.dict .nil ⟨ag0,.nil,by decide⟩ λD=>.at (.lo ag0) 1 ag0 rfl (.nil<|k D))))))
theorem afh(m:Fact F cs A (.list []))(k:∀ce,KV .none ([(ce,.list (cg 8<|.int 0))]:: [(tx,.inst 15 [.int 8,.ref ce,.int 0,.int 8])]::cs)):Cl (d+1) F KV ([(tx,.inst 15 [])]::cs) 151 [.ref tx,.ref A,.int 8]:=
 aw abn ag0 (.put (.lo ag0) (.lo ag0) 0 ag0 rfl (.asg<|En.ad (.MP (.lo ag0) m.wk<|bq _) (λc=>.afe (z:=8) (.ls (.one .k)<|au ag0) (λ_=>.lo ag0)<|by decide) (au ag0) _ λce=>.at (.lo ag0) 1 ag0 rfl (.put (.len (.lo ag0) m.wk.wk) (.lo ag0) 1 ag0 rfl<|.put (.ie (y:=8) (.add (.len (.lo ag0) m.wk.wk)<|.lo ag0) ag0) (.lo ag0) 1 ag0 rfl (.nil<|k ce))))
def cb(tx mk ls:Nat)(pt zv tk ct:Int)(pr ov:V):O:=.inst 17 [.int 1,.str 13,.ref tx,.ref mk,.int pt,.int 1,.int zv,.none,.bool true,.bool false,.int tk,.int ct,.int 1,.ref ls,.none,pr,ov,.none,.none,.none]
noncomputable def bo(tx mk ls k:Nat):O:=.inst 17<|DN k [.int 1,.str 13,.ref tx,.ref mk,.int 1,.int 1,.int 1,.none,.bool true,.bool false,.int 1,.int 1,.int 1,.ref ls,.none,.none,.none,.none,.none,.none]
def MR:List S:=[.ag (.attr (lo 0) 79) cN,.ag (.attr (lo 0) 37) cN,.ag (.attr (lo 0) 32) cN,.ag (.attr (lo 0) 80) cN,.ag (.attr (lo 0) 81) cN,.ag (.attr (lo 0) 82) cN]
def afi:List S:=[.ag (.attr (lo 0) 69) (ci 1),.ag (.attr (lo 0) 70)<|ci 1,.ag (.attr (lo 0) 71)<|ci 1,.ag (.attr (lo 0) 72) cN,.ag (.attr (lo 0) 73) cT,.ag (.attr (lo 0) 74) cF,.ag (.attr (lo 0) 75)<|ci 1,.ag (.attr (lo 0) 76)<|ci 1,.ag (.attr (lo 0) 77)<|ci 1,.ag (.attr (lo 0) 78)<|Pl.pr .list []]++MR
theorem afj(g:gl l 0=some (.ref bu))(k:KV .none ([(bu,cb tx mk ls 1 1 1 1 .none .none)]::cs)):W d F (fK KV) ([(bu,bo tx mk ls 14)]::cs) l MR:=
 .put (o':=bo tx mk ls 15) .k (.lo g) 0 ag0 rfl (.put (o':=bo tx mk ls 16) .k (.lo g) 0 ag0 rfl<|.put (o':=bo tx mk ls 17) .k (.lo g) 0 ag0 rfl (.put (o':=bo tx mk ls 18) .k (.lo g) 0 ag0 rfl<|.put (o':=bo tx mk ls 19) .k (.lo g) 0 ag0 rfl (.put (o':=bo tx mk ls 20) .k (.lo g) 0 ag0 rfl<|.nil k)))
theorem afk(g:gl l 0=some (.ref bu))(k:∀ls,KV .none ([(bu,cb tx mk ls 1 1 1 1 .none .none)]:: [(ls,.list [])]::cs)):W d F (fK KV) ([(bu,bo tx mk 0 4)]::cs) l afi:=
 .put (o':=bo tx mk 0 5) .k (.lo g) 0 ag0 rfl (.put (o':=bo tx mk 0 6) .k (.lo g) 0 ag0 rfl (.put (o':=bo tx mk 0 7) .k (.lo g) 0 ag0 rfl<|.put (o':=bo tx mk 0 8) .k (.lo g) 0 ag0 rfl (.put (o':=bo tx mk 0 9) .k (.lo g) 0 ag0 rfl<|.put (o':=bo tx mk 0 10) .k (.lo g) 0 ag0 rfl (.put (o':=bo tx mk 0 11) .k (.lo g) 0 ag0 rfl<|.put (o':=bo tx mk 0 12) .k (.lo g) 0 ag0 rfl (.put (o':=bo tx mk 0 13) .k (.lo g) 0 ag0 rfl<|.asg (.ls .nil (bq _) λls=>.at (o':=bo tx mk ls 14) (.lo g) 1 ag0 rfl<|.re [1] (afj g<|k ls)))))))
theorem afl(k:∀ls md mk ce tx,KV .none ([(bu,cb tx mk ls 1 1 1 1 .none .none)]:: [(ls,.list [])]:: [(md,.dict [])]:: [(mk,.inst 16 [.ref md])]:: [(ce,.list (cg 8<|.int 0))]:: [(tx,.inst 15 [.int 8,.ref ce,.int 0,.int 8])]::cs)):Cl (d+2) F KV ([(bu,.inst 17 [])]::cs) 170 [.ref bu,.int 1,.str 13]:=
 aw abx ag0 (.put (o':=bo 0 0 0 1) (.lo ag0) (.lo ag0) 0 ag0 rfl (.put (o':=bo 0 0 0 2) (.lo ag0) (.lo ag0) 0 ag0 rfl<|.asg (.qE (λ_ k=>k)<|.cx (.ls .nil (bq _) λc=>.co (.lo ag0)<|.nil λtx=>afh (.ix 0 ag0) λce=>⟨ag0,.at (o':=bo tx 0 0 3) (.lo ag0) 3 ag0 rfl<|.dr 2 (.asg<|.qE (λ_ k=>k) (.nil λmk=>aw abu rfl<|.asg (.dict .nil ⟨ag0,.nil,by decide⟩ λmd=>.at (.lo ag0) 1 ag0 rfl<|.nil ⟨ag0,.at (o':=bo tx mk 0 4) (.lo ag0) 4 ag0 rfl (.re [4]<|afk ag0 λls=>k ls md mk ce tx)⟩)))⟩))))
end
variable{ce cl:Nat}{tk ct pt zv:Int}{t:Ch}
section
variable{KT:Loc->List Ch->Prop}{P md:Nat}{bd:List S}
theorem afm(e:H[A]? = some (.list vs))(q:0<=x/\0<=y/\x<=lim/\y<=lim)(l:vs.length<=lim):aQ Mine.G .slice [.ref A,.int x,.int y] H Q=Q (.ref H.length) (H++ [.list ((vs.drop x.toNat).take<|y.toNat-x.toNat)]):=
 dK ((ly (f:=λ_ xs=>(cut xs x y).bind<|bY H) e).trans<|(agX (λo=>o.bind<|bY H) (if_pos q:cut vs x y=_)).trans (iQ<|ae (t9 _ _) (ae (aF iA)<|ae (lQ _ _) l)))
theorem En.slc(x1:Ev d F cs l a (.ref A))(y1:Ev d F cs l b (.int x))(z1:Ev d F cs l c (.int y))(m:Fact F cs A (.list vs))(q:0<=x/\0<=y/\x<=lim/\y<=lim)(h:vs.length<=lim):En d F cs l (Pl.pr .slice [a,b,c]) ((vs.drop x.toNat).take<|y.toNat-x.toNat):=λK k=>We.pr (.cons x1<|.two y1 z1)<|.mk k λR H s Q q'=>(afm (m R H s) q h).mpr q'
theorem afo(e:H[A]? = some (.list vs))(e2:H[B]? = some (.list us))(q:A≠B/\0<=x/\x<=y/\y<=vs.length/\vs.length+us.length<=lim):rR H (.ref A) (.int x) (.int y) (.ref B)=some (H.set A (.list<|vs.take x.toNat++(us++vs.drop y.toNat))):=by show (H[A]?.bind λo=>(cW o).bind λxs=>H[B]?.bind λo=>(cW o).bind λys=>if A≠B/\0<=x/\x<=y/\y<=xs.length/\xs.length+ys.length<=lim then some (H.set A (.list<|xs.take x.toNat++(ys++xs.drop y.toNat))) else none)=_;rw [e,e2];exact if_pos q
theorem Wt.sl(x1:Ev d F cs l e1 (.ref A))(y1:Ev d F cs l e2 (.int x))(z1:Ev d F cs l e3 (.int y))(i j:Nat)(m:nt cs i=(A,.list vs)::t)(m2:(B,O.list us)∈nt (cR cs i) j)(q:0<=x/\x<=y/\y<=vs.length/\vs.length+us.length<=lim)(k:KT l (ups cs i ((A,.list<|vs.take x.toNat++(us++vs.drop y.toNat))::t))):Wt d F KT cs l (.slice e1 e2 e3) (.ref B):=
 Mt.ne (p1:=(A,O.list vs)) i j (m▸Ni) m2 λne=>Mt.bind (f:=λu (Q:Loc->Hp->Prop) H=>aH Mine.G (acl d) e2 l H λa h2=>aH Mine.G (acl d) e3 l h2 λb h3=>oP (rR h3 u a b<|.ref B) λh4=>Q l h4) (x1 (λw c=>w= .ref A/\c=cs) ⟨ag0,ag0⟩) λw c h=>by rw [h.1,h.2];refine Mt.bind (f:=λa (Q:Loc->Hp->Prop) H=>aH Mine.G (acl d) e3 l H λb h3=>oP (rR h3 (.ref A) a b<|.ref B) λh4=>Q l h4) (y1 (λw c=>w= .int x/\c=cs) ⟨ag0,ag0⟩) λw c h=> ?_;rw [h.1,h.2];refine Mt.bind (f:=λb (Q:Loc->Hp->Prop) H=>oP (rR H (.ref A) (.int x) b<|.ref B) λh4=>Q l h4) (z1 (λw c=>w= .int y/\c=cs) ⟨ag0,ag0⟩) λw c h=> ?_;rw [h.1,h.2];intro R H Q s q';rw [afo (Fact.ix i m R H s) ((Fact.cx (F:=F) (cs:=cs)<|(lz cs i).mem_iff.mpr (bp _<|gy _ j m2)) R H s) ⟨ne,q⟩];exact q' _ _ _ k<|s.wr m
theorem afp(hs:us.length<=8)(k:KV .none ([(tx,.inst 15 [.int 8,.ref ce,.int us.length,.int 8])]:: [(ce,.list<|us++(cg 8<|.int 0).drop us.length)]:: [(cl,.list us)]::cs)):Cl (d+2) F KV ([(tx,.inst 15 [.int 8,.ref ce,.int 0,.int 8])]:: [(ce,.list (cg 8<|.int 0))]:: [(cl,.list us)]::cs) 157 [.ref tx,.int 0,.ref cl]:=by
 have h8:(us.length:Int)<=8:=cz.mpr hs;refine aw abt ag0 (.xp<|.me (.lo ag0) (.ix 0 ag0) ag0 (.one (.len (.lo ag0)<|.ix 2 ag0)) (aw abr rfl<|.as (.sub (.lo ag0) (.sub (.at (.lo ag0) (.ix 0 ag0) ag0)<|.at (.lo ag0) (.ix 0 ag0) ag0)) ag0 (.el (.cm (.lo ag0) .k (agX some<|decide_eq_false ?_))<|.nil ⟨ag0,.xp (.me (.lo ag0) (.ix 0 ag0) ag0 (.one<|.lo ag0)<|aw abq ag0 (.el (.cm (.lo ag0) (.at (.lo ag0) (.ix 0 ag0) ag0) ag0)<|.an (.slc (y:=8) (.at (.lo ag0) (.ix 0 ag0) ag0) (.at (.lo ag0) (.ix 0 ag0) ag0) (.ie (.sub (.add (.at (.lo ag0) (.ix 0 ag0) ag0)<|.lo ag0)<|.at (.lo ag0) (.ix 0 ag0) ag0) ag0) (.ix 1 ag0) (by decide)<|au ag0) ag0 λN=> ?_))⟩)))
 ·exact cH.mpr<|yA h8
 ·refine .asg (.ev (.lo ag0)<|.sl (x:=0) (y:=0) (.at (.lo ag0) (.ix 1 ag0) ag0) (.at (.lo ag0) (.ix 1 ag0) ag0) (.ie (.add (.at (.lo ag0) (.ix 1 ag0) ag0) (.len (.lo ag0)<|.ix 0 ag0)) ag0) 2 0 ag0 (.head _) ⟨by decide,by decide,by decide,au ag0⟩ ?_);refine .put (o':=.inst 15 [.int 8,.ref ce,.int 0,.int 8]) (.ie (.add (.at (.lo ag0) (.ix 1 ag0) ag0) (.len (.lo ag0)<|.ix 0 ag0)) ag0) (.lo ag0) 1 ag0 rfl<|.put (o':=.inst 15 [.int 8,.ref ce,.int 0,.int 8]) (.lo ag0) (.lo ag0) 1 ag0 rfl (.dr 0<|.nil ⟨ag0, ?_⟩);have h9:us.length<=100:=ae hs (by decide);refine .asg (.ev (.lo ag0)<|.sl (x:=0) (y:=us.length) (us:=us) (vs:=cg 8<|.int 0) (.at (.lo ag0) (.ix 0 ag0) ag0) (.lo ag0) (.ie (.add (.lo ag0) (.len (.lo ag0)<|.ix 2 ag0))<|dR _) 1 1 ag0 (.head _) ⟨by decide,c6 _,h8,ae (eB h9 8)<|au ag0⟩ ?_);exact .put (o':=.inst 15 [.int 8,.ref ce,.int us.length,.int 8]) (.ie (.add (.lo ag0) (.len (.lo ag0)<|.ix 2 ag0))<|dR _) (.lo ag0) 0 ag0 rfl<|.nil k
end
section
variable{md:Nat}
theorem afq(e:h[A]? = some (.dict [])):aQ Mine.G .sorted [.ref A] h Q=Q (.ref h.length) (h++ [.list []]):=
 dK ((bO (f:=z5 h) e).trans ag0)
theorem afr(hs:us.length<=8)(k:KV .none ([(bu,cb tx mk ls 1 (1+us.length) 1 1 .none .none)]:: [(tx,.inst 15 [.int 8,.ref ce,.int us.length,.int 8])]:: [(ce,.list<|us++(cg 8<|.int 0).drop us.length)]:: [(cl,.list us)]::cs)):Cl (d+3) F KV ([(bu,cb tx mk ls 1 1 1 1 .none .none)]:: [(tx,.inst 15 [.int 8,.ref ce,.int 0,.int 8])]:: [(ce,.list (cg 8<|.int 0))]:: [(cl,.list us)]::cs) 90 [.ref bu,.int 1,.ref cl]:=
 aw g90 ag0 (.el (.aV (.at (.lo ag0) (.ix 0 ag0) ag0) .k ag0) (.xp<|.me (.at (.lo ag0) (.ix 0 ag0) ag0) (.ix 1 ag0) ag0 (.two (.ie (.sub (.lo ag0) .k) ag0)<|.lo ag0) (Mt.perm (iR [1,1,1] _)<|afp hs ⟨ag0,.re [3]<|.put (o':=cb tx mk ls 1 (1+us.length) 1 1 .none .none) (.add (.at (.lo ag0) (.ix 0 ag0) ag0) (.len (.lo ag0)<|.ix 3 ag0)) (.lo ag0) 0 ag0 rfl (.el (.cm (.at (.lo ag0) (.ix 0 ag0) ag0) (.lo ag0) ag0)<|.nil k)⟩)))
theorem afs(m:Fact F cs mk (.inst 16 [.ref md]))(m2:Fact F cs md (.dict [])):Co (d+2) F 167 [.ref mk,.int x,.int y,.bool false] cs .none cs:=λK k=>
 aw abw ag0 (.for<|Wi.lst (.me (.lo ag0) m ag0 .nil<|aw abv ag0 (.rn (λK k=>We.pr (.one<|.at (.lo ag0) m ag0)<|.mk k λR H s Q q'=>(afq<|m2 R H s).mpr q') λB Y g=>g B _ ag0 (.ix 0 ag0)<|.nil (.ix 0 ag0) (.dr 0<|.nil k))))
theorem aft(m:Fact F cs bu (cb tx mk ls pt zv tk ct .none .none)):Co (d+1) F 91 [.ref bu,.int x,.int y,.bool false] cs .none cs:=λK k=>
 aw g91 ag0 (.el (.aV (.at (.lo ag0) m ag0) .k ag0) (.el (.aV (.at (.lo ag0) m ag0) .k ag0)<|.nil k))
theorem afu(m:Fact F cs ls (.list []))(k:KV .none ([(bu,cb tx mk ls pt zv (tk+1) (tk+1) .none .none)]::cs)):Cl (d+2) F KV ([(bu,cb tx mk ls pt zv tk ct .none .none)]::cs) 89 [.ref bu,.int x,.int y,.int z]:=
 aw g89 ag0 (.xp (.me (.lo ag0) (.ix 0 ag0) ag0 (.one .k)<|aw abB ag0 (.put (o':=cb tx mk ls pt zv (tk+1) ct .none .none) (.add (.at (.lo ag0) (.ix 0 ag0) ag0) .k) (.lo ag0) 0 ag0 rfl<|.it (.lo ag0) (.put (o':=cb tx mk ls pt zv (tk+1) (tk+1) .none .none) (.at (.lo ag0) (.ix 0 ag0) ag0) (.lo ag0) 0 ag0 rfl<|.nil ⟨ag0,.MQ (.at (.lo ag0) (.ix 0 ag0) ag0) m.wk<|.nil k⟩))))
theorem afv(h0:0<us.length)(hs:us.length<=8)(k:KV .none ([(bu,cb tx mk ls (1+us.length) (1+us.length) 2 2 .none .none)]:: [(tx,.inst 15 [.int 8,.ref ce,.int us.length,.int 8])]:: [(ce,.list<|us++(cg 8<|.int 0).drop us.length)]:: [(cl,.list us)]:: [(ls,.list [])]:: [(md,.dict [])]:: [(mk,.inst 16 [.ref md])]::cs)):
 Cl (d+5) F KV ([(bu,cb tx mk ls 1 1 1 1 .none .none)]:: [(tx,.inst 15 [.int 8,.ref ce,.int 0,.int 8])]:: [(ce,.list (cg 8<|.int 0))]:: [(cl,.list us)]:: [(ls,.list [])]:: [(md,.dict [])]:: [(mk,.inst 16 [.ref md])]::cs) 93 [.ref bu,.ref cl]:=by
 have s0:decide ((us.length:Int)=0)=false:=decide_eq_false λq=>Ek h0<|uv q;refine aw g93 rfl<|.xp (.ca (.cons (.lo ag0)<|.cons (.at (.lo ag0) (.ix 0 ag0) ag0) (.cons (.lo ag0)<|.two (.lo ag0) .k))<|aw g92 ag0 ?_);refine .xe (.one<|.lo ag0) (λK k=>aw g86 ag0 (.el (.at (.lo ag0) (.ix 0 ag0) ag0)<|.nil k)) ?_;refine .xq<|.ca (.cons (.lo ag0) (.two (.lo ag0)<|.lo ag0)) (aw g87 rfl<|.tu (.ev (.tp (.two (.min (.lo ag0)<|.lo ag0) (.max (.lo ag0)<|.lo ag0))<|au ag0) (.el (.iS (.cm (.lo ag0) (.at (.lo ag0) (.ix 0 ag0) ag0) ag0)<|.cm (.lo ag0) (.at (.lo ag0) (.ix 0 ag0) ag0) ag0)<|.ret (.tp (.two (.lo ag0)<|.lo ag0)<|au ag0) ⟨λ_=>ag0, ?_⟩)) ag0 rfl);refine .el (.cm (.len (.lo ag0)<|.ix 3 ag0) .k<|agX some s0)<|.xe (.cons (.lo ag0) (.two (.lo ag0)<|.lo ag0)) (λK k=>aw g88 ag0 (.MQ (.at (.lo ag0) (.ix 0 ag0) ag0) (.ix 4 ag0)<|.nil k)) ?_;refine .xp (.ca (.cons (.lo ag0) (.two (.lo ag0)<|.lo ag0))<|afr hs ⟨ag0,.it (.lo ag0)<|.put (o':=cb tx mk ls (1+us.length) (1+us.length) 1 1 .none .none) (.add (.lo ag0) (.len (.lo ag0)<|.ix 3 ag0)) (.lo ag0) 0 ag0 rfl ?_⟩);refine .xp (.me (.at (.lo ag0) (.ix 0 ag0) ag0) (.ix 6 ag0) ag0 (.cons (.lo ag0) (.two (.add (.lo ag0) (.len (.lo ag0)<|.ix 3 ag0))<|.lo ag0))<|afs (.ix 6 ag0) (.ix 5 ag0) _ ⟨ag0, ?_⟩);exact .xe (.cons (.lo ag0)<|.cons (.lo ag0) (.two (.len (.lo ag0)<|.ix 3 ag0)<|.lo ag0)) (aft<|.ix 0 ag0)<|.xp (.ca (.cons (.lo ag0) (.cons (.lo ag0)<|.two (.add (.lo ag0) (.len (.lo ag0)<|.ix 3 ag0)) .k))<|afu (.ix 3 ag0) ⟨ag0,.nil ⟨ag0,.nil k⟩⟩)
end
variable{dd:Nat}{nv hv:V}{n:Int}
section
variable{nd ruv:V}{b e:Int}{T:Tr Ov}
theorem afw(m:Fact F cs pl (.list<|ll.map d8))(hl:ll.length<=100)(h:lk ll n=none):Co (d+2) F 51 [.ref pl,.int n,v] cs (.bool false) cs:=λK k=>
 aw JB ag0 (.as (.ca (.two (.lo ag0)<|.lo ag0)<|wW m hl) ag0 (sY ll n (λa _=>by rw [a];exact .ret (.ew<|.cm (.lo ag0) .k ag0) k) λi v _ b _=>nomatch h.symm.trans b))
theorem MS(m:Fact F cs ru (.inst 4 [.ref li,.none,.bool true,.int 100,.int 101,.int 102,.int 103,.int 104,.ref dd]))(hl:ll.length<100)(h:lk ll num=none)(h3:num≠103)(k:∀q,KV (.bool true) ([(oa,.inst 5 [nv,nd,hv,.ref q])]:: [(q,.list<|(dY ll num v).map d8)]::cs)):Cl (d+3) F KV ([(oa,.inst 5 [nv,nd,hv,.ref pa])]:: [(pa,.list<|ll.map d8)]::cs) 60 [.ref ru,.ref oa,.int num,v]:=
 aw g60 ag0 (.as (.not (.ca (.cons (.at (.lo ag0) (.ix 0 ag0) ag0) (.two (.lo ag0)<|.lo ag0))<|afw (.ix 1 ag0) (cV hl) h)) rfl<|.it (.lo ag0) (.asg<|.ca (.cons (.at (.lo ag0) (.ix 0 ag0) ag0) (.two (.lo ag0)<|.lo ag0)) (KL (.ix 1 ag0) hl λq=>.at (.lo ag0) 1 ag0 rfl<|.dr 2 (.re [1]<|.el (.ew<|.cm (.lo ag0) (.at (.lo ag0) m.wk.wk ag0) (agX some<|decide_eq_false h3)) (.ret (.lo ag0)<|k q)))))
theorem afx(k:KV .none ([(na,.inst 2 [.int n,.int 0,.int 0,.bool false,.bool false,.int 0,.int 0,.bool false,.none,.none,.none])]::cs)):Cl (d+1) F KV ([(na,.inst 2 [])]::cs) 108 [.ref na,.int n,.int 0,.int 0,.bool false,.bool false]:=
 aw aa1 ag0 (.put (.lo ag0) (.lo ag0) 0 ag0 rfl<|.put (.lo ag0) (.lo ag0) 0 ag0 rfl (.put (.lo ag0) (.lo ag0) 0 ag0 rfl<|.put (.lo ag0) (.lo ag0) 0 ag0 rfl (.put (.lo ag0) (.lo ag0) 0 ag0 rfl<|.put (o':=.inst 2 [.int n,.int 0,.int 0,.bool false,.bool false,.int 0]) (.lo ag0) (.lo ag0) 0 ag0 rfl (.put (.k) (.lo ag0) 0 ag0 rfl<|.put .k (.lo ag0) 0 ag0 rfl (.put .k (.lo ag0) 0 ag0 rfl<|.put .k (.lo ag0) 0 ag0 rfl (.put (o':=.inst 2 [.int n,.int 0,.int 0,.bool false,.bool false,.int 0,.int 0,.bool false,.none,.none,.none]) .k (.lo ag0) 0 ag0 rfl<|.nil k))))))
theorem afy(k:∀na pl,KV .none ([(oa,.inst 5 [.int n,.ref na,.none,.ref pl])]:: [(na,.inst 2 [.int n,.int 0,.int 0,.bool false,.bool false,.int 0,.int 0,.bool false,.none,.none,.none])]:: [(pl,.list [])]::cs)):Cl (d+2) F KV ([(oa,.inst 5 [])]::cs) 112 [.ref oa,.int n,.bool false,.bool false]:=
 aw aa5 ag0 (.put (.lo ag0) (.lo ag0) 0 ag0 rfl (.asg<|.new (λ_ k=>k) (.cons (.lo ag0) (.cons .k<|.cons .k (.two (.lo ag0)<|.lo ag0))) λna=>afx ⟨ag0,.at (.lo ag0) 1 ag0 rfl<|.re [1] (.put .k (.lo ag0) 0 ag0 rfl<|.asg (.ls .nil (bq _) λpl=>.at (o':=.inst 5 [.int n,.ref na,.none,.ref pl]) (.lo ag0) 1 ag0 rfl<|.re [1,1] (.nil<|k na pl)))⟩))
theorem afz(m:Fact F cs hm (.inst 6 [.ref ta,.ref da,ruv]))(hk:kvs.length<=50)(sn:small n)(so:fX (ay T))(bk:gQ T=false)(be:b<=e)(k:∀T' pre post,ay T=pre++post->ay T'=pre++(na,n,b,e)::post->fX (ay T')->gQ T'=false->KV .none (ZO ta [.int (cnt+1)] [] T':: [(da,.dict<|fq n (.ref oa) kvs)]:: [(oa,.inst 5 [.int n,.ref na,.ref hm,.ref pl])]::cs)):
 Cl (d+6) F KV ([(oa,.inst 5 [.int n,.ref na,.none,.ref pl])]:: [(na,.inst 2 [.int n,.int 0,.int 0,.bool false,.bool false,.int 0,.int 0,.bool false,.none,.none,.none])]::ZO ta [.int cnt] [] T:: [(da,.dict kvs)]::cs) 57 [.ref oa,.ref hm,.int b,.int e]:=
 aw g57 ag0 (.xe (.one<|.lo ag0) (λK k=>aw g56 ag0 (.el (.aV (.at (.lo ag0) (.ix 0 ag0) ag0) .k ag0)<|.nil k))<|.put (o':=.inst 2 [.int n,.int b,.int 0,.bool false,.bool false,.int 0,.int 0,.bool false,.none,.none,.none]) (.ie (.min (.lo ag0)<|.lo ag0)<|t8 be) (.at (.lo ag0) (.ix 0 ag0) ag0) 1 ag0 rfl (.put (o':=.inst 2 [.int n,.int b,.int e,.bool false,.bool false,.int 0,.int 0,.bool false,.none,.none,.none]) (.ie (.max (.lo ag0)<|.lo ag0)<|qY be) (.at (.lo ag0) (.ix 0 ag0) ag0) 1 ag0 rfl<|.put (o':=.inst 5 [.int n,.ref na,.ref hm,.ref pl]) (.lo ag0) (.lo ag0) 0 ag0 rfl (.asg<|.ev (.lo ag0) (.id (.at (.lo ag0) m.wk.wk.wk.wk ag0) (.at (.lo ag0) (.ix 0 ag0) ag0) 3 ag0 ⟨ae hk<|by decide,sn⟩<|.xp (.ca (.two (.at (.lo ag0) m.wk.wk.wk.wk ag0)<|.at (.lo ag0) (.ix 0 ag0) ag0)<|.of (K0:=λv c=>v= .none/\W (d+5) F (fK KV) (c++ [(oa,.inst 5 [.int n,.ref na,.ref hm,.ref pl])]:: [(da,.dict<|fq n (.ref oa) kvs)]::cs) [some (.ref oa),some<|.ref hm,some<|.int b,some<|.int e,none,none] []) [2,1] (adD (x:=⟨n,b,e,false⟩) so bk λT' pre post h1 h2 h3 h4=>⟨ag0,.re [0,1] (.nil<|k T' pre post h1 h2 h3 h4)⟩) ag0 λ_ _ h=>h)))))
theorem afA(m:Fact F cs hm (.inst 6 [.ref ta,.ref da,ruv]))(hk:kvs.length<=50)(sn:small n)(so:fX (ay T))(bk:gQ T=false)(be:b<=e)(k:∀oa na pl T' pre post,ay T=pre++post->ay T'=pre++(na,n,b,e)::post->fX (ay T')->gQ T'=false->KV (.ref oa) (ZO ta [.int (cnt+1)] [] T':: [(da,.dict<|fq n (.ref oa) kvs)]:: [(oa,.inst 5 [.int n,.ref na,.ref hm,.ref pl])]:: [(pl,.list [])]::cs)):
 Cl (d+7) F KV (ZO ta [.int cnt] [] T:: [(da,.dict kvs)]::cs) 58 [.ref hm,.int n,.int b,.int e,.bool false,.bool false]:=
 aw g58 ag0 (.bS (.new (λ_ k=>k) (.cons (.lo ag0) (.two (.lo ag0)<|.lo ag0)) λoa=>afy (d:=d+4) λna pl=>⟨ag0,.re [0,0,1,1]<|.xp (.ca (.cons (.lo ag0)<|.cons (.lo ag0) (.two (.lo ag0)<|.lo ag0))<|afz m.wk hk sn so bk be λT' pre post h1 h2 h3 h4=>⟨ag0,.ret (.lo ag0)<|k oa na pl T' pre post h1 h2 h3 h4⟩)⟩) ag0)
end
variable{L:List Int}{x:Kv}
def f6(z:Rw×Nat×Nat×Nat):Ent:=⟨z.1.n,z.1.b,z.1.e,z.1.pr,z.2.1,z.2.2.1,z.2.2.2,λm=>(lk z.1.kv m).getD .none⟩
def e9(kv:List Kv):List Int:=dM false (λi=>[i])<|kv.map (·.1)
def oA(kv:List Kv)(L:List Int):List Kv:=L.map λm=>(10+m,(lk kv m).getD .none)
def iU(pr:Int)(kv:List Kv)(k:Nat):List Kv:=(104,.int pr)::oA kv ((e9 kv).take k)
def MT:List S:=[.expr (ca 60 [lo 3,lo 14,Pl.pr .add [ci 10,lo 15],Pl.pr .item [lo 13,lo 15]])]
section
variable{nd:V}{pr:Int}
theorem pJ:∀{l:List Kv},m∈l.map (·.1)->∃v,lk l m=some v
 |e::r,h=>if q:e.1=m then ⟨_,kg q⟩ else let ⟨v,w⟩:=pJ ((aO.mp h).resolve_left (cU q));⟨v,(im q).trans w⟩
theorem C5:∀{l:List Kv},m∉l.map (·.1)->dY l m v=l++ [(m,v)]
 | [],_=>rfl
 |e::r,h=>(s7 λq=>h (aO.mpr<|.inl q.symm)).trans<|agX (e:: ·) (C5 λw=>h<|.tail _ w)
theorem afB:(oA kv L).map (·.1)=L.map (10+ ·):=iG
theorem C6(h:10+m∈(oA kv L).map (·.1)):m∈L:=by rw [afB] at h;obtain ⟨j,hj,e⟩:=bB.mp h;exact zk e▸hj
theorem MU:∀{L:List Int},m∈L->lk (oA kv L) (10+m)=some ((lk kv m).getD .none)
 |j::L,h=>if q:j=m then q▸kg ag0 else (im (e:=(10+j,(lk kv j).getD .none)) λc=>q<|zk c).trans (MU ((aO.mp h).resolve_left<|cU q))
theorem MV:∀{L:List Int} {k:Nat},L.Nodup->L[k]? = some m->m∉L.take k
 |_::_,0,_,_=>du
 |j::L,k+1,nd,h=>λw=>have nd:=dF.mp nd
  (aO.mp w).elim (λe=>nd.1<|e▸cG h) (MV nd.2 h)
theorem MW(h:m∈e9 kv):m∈kv.map (·.1):=e6.mem_iff.mp h
theorem afC(h:(kv.map (·.1)).Nodup):(e9 kv).Nodup:=e6.nodup_iff.mpr h
theorem C7:(e9 kv).length=kv.length:=e6.length_eq.trans<|aG _
theorem MX(nd:(kv.map (·.1)).Nodup)(h4:m<=4)(h:(e9 kv)[k]? = some m):10+m∉(iU pr kv k).map (·.1):=λw=>(aO.mp w).elim (λq=>absurd (aL (lW<|DF q) (lX h4 10):(104:Int)<=10+4)<|by decide) λw=>MV (afC nd) h<|C6 w
theorem afD(nd:(kv.map (·.1)).Nodup)(h4:m<=4)(h:(e9 kv)[k]? = some m):dY (iU pr kv k) (10+m) ((lk kv m).getD .none)=iU pr kv (k+1):=by
 rw [C5 (MX nd h4 h)];unfold iU oA;rw [take_snoc h,bK]
 rfl
theorem MY:(iU pr kv k).length<=1+k:=ae (aF<|iZ _ 1)<|eB (ae (aF<|aG _)<|zh _ _) 1
theorem afE(e:h[A]? = some (.dict kv))(q:kv.length<=lim):aQ Mine.G .listOf [.ref A] h Q=Q (.ref h.length) (h++ [.list (kv.map λx=>.int x.1)]):=
 dK ((bO (f:=zZ h) e).trans (iQ<|ae (aF<|aG _) q))
theorem En.lod(x:Ev d F cs l e (.ref A))(m:Fact F cs A (.dict kv))(q:kv.length<=lim):En d F cs l (Pl.pr .listOf [e]) (kv.map λx=>.int x.1):=λK k=>We.pr (.one x)<|.mk k λR H s Q q'=>(afE (m R H s) q).mpr q'
theorem En.srn(x:En d F cs l e us)(s:sortBy false us us=some out)(q:out.length<=lim):En d F cs l (Pl.pr .sorted [e]) out:=λK k=>.pw<|.ef (x _ λA=>Mt.dk 1<|.mk k λR H s' Q q'=>(Mx (Fact.ix 0 ag0 R H s') s q).mpr q')
theorem afH(x:Ev d F cs l e (.ref A))(m:Fact F cs A (.dict kv))(nd:(kv.map (·.1)).Nodup)(h5:kv.length<=5):En d F cs l (Pl.pr .sorted [Pl.pr .listOf [e]]) ((e9 kv).map V.int):=by have sb:=tj (rev:=false) (L:=kv.map (·.1)) (g:=V.int) (kv:=V.int) (ky:=λi=>[i]) (λ_ _=>ag0) (kF.mpr<|nd.imp λh q=>h (bt q).1) (tm (n:=(0,0)) λ_ _=>ag0) (bx (ae (aF<|aG _) h5)<|by decide);have e0:kv.map (λx=>V.int x.1)=(kv.map (·.1)).map V.int:=iG.symm;exact .srn (e0▸ .lod x m (ae h5<|au ag0)) sb<|ae (aF<|(aG _).trans C7) (ae h5<|au ag0)
end
variable{f:Nat->Option V}{ov:V}{r:Rw}{l:List Kv}{e:Ent}
noncomputable def a9(f:Nat->Option V):Loc:=[f 0,f 1,f 2,f 3,f 4,f 5,f 6,f 7,f 8,f 9,f 10,f 11,f 12,f 13,f 14,f 15,f 16,f 17,f 18,f 19,f 20,f 21,f 22,f 23]
noncomputable def fo(f:Nat->Option V)(i:Nat)(v:Option V):Nat->Option V:=λn=>bif a6 n i then v else f n
noncomputable def mx(a b:Nat)(f y:Nat->Option V):Nat->Option V:=λn=>bif dD a n&&dD n b then y n else f n
abbrev Zz:=Rw×Nat×Nat×Nat
structure OB(X:Ch)(hm:Nat)(T:Tr Ov)(Z:List Zz)(E':List Ent):Prop where
 so:fX (ay T)
 bk:gQ T=false
 io:ay T=E'.map Ent.on
 pm:E'.Perm (Z.map f6)
 en:∀e∈Z.map f6,∃l,ou X hm e l
def gV(Z:List Zz):List Kv:=(Z.map f6).map λe=>(e.n,.ref e.oa)
def b6:List S:=[ak 14 (ca 58 [at_ 32 (lo 4),lo 9,lo 10,lo 11,cF,cF]),.expr<|ca 60 [lo 3,lo 14,at_ 25<|lo 3,lo 12],.for [15] (.seq<|Pl.pr .sorted [Pl.pr .listOf [lo 13]])<|sl MT]
section
variable{T T':Tr Ov}{Z:List Zz}{z:Zz}{E:List Ent}{pre:List On}
theorem ou.mono(s:∀q∈X,q∈X')(h:ou X hm e l):ou X' hm e l:=⟨s _ h.ob,s _ h.pl,h.ln,h.h0,h.h4,h.tl⟩
theorem afI(h:gT F r.kv 5)(h1:(oa,O.inst 5 [.int r.n,.ref na,.ref hm,.ref q])∈X)(h2:(q,O.list<|(iU r.pr r.kv (e9 r.kv).length).map d8)∈X):ou X hm (f6 (r,oa,na,q)) (iU r.pr r.kv (e9 r.kv).length):=by
 have k4:∀m∈e9 r.kv,m<=4:=λm hm=>let ⟨e,he,q⟩:=bB.mp (MW hm);q▸(h.ky e he).2.1
 have e0:iU r.pr r.kv (e9 r.kv).length=(104,.int r.pr)::oA r.kv (e9 r.kv):=agX (λL=>(104,V.int r.pr)::oA r.kv L) kH;refine ⟨h1,h2,ae MY (ae (eB (ae (aF C7) h.le) 1)<|by decide), ?_,kg ag0,λm m0 m4=> ?_⟩
 ·rw [e0];exact (im (by decide:¬(104:Int)=100)).trans (mf λw=>absurd (k4 90 (C6 w)) (by decide))
 ·rw [e0];show _=(lk r.kv m).getD .none;rw [im λc=>absurd (aL (lW c) (lX m4 10):(104:Int)<=10+4) (by decide)]
  by_cases w:m∈e9 r.kv
  ·rw [MU w];rfl
  ·rw [mf λc=>w (C6 c),mf λc=>w (e6.mem_iff.mpr c)]
theorem OB.next(o:OB X hm T Z E')(h1:ay T=pre++post)(h2:ay T'=pre++(na,r.n,r.b,r.e)::post)(h3:fX (ay T'))(h4:gQ T'=false)(s:∀q∈X,q∈X')(w:ou X' hm (f6 (r,oa,na,q)) l)(g:∀E1,OB X' hm T' (Z++ [(r,oa,na,q)]) E1->Y):Y:=by
 obtain ⟨A,B,e1,e2,e3⟩:=List.map_eq_append_iff.mp (o.io.symm.trans h1);refine g (A++f6 (r,oa,na,q)::B) ⟨h3,h4, ?_, ?_,λe he=> ?_⟩
 ·rw [h2,bK,mW,e2,e3];rfl
 ·rw [bK];exact jb.trans (((e1▸o.pm:(A++B).Perm (Z.map f6)).cons _).trans (List.perm_append_singleton _ _).symm)
 ·rw [bK] at he;exact (b9.mp he).elim (λhe=>(o.en e he).imp λl h=>h.mono s) λhe=>⟨l,cr.mp he▸w⟩
def MZ(f:Nat->Option V)(r:Rw)(oa na hm A:Nat)(cs:List Ch):Lf:=⟨Nat×Option V,λ_ i=>a9<|fo f 15 i.2,λk i=>[(oa,.inst 5 [.int r.n,.ref na,.ref hm,.ref i.1])]:: [(i.1,.list<|(iU r.pr r.kv k).map d8)]:: [(A,.list<|(e9 r.kv).map V.int)]::cs,λ_ _=>True⟩
theorem afJ(hru:Ru F ru li dd pd)(hr:gU F sz r)(f3:f 3=some (.ref ru))(f13:f 13=some (.ref r.da))(f14:f 14=some (.ref oa))(hv:((e9 r.kv).map V.int)[k]? = some v)(n:Nf (MZ f r oa na hm A cs) K' (k+1)):
 W (d+3) F (kb K K') ([(oa,.inst 5 [.int r.n,.ref na,.ref hm,.ref q])]:: [(q,.list<|(iU r.pr r.kv k).map d8)]:: [(A,.list<|(e9 r.kv).map V.int)]::cs) (a9 (fo f 15<|some v)) MT:=kh hv λm hm' ev=>by
 subst ev;have mk:=MW (cG hm');obtain ⟨u,hu⟩:=pJ mk;obtain ⟨x,hx,ex⟩:=bB.mp mk;have m4:m<=4:=ex▸(hr.kv.ky x hx).2.1;have k5:k<5:=bC (fF.mp hm').1 (ae (aF C7) hr.kv.le);have e1:=afD (pr:=r.pr) hr.kv.nd m4 hm';rw [hu] at e1;refine .xq (.ca (.cons (.lo f3) (.cons (.lo f14) (.two (.add .k (.lo rfl)) (.w9 (.lo f13) (.lo rfl) (.fx hr.da) (tF.trans hu))))) (MS (.fx hru.a) (bx MY (bC (qQ k5 1) (by decide))) (mf (MX hr.kv.nd m4 hm')) (λc=>absurd (aL (lW c.symm) (lX m4 10):(103:Int)<=10+4) (by decide)) λq'=>⟨λ_=>rfl,.nil ?_⟩));have n:=n (q',some (.int m)) trivial;have n:K' (a9 (fo f 15 (some (.int m)))) ([(oa,.inst 5 [.int r.n,.ref na,.ref hm,.ref q'])]:: [(q',.list ((iU r.pr r.kv (k+1)).map d8))]:: [(A,.list ((e9 r.kv).map V.int))]::cs):=n;rw [<- e1] at n;exact n
theorem afK(o:OB X hm T Z E')(hZ:Z.length<=4)(hru:Ru F ru li dd pd)(hho:(hm,O.inst 6 [.ref ta,.ref da,.ref ru])∈F)(hbu:(bu,cb tx mk ls pt zv tk ct ov<|.ref hm)∈F)(hr:gU F sz r)(hn:r.n∉(gV Z).map (·.1))(sn:small r.n)(f3:f 3=some (.ref ru))(f4:f 4=some (.ref bu))(f9:f 9=some (.int r.n))(f10:f 10=some (.int r.b))(f11:f 11=some (.int r.e))(f12:f 12=some (.int r.pr))(f13:f 13=some (.ref r.da))(k:∀z T' E1 X' cnt' y,z.1=r->OB X' hm T' (Z++ [z]) E1->K' (a9<|fo (fo f 14 (some<|.ref z.2.1)) 15 y) (ZO ta [.int cnt'] [] T':: [(da,.dict (gV<|Z++ [z]))]::X'::cs)):
 W (d+7) F (kb K K') (ZO ta [.int cnt] [] T:: [(da,.dict<|gV Z)]::X::cs) (a9 f) b6:=by
 have dl:(gV Z).length<=50:=ae (aF ((aG _).trans<|aG _)) (ae hZ<|by decide);refine .bS (.ca (.cons (.at (.lo f4) (.fx hbu) ag0) (.cons (.lo f9)<|.cons (.lo f10) (.cons (.lo f11)<|.two .k .k)))<|afA (.fx hho) dl sn o.so o.bk hr.b.2.1 λoa na pl T' pre post h1 h2 h3 h4=> ?_) ag0;refine .re [2,2]<|.xq (.ca (.cons (.lo f3)<|.cons (.lo ag0) (.two (.at (.lo f3) (.fx hru.a) ag0)<|.lo f12))<|MS (d:=d+4) (ll:=[]) (.fx hru.a) (by decide) ag0 (by decide) λq=>⟨λ_=>ag0, ?_⟩);refine .for (Wi.lst<|afH (l:=st (a9 f) 14<|.ref oa) (e:=lo 13) (.lo f13) (.fx hr.da) hr.kv.nd hr.kv.le _ λA Y g=>g A _ ag0 (.ix 0 ag0) (Mt.perm (iR [1,1] _)<|Lo.f1 (MZ (fo f 14 (some<|.ref oa)) r oa na hm A (ZO ta [.int (cnt+1)] [] T':: [(da,.dict (fq r.n (.ref oa)<|gV Z))]::X::cs)) (λ_ _ _=>.lst<|.ix 2 ag0) (λ_ _=>ag0) (λk v i K2 hv _ n=>afJ (d:=d+4) hru hr f3 f13 ag0 hv n) (λi _=>.dr 2<|.mg (.re [0,2]<|.mg (.re [1,1]<|.nil ?_))) (q,f 15) trivial ag0 rfl));rw [aG,tE,C5 hn];refine o.next (X':=[(oa,O.inst 5 [.int r.n,.ref na,.ref hm,.ref i.1])]++ [(i.1,O.list<|(iU r.pr r.kv (e9 r.kv).length).map d8)]++X) h1 h2 h3 h4 (λq hq=>bp _ hq) (afI (q:=i.1) hr.kv (.head _) (.tail _<|.head _)) λE1 ob=> ?_;have:=k (r,oa,na,i.1) T' E1 _ (cnt+1) i.2 ag0 ob;have e2:gV (Z++ [(r,oa,na,i.1)])=gV Z++ [(r.n,.ref oa)]:=by unfold gV;rw [bK,bK];rfl
 rw [e2] at this;exact this
end
variable{y:Nat->Option V}{n:Nat}{Z:List Zz}{R:List Rw}
noncomputable def ms(f y:Nat->Option V):Nat->Option V:=λn=>bif a6 n 6||dD 9 n then y n else f n
structure O6(X:Ch)(hm:Nat)(R:List Rw)(k:Nat)(T:Tr Ov)(Z:List Zz)(E':List Ent):Prop where
 o:OB X hm T Z E'
 z:Z.map (·.1)=R.take k
def p6P(f:Nat->Option V)(R:List Rw)(ta da hm:Nat)(cs:List Ch):Lf:=⟨(Int×Tr Ov×List Zz×List Ent×Ch)×(Nat->Option V),λ_ i=>a9<|ms f i.2,λ_ i=>ZO ta [.int i.1.1] [] i.1.2.1:: [(da,.dict<|gV i.1.2.2.1)]::i.1.2.2.2.2::cs,λk i=>O6 i.1.2.2.2.2 hm R k i.1.2.1 i.1.2.2.1 i.1.2.2.2.1⟩
section
variable{rl:Nat}{T:Tr Ov}{E:List Ent}
theorem xu(h:R.map Rw.n=(aT n).map λ(j:Nat)=>(j:Int))(q:R[k]? = some r):r.n=k:=by
 have e1:(R.map Rw.n)[k]? = some r.n:=by rw [fb,q];rfl
 have hk:k<n:=by have:=(fF.mp e1).1;rw [h,aG,c5] at this;exact this
 rw [h,fb,mV hk] at e1;exact (av e1).symm
theorem afM(h:R.map Rw.n=(aT n).map λ(j:Nat)=>(j:Int))(q:R[k]? = some r)(z:Z.map (·.1)=R.take k):r.n∉(gV Z).map (·.1):=λw=>by obtain ⟨x,hx,e⟩:=bB.mp w;obtain ⟨g,hg,rfl⟩:=bB.mp hx;obtain ⟨u,hu,rfl⟩:=bB.mp hg;have hz:u.1∈R.take k:=z▸eT hu;obtain ⟨j,hj,ej⟩:=Et hz;rw [List.getElem_take] at ej;have jk:j<k:=bC hj (zh _ _);have h1:=xu h (k:=j) (r:=u.1) (fF.mpr ⟨_,ej⟩);have h2:=xu h q;exact lP jk (uv (h1.symm.trans (e.trans h2)))
theorem afN(hru:Ru F ru li dd pd)(hho:(hm,O.inst 6 [.ref ta,.ref da,.ref ru])∈F)(hbu:(bu,cb tx mk ls pt zv tk ct ov<|.ref hm)∈F)(hrl:(rl,O.list<|R.map iy)∈F)(hR:∀r∈R,gU F sz r)(hN:R.map Rw.n=(aT n).map λ(j:Nat)=>(j:Int))(h4:n<=4)(f3:f 3=some (.ref ru))(f4:f 4=some (.ref bu))(f7:f 7=some (.ref rl))(k:∀cnt T Z E' X y,OB X hm T Z E'->Z.map (·.1)=R->W (d+7) F K (ZO ta [.int cnt] [] T:: [(da,.dict<|gV Z)]::X::cs) (a9<|ms f y) p):
 W (d+7) F K (ZO ta [.int 0] [] .nil:: [(da,.dict [])]::cs) (a9 f) (.for [9,10,11,12,13] (.seq<|lo 7) (sl b6)::p):=by
 have ln:R.length=n:=(aG (f:=Rw.n)).symm.trans ((agX cu hN).trans<|(aG _).trans c5);refine Src.to (.lst (.lo f7)<|.fx hrl) (Mt.perm (cs':=ZO ta [.int 0] [] .nil:: [(da,.dict [])]:: []::cs) (.refl _)<|Lo.fw (p6P f R ta da hm cs) (λ_ _ _=>.lst<|.fx hrl) (λk v i K' hv o nx=>kh hv λr hr ev=> ?_) (λi o=> ?_) ((0,.nil,[],[],[]),f) ⟨⟨.nil,ag0,ag0,.nil,λ_ h=>absurd h du⟩,ag0⟩ ag0 rfl)
 ·subst ev;have kl:k<=4:=ae (cV ((fF.mp hr).1)) (ln▸h4);have zl:i.1.2.2.1.length<=4:=(aG (f:=λz:Zz=>z.1)).symm▸(agX cu o.z).symm▸ae (zh _ _) kl;refine ⟨a9 (fo (fo (fo (fo (fo (ms f i.2) 9 (some (.int r.n))) 10 (some (.int r.b))) 11 (some (.int r.e))) 12 (some (.int r.pr))) 13 (some (.ref r.da))),ag0,afK o.o zl hru hho hbu (hR r (cG hr)) (afM hN hr o.z) ((xu hN hr).symm▸lB (ae kl (by decide))) f3 f4 ag0 rfl ag0 rfl ag0 λz T' E1 X' cnt' y' ez ob=>nx ((cnt',T',i.1.2.2.1++ [z],E1,X'),fo (fo (fo (fo (fo (fo (fo (ms f i.2) 9 (some (.int r.n))) 10 (some (.int r.b))) 11 (some (.int r.e))) 12 (some (.int r.pr))) 13 (some (.ref r.da))) 14 (some (.ref z.2.1))) 15 y') ⟨ob, ?_⟩⟩;rw [bK,o.z,take_snoc hr];exact agX (λx=>R.take k++ [x]) ez
 ·refine k _ _ _ _ _ _ o.o<|o.z.trans ?_;rw [aG,kH]
end
variable{l:Loc}{s b:Nat}{x:Int}{e:E}{kv:Nat->List Kv}
def BD(s:Nat)(bd:Nat->Nat)(kv:Nat->List Kv):Ch:=(aT s).map λj=>(bd j,O.dict<|kv j)
def fE(kv:Nat->List Kv)(b n:Nat)(m:Int)(v:V):Nat->List Kv:=λi=>bif dD b i&&aR i (b+n) then fq m v (kv i) else kv i
section
variable{x':Int}{bd:Nat->Nat}{kv':Nat->List Kv}
theorem M0(h:j<s):(BD s bd kv).Perm ((bd j,O.dict<|kv j)::((aT s).erase j).map λj=>(bd j,O.dict<|kv j)):=(List.perm_cons_erase<|iB.mpr h).map λj=>(bd j,O.dict<|kv j)
theorem afO(h:j<s)(q:∀i,i≠j->kv' i=kv i):((bd j,O.dict<|kv' j)::((aT s).erase j).map λj=>(bd j,O.dict<|kv j)).Perm (BD s bd kv'):=by have e:((aT s).erase j).map (λj=>(bd j,O.dict<|kv j))=((aT s).erase j).map (λj=>(bd j,O.dict<|kv' j)):=q7 λi hi=>agX (λx=>(bd i,O.dict x)) (q i λc=>(List.Nodup.mem_erase_iff Ea).mp (c▸hi) |>.1 ag0).symm;rw [e];exact (M0 h).symm
theorem afP(h:j=b+k):fE kv b (k+1) m v j=fq m v (kv j):=by
 subst h;unfold fE;rw [show dD b (b+k)=true from lM (fh _ _),show aR (b+k) (b+(k+1))=true from lM (cf _)]
 rfl
theorem afQ(h:j=b+k):fE kv b k m v j=kv j:=by
 subst h;unfold fE;rw [show aR (b+k) (b+k)=false from uk.mpr λc=>m6 _ (au c),m9]
 rfl
theorem afR(h:j≠b+k):fE kv b (k+1) m v j=fE kv b k m v j:=by unfold fE;have:aR j (b+(k+1))=aR j (b+k):=oX.mpr ⟨λc=>lM<|Eh (o8<|au c) h,λc=>lM (kD<|au c)⟩;rw [this]
theorem Src.jS(h:Ev d F cs l a (.int x))(g:Ev d F cs l e (.int x'))(q:0<=x/\x<=x'/\x'<=lim):Src d F cs l (.jS a e) (.aN x (x'-x).toNat):=
 Mt.bind (f:=λva (Q:IV->Hp->Prop) H=>aH Mine.G (acl d) e l H λvb h2=>JP va vb λi j=>0<=i/\i<=j/\j<=lim/\Q (.aN i (j-i).toNat) h2) (h (λv c=>v= .int x/\c=cs) ⟨ag0,ag0⟩) λv c h=>by rw [h.1,h.2];refine Mt.bind (f:=λvb (Q:IV->Hp->Prop) H=>JP (V.int x) vb λi j=>0<=i/\i<=j/\j<=lim/\Q (.aN i (j-i).toNat) H) (g (λv c=>v= .int x'/\c=cs) ⟨ag0,ag0⟩) λv c h=> ?_;rw [h.1,h.2];exact Mt.pr (K:=λiv c=>iv=IV.aN x (x'-x).toNat/\c=cs) (x:=IV.aN x (x'-x).toNat) ⟨ag0,ag0⟩ λR H s Q q'=>⟨q.1,q.2.1,q.2.2,q'⟩
def C8:List S:=[.ag (.item (Pl.pr .item [lo 8,lo 6])<|lo 15) (lo 17)]
def biP(f:Nat->Option V)(s b:Nat)(bd:Nat->Nat)(kv:Nat->List Kv)(m:Int)(v:V)(cs:List Ch):Lf:=⟨Option V,λ_ i=>a9<|fo f 6 i,λk _=>BD s bd (fE kv b k m v)::cs,λ_ _=>True⟩
theorem afT(hbl:(bl,O.list ((aT s).map λi=>.ref<|bd i))∈F)(hs:s<=100)(hb:b+n<=s)(hkv:∀j,j<s->(kv j).length<=50)(m0:0<=m)(m4:m<1000)(f8:f 8=some (.ref bl))(f10:f 10=some (.int (b:Int)))(f11:f 11=some (.int<|(b:Int)+n))(f15:f 15=some (.int m))(f17:f 17=some v)(k:∀y,W d F K (BD s bd (fE kv b n m v)::cs) (a9<|fo f 6 y) p):
 W d F K (BD s bd kv::cs) (a9 f) (.for [6] (.jS (lo 10)<|lo 11) (sl C8)::p):=by
 have lim1:(b:Int)+n<=lim:=cz.mpr (dL<|ae hb (ae hs<|by decide));have bn:(b:Int)<=b+n:=jc<|c6 n;have en:((b:Int)+n-b).toNat=n:=by rw [fG,gm];exact oR n
 have k0:fE kv b 0 m v=kv:=funext λi=>by
  unfold fE;cases c:aR i (b+0) with
  |false=>rw [m9];rfl
  |true=>rw [show dD b i=false from uk.mpr λw=>m6 _ (bx (au w)<|au c)];rfl
 refine .f1 (vs:=(aT n).map λ(j:Nat)=>V.int<|(b:Int)+(j:Int)) (en▸ .jS (.lo f10) (.lo f11) ⟨c6 b,bn,lim1⟩) (biP f s b bd kv m v cs) (λ_ _ _=>.aN) (λ_ _=>ag0) (λj u i K2 hu _ nx=>kh hu λg hg ev=> ?_) (λi _=> ?_) (f 6) trivial rfl<|agX (λx=>BD s bd x::cs) k0
 ·have gj:g=j/\j<n:=by obtain ⟨h1,h2⟩:=fF.mp hg;rw [Ew] at h2;exact ⟨h2.symm,lU h1 c5⟩
  subst ev;rw [gj.1];have js:b+j<s:=bC (qQ gj.2 b) hb;have e0:(iF (λi=>V.ref (bd i)) (aT s))[b+j]? = some (.ref (bd (b+j))):=by rw [fb,mV js];rfl
  have ke:=afQ (kv:=kv) (m:=m) (v:=v) (rfl:b+j=b+j);refine .pm (c1:=((bd<|b+j,O.dict (fE kv b j m v<|b+j))::((aT s).erase<|b+j).map λi=>(bd i,O.dict<|fE kv b j m v i))::cs) ((M0 js).append_right _) ?_;rw [ke];refine .asg (.ev (.lo f17)<|.id (.fB (.lo f8) (.lo ag0) (.fx hbl) (lB<|ae (cV js) (ae hs<|by decide))<|lF e0) (.lo f15) 0 ag0 ⟨ae (hkv _ js)<|by decide,tD m0 m4⟩ ?_);refine .pm (c1:=BD s bd (fE kv b (j+1) m v)::cs) (List.Perm.append_right _<|(afP (kv:=kv) (m:=m) (v:=v) (rfl:b+j=b+j))▸afO js λi hi=>afR hi) (.nil<|nx (some (.int<|(b:Int)+j)) trivial)
 ·show W d F K (BD s bd (fE kv b ((aT n).map λ(j:Nat)=>V.int<|(b:Int)+(j:Int)).length m v)::cs) _ p;rw [aG,c5];exact k i
end
variable{g:Int->Int->Option V}{tp pp:Nat}
structure I7(P:Ch)(pa tp s:Nat)(f:Int->Int->Option V)(T:Tr Iv)(kv:Nat->List Kv)(k:Nat):Prop where
 ts:TS P s f T
 pa:(pa,O.inst 7 [.ref tp])∈P
 br:∀i:Nat,i<s->(kv i).length<=k/\∀m,(dJ m (kv i)).getD .none=(f i (10+m)).getD .none
 fy:∀(i m:Int),VB P m ((f i (10+m)).getD .none)
def C9:E:=ca 71 [at_ 37 (lo 4),lo 10,lo 11,Pl.pr .add [ci 10,lo 15],lo 17]
def b7:List S:=[.ag (.tup<|tl [.loc 10,.loc 15]) (Pl.pr .tup [ca 95 [lo 1,lo 5],ca 95 [lo 1,ci 3]]),.ag (.tup<|tl [.loc 11,.loc 17])<|Pl.pr .tup [Pl.pr .min2 [lo 5,Pl.pr .add [Pl.pr .add [lo 10,ci 1],ca 95 [lo 1,ci 3]]],ca 96 [lo 1,lo 15]],.expr C9,.for [6] (.jS (lo 10)<|lo 11)<|sl C8]
section
variable{bd:Nat->Nat}{P:Ch}{T:Tr Iv}
theorem VB.vp(h:VB P m v)(m0:0<=m):VP P (kd (10+m)) v:=let ⟨_,h⟩:=h;h.vp m0
theorem afU(b i:Nat):dD b i=decide ((b:Int)<=i):=oX.mpr ⟨λh=>agZ (cz.mpr<|au h),λh=>lM (cz.mp<|agY h)⟩
theorem afV(i e:Nat):aR i e=decide ((i:Int)<e):=oX.mpr ⟨λh=>agZ (dh.mpr<|au h),λh=>lM (dh.mp<|agY h)⟩
theorem I7.next(h:I7 P pa tp s g T kv k)(sb:∀q∈P,q∈P')(t:TS P' s (upd g b ((b:Int)+n) (10+m) v) T')(hv:VB P' m v):I7 P' pa tp s (upd g b ((b:Int)+n) (10+m) v) T' (fE kv b n m v) (k+1):=by
 refine ⟨t,sb _ h.pa,λi hi=> ?_,λi m'=> ?_⟩
 ·obtain ⟨h1,h2⟩:=h.br i hi;unfold fE upd;rw [afU,afV i,ua];cases decide ((b:Int)<=i) with
  |false=>exact ⟨kD h1,h2⟩
  |true=>
   cases decide ((i:Int)<(b:Int)+n) with
   |false=>exact ⟨kD h1,h2⟩
   |true=>
    refine ⟨?_,λm'=> ?_⟩
    ·show (fq m v<|kv i).length<=k+1;rw [tE];exact ae MM<|i9 h1
    ·show (dJ m' (fq m v (kv i))).getD .none=(bif decide (10+m'=10+m) then some v else g i (10+m')).getD .none;rw [tF,tE,B',decide_eq_decide.mpr (⟨λh=>zk h,λh=>agX (10+ ·) h⟩:10+m'=10+m↔m'=m)];cases decide (m'=m) with
     |true=>rfl
     |false=>exact tF▸h2 m'
 ·unfold upd;cases c:decide (m'=m) with
  |true=>
   cases decide ((b:Int)<=i)&&(decide (i<(b:Int)+n)&&decide (10+m'=10+m)) with
   |true=>exact agY c▸hv
   |false=>exact (h.fy i m').mono sb
  |false=>rw [decide_eq_false λq=>of_decide_eq_false c<|zk q,m9,m9];exact (h.fy i m').mono sb
theorem afW(h:I7 P pa tp s g T kv k)(hs:s<=8)(hb:b+n<=s)(n0:0<n)(m0:0<=m)(m2:m<3)(hv:VB P m v)(hbu:(bu,cb tx mk ls pt zv tk ct (.ref pa) ov)∈F)(f4:f 4=some (.ref bu))(f10:f 10=some (.int (b:Int)))(f11:f 11=some (.int<|(b:Int)+n))(f15:f 15=some (.int m))(f17:f 17=some v)(k:∀T' P',(∀q∈P,q∈P')->TS P' s (upd g b ((b:Int)+n) (10+m) v) T'->W (d+9) F K (ZI tp [] T'::P'::cs) (a9 f) p):W (d+9) F K (ZI tp [] T::P::cs) (a9 f) (.expr C9::p):=by
 have m3:10+m∈ [(10:Int),11,12]:=by
  obtain ⟨j,hj⟩:=kz m0;subst hj;cases j with
  |zero=>exact .head _
  |succ j=>
   cases j with
   |zero=>exact .tail _<|.head _
   |succ j=>
    cases j with
    |zero=>exact .tail _ (.tail _<|.head _)
    |succ j=>exact absurd (dh.mp m2) (mZ.mpr<|dy 3 j)
 exact .xq (.ca (.cons (.at (.lo f4) (.fx hbu) ag0) (.cons (.lo f10)<|.cons (.lo f11) (.two (.add .k<|.lo f15)<|.lo f17)))<|.of (K0:=λv c=>(∀p:Prop,wn v p=p)/\W (d+9) F K (c++cs) (a9 f) p) (c0:=[ZI tp [] T,P]) (r:=cs) [] (ac6 h.ts (cz.mpr (ae hs<|by decide)) (c6 b) (EU _<|dh.mpr n0) (cz.mpr hb) h.pa m3 (hv.vp m0) λT' P' r sb t=>⟨λ_=>ag0,k T' P' sb t⟩) ag0 λ_ _ h=>h)
end
def p7P(f:Nat->Option V)(P pa tp s:Nat)(bd:Nat->Nat)(cs:List Ch):Lf:=⟨((Ch×Ch)×(Int->Int->Option V)×Tr Iv×(Nat->List Kv))×(Nat->Option V),λ_ i=>a9<|ms f i.2,λ_ i=>i.1.1.1::ZI tp [] i.1.2.2.1::i.1.1.2::BD s bd i.1.2.2.2::cs,λk i=>bX P i.1.1.1/\I7 i.1.1.2 pa tp s i.1.2.1 i.1.2.2.1 i.1.2.2.2 k⟩
section
variable{P:Nat}{bd:Nat->Nat}{T:Tr Iv}
theorem Wp.pl2(k:KV (.int<|x+z) cs):Wp F KV cs .add [.int x,.int z]:=.pr k λ_ _ _ _ q=>q
theorem Wp.mn2(k:KV (.int<|Min.min x z) cs):Wp F KV cs .min2 [.int x,.int z]:=.pr k λ_ _ _ _ q=>q
theorem af0(p0:bX P C)(h:I7 X pa tp s g T kv k)(hs:s<=8)(k5:k<=5)(hbl:(bl,O.list ((aT s).map λi=>.ref<|bd i))∈F)(hbu:(bu,cb tx mk ls pt zv tk ct (.ref pa) ov)∈F)(f4:f 4=some (.ref bu))(f8:f 8=some (.ref bl))(hb:b+n<=s)(n0:0<n)(m0:0<=m)(m3:m<3)(hv:VB X m v)(f10:f 10=some (.int (b:Int)))(f11:f 11=some (.int<|(b:Int)+n))(f15:f 15=some (.int m))(f17:f 17=some v)(nx:∀C' X' g' T' kv' y,bX P C'->I7 X' pa tp s g' T' kv' (k+1)->K' (a9<|fo f 6 y) (C'::ZI tp [] T'::X'::BD s bd kv'::cs)):
 W (d+9) F (kb K K') (ZI tp [] T::X::C::BD s bd kv::cs) (a9 f) [.expr C9,.for [6] (.jS (lo 10)<|lo 11)<|sl C8]:=
 afW h hs hb n0 m0 m3 hv hbu f4 f10 f11 f15 f17 λT' X' sb t=>.re [3]<|afT hbl (ae hs<|by decide) hb (λj hj=>ae (h.br j hj).1 (ae k5<|by decide)) m0 (gY m3<|by decide) f8 f10 f11 f15 f17 λy=>.re [3,1,1] (.nil<|nx C X' _ T' _ y p0 (h.next sb t<|hv.mono sb))
theorem xw(h:0<=x)(g:∀j:Nat,x=j->Y):Y:=g x.toNat (uz h).symm
theorem af1(p0:bX P C)(h:I7 X pa tp s g T kv k)(s1:1<=s)(hs:s<=8)(k5:k<=5)(hbl:(bl,O.list ((aT s).map λi=>.ref<|bd i))∈F)(hbu:(bu,cb tx mk ls pt zv tk ct (.ref pa) ov)∈F)(f1:f 1=some (.ref P))(f4:f 4=some (.ref bu))(f5:f 5=some (.int (s:Int)))(f8:f 8=some (.ref bl))(nx:∀C' X' g' T' kv' y,bX P C'->I7 X' pa tp s g' T' kv' (k+1)->K' (a9<|ms f y) (C'::ZI tp [] T'::X'::BD s bd kv'::cs)):
 W (d+9) F (kb K K') (C::ZI tp [] T::X::BD s bd kv::cs) (a9 f) b7:=by
 refine .tu (.pw (.cx<|.ca (.two (.lo f1)<|.lo f5) (gB 0 ag0 p0 (dh.mpr s1) λC1 x p1 x0 xs=>.cx<|.ca (.two (.lo f1) .k) (gB 0 ag0 p1 (by decide) λC2 m p2 m0 m3=>.nil<|.tp (au ag0) ?_)))) ag0 rfl;refine .tu (.pw (.cx<|.p2 (.ev (.lo f5)<|.p2 (.ev (.add (.lo ag0) .k)<|.ca (.two (.lo f1) .k) (gB 0 ag0 p2 (by decide) λC3 z p3 z0 z3=>.pl2<|.mn2 ?_))))) ag0 rfl;refine .cx<|.ca (.two (.lo f1)<|.lo ag0) (ML p3 m0 λC4 X1 v p4 hv=>.nil<|.tp (au ag0) ?_);refine .re [1,2] (.mg<|.re [2,0] ?_);have h:I7 (X1++X) pa tp s g T kv k:=⟨⟨h.ts.ps,h.ts.sm,h.ts.sg.mono λq hq=>bp _ hq⟩,bp _ h.pa,h.br,λi m=>(h.fy i m).mono λq hq=>bp _ hq⟩;have hv:=hv.mono (X':=X1++X) λq hq=>cJ _ hq;have e1:x<min (s:Int) (x+1+z):=yW.mpr ⟨xs,gg (za x)<|jc z0⟩;have e2:min (s:Int) (x+1+z)<=s:=yX _ _;generalize min (s:Int) (x+1+z)=e at e1 e2;refine xw x0 λb hb=>xw (Int.sub_nonneg_of_le<|bZ e1) λn hn=> ?_;subst hb;have en:e=(b:Int)+n:=by rw [<- hn,fG,nu]
 subst en;exact af0 (f:=fo (fo (fo (fo f 10 (some (.int (b:Int)))) 15 (some (.int m))) 11 (some (.int ((b:Int)+n)))) 17 (some v)) p4 h hs k5 hbl hbu f4 f8 (cz.mp (ua b n▸e2)) (dh.mp (Int.lt_of_add_lt_add_left ((dS (b:Int)).symm▸e1))) m0 m3 hv ag0 rfl ag0 rfl λC' X' g' T' kv' y a c=>nx C' X' g' T' kv' (fo (fo (fo (fo (fo f 10 (some (.int (b:Int)))) 15 (some (.int m))) 11 (some (.int ((b:Int)+n)))) 17 (some v)) 6 y) a c
theorem af2(p0:bX P C)(h:I7 X pa tp s g T kv 0)(s1:1<=s)(hs:s<=8)(hbl:(bl,O.list ((aT s).map λi=>.ref<|bd i))∈F)(hbu:(bu,cb tx mk ls pt zv tk ct (.ref pa) ov)∈F)(f1:f 1=some (.ref P))(f4:f 4=some (.ref bu))(f5:f 5=some (.int (s:Int)))(f8:f 8=some (.ref bl))(k:∀C X g T kv n y,bX P C->I7 X pa tp s g T kv n->W (d+9) F K (C::ZI tp [] T::X::BD s bd kv::cs) (a9<|ms f y) p):
 W (d+9) F K (C::ZI tp [] T::X::BD s bd kv::cs) (a9 f) (.for [16] (.aN<|ca 95 [lo 1,ci 4]) (sl b7)::p):=by
 refine .for<|Wi.aN (.ca (.two (.lo f1) .k)<|gB 0 ag0 p0 (by decide) λC1 x p1 x0 x4=> ?_);have j4:x.toNat<=4:=nj.mpr<|bZ x4;have ej:V.int x=V.int (x.toNat:Nat):=agX V.int (uz x0).symm;generalize x.toNat=j at j4 ej;intro Y w;refine w j ej (ae j4<|au ag0)<|Lo.f1 (vs:=(aT j).map λ(j:Nat)=>V.int<|0+(j:Int)) (p7P f P pa tp s bd cs) (λ_ _ _=>.aN) (λ_ _=>ag0) (λi v st K2 hv o nx=>sZ hv λlt ev=> ?_) (λst o=>k _ _ _ _ _ _ _ o.1 o.2) (((C1,X),g,T,kv),f) ⟨p1,h⟩ ag0 rfl;exact af1 (f:=fo (ms f st.2) 16<|some v) o.1 o.2 s1 hs (ae (cV lt) (ae j4<|by decide)) hbl hbu f1 f4 f5 f8 λC' X' g' T' kv' y a b=>nx (((C',X'),g',T',kv'),ms (fo (ms f st.2) 16<|some v) y) ⟨a,b⟩
end
variable{w:Wd}{a:Nat}{x:SE}{dd:Int->Nat}{g:V->V->Option Bool}{l:List Int}
inductive Sh(w:Wd)(i:Int):V->Ch->Prop
 |n:aI w i 2= .none->Sh w i .none []
 |e (q:Nat):aI w i 2≠ .none->0<i->aI w (i-1) 2=aI w i 2->Sh w i (.tup [.ref q,.tup [],.int (i+2)]) [(q,.list [])]
 |s (z:Int):aI w i 2≠ .none->¬(0<i/\aI w (i-1) 2=aI w i 2)->i<z->z<=w.sz->(∀j,i<=j->j<z->aI w j 2=aI w i 2)->(z=w.sz\/aI w z 2≠aI w i 2)->Sh w i (.tup [w.cd (aI w i 2),.tup ((mT w i).map V.int),.int (z+1)]) []
section
variable{i y:Int}{rl:Nat}{bd:Nat->Nat}
theorem iV{a b:V}{l m:List V}(h1:g a b=some true)(h2:fO g l m=some true):fO g (a::l) (b::m)=some true:=(show fO g (a::l) (b::m)=nI (g a b) (fO g l m) from ag0).trans ((agX (nI · (fO g l m)) h1).trans<|agX (nI<|some true) h2)
theorem qF:∀{l:List V},(∀v∈l,g v v=some true)->fO g l l=some true
 | [],_=>rfl
 |a::l,h=>iV (h a<|.head _) (qF λv hv=>h v<|.tail _ hv)
theorem eq_int:eJ H (n+1) (.int z) (.int z)=some true:=agX some<|agZ ag0
theorem M1:eJ H (n+2) (.tup (l.map V.int)) (.tup (l.map V.int))=some true:=qF λv hv=>let ⟨z,_,e⟩:=bB.mp hv;e▸eq_int
theorem eq_list(e:H[a]? = some (.list (l.map V.int)))(e2:H[b]? = some (.list (l.map V.int))):eJ H (n+2) (.ref a) (.ref b)=some true:=by show (H[a]?.bind λo=>H[b]?.bind λo'=>nJ _ a b o o')=_;rw [e,e2];show (bif a6 _ _ then _ else _)=_;rw [qR];exact qF λv hv=>let ⟨z,_,e⟩:=bB.mp hv;e▸eq_int
theorem TX.code(h:TX F w.cd v)(g:∀(c:Nat) (l:List Int),w.cd v= .ref c->(c,O.list<|l.map V.int)∈F->Y):Y:=bQ h λ_ h=>bQ h λc h=>bQ h λl h=>g c l h.2.1 h.2.2.2.1
theorem af3(h:VW F w)(hx:x∈lJ w i)(g:∀(c:Nat) (l:List Int),x.2.2.2= .ref c->(c,O.list<|l.map V.int)∈F->Y):Y:=by
 obtain ⟨e,he,hx⟩:=List.mem_flatMap.mp (e6.mem_iff.mp hx)
 have key:∀{m o:Int},3<=m->m<=4->x∈d4 w m o e->Y:=λ{m o} m3 m4 hs=>by
  cases q:bv (e.tl m) with
  |true=>rw [MC q] at hs;cases hs
  |false=>rw [MD q] at hs;cases cr.mp hs;exact TX.code (((h.ty e he m (aL (by decide) m3) m4).two (aL (by decide) m3)).resolve_left λc=>by rw [c] at q;cases q) g
 exact (b9.mp hx).elim (λhx=>key (by decide) (by decide) (qB hx).2) λhx=>key (by decide) (by decide) (qB hx).2
theorem af4(h:VW F w)(hH:∀q∈F,H[q.1]? = some q.2):bR H .ne (.tup<|(lJ w i).map qC) (.tup<|(lJ w i).map qC)=some false:=by
 show (fO (eJ H deep) _ _).map not=_;rw [qF]
 ·rfl
 ·intro v hv;obtain ⟨x,hx,e⟩:=bB.mp hv;subst e;refine af3 h hx λc l e1 e2=> ?_;refine qF λu hu=>(aO.mp hu).elim (λe=> ?_) λhu=>cr.mp hu▸rfl;subst e;rw [e1];exact eq_list (hH _ e2) (hH _ e2)
theorem M2(h1:i<z)(h2:z<=w.sz)(h3:∀j,i<=j->j<z->aI w j 2=aI w i 2)(g1:i<y)(g4:y=w.sz\/aI w y 2≠aI w i 2):z<=y:=
 cH.mp λq=>g4.elim (λe=>ny _<|gg (e▸q) h2) λe=>e<|h3 y (bZ g1) q
theorem af5(h:VW F w)(h0:0<=i)(h1:i<w.sz)(hH:∀q∈F,H[q.1]? = some q.2)(a:Sh w i v X)(b:Sh w i u X')(ha:∀q∈X,H[q.1]? = some q.2)(hb:∀q∈X',H[q.1]? = some q.2):eJ H deep v u=some true:=by
 induction a with
 |n a1=>
  induction b with
  |n=>rfl
  |e _ b1=>exact absurd a1 b1
  |s _ b1=>exact absurd a1 b1
 |e q a1 a2 a3=>
  induction b with
  |n b1=>exact absurd b1 a1
  |e q'=>exact iV (eq_list (n:=5) (l:=[]) (ha _<|.head _) (hb _<|.head _)) (iV rfl<|iV eq_int ag0)
  |s _ _ b2=>exact absurd ⟨a2,a3⟩ b2
 |s z a1 a2 z1 z2 z3 z4=>
  induction b with
  |n b1=>exact absurd b1 a1
  |e _ _ b2 b3=>exact absurd ⟨b2,b3⟩ a2
  |s y _ _ y1 y2 y3 y4=>
   have e:=ph (M2 z1 z2 z3 y1 y4)<|M2 y1 y2 y3 z1 z4;subst e;refine TX.code (((xl (m:=2) h h0 h1 (by decide)<|by decide).two<|by decide).resolve_left a1) λc l e1 e2=> ?_;rw [e1];refine qF λu hu=>(aO.mp hu).elim (λe=> ?_) λhu=>(aO.mp hu).elim (λe=> ?_) λhu=> ?_
   ·subst e;exact eq_list (hH _ e2) (hH _ e2)
   ·subst e;exact M1
   ·cases cr.mp hu;exact eq_int
end
variable{tt:Bool}
def Da:List S:=[ak 21 (Pl.pr .list [Pl.pr .add [ci 97,lo 20],ca 101 [lo 7,lo 8,lo 20],ca 102 [lo 7,lo 8,lo 20,lo 18]]),.expr (.lm .append (lo 21)<|el [ca 103 [lo 7,lo 8,lo 20]]),.ite (cm .ne (lo 13)<|lo 21) (sl [.ret cF])<|sl []]
def M3:List S:=ak 13 (Pl.pr .list [me (lo 19) 54 [Pl.pr .add [lo 20,ci 1]],me (lo 19) 56 [Pl.pr .add [lo 20,ci 1]],me (lo 19) 97 [Pl.pr .add [lo 20,ci 1]],me (lo 19) 98 [Pl.pr .add [lo 20,ci 1]]])::Da
def b8:List S:=[.ite (cm .ne (me (lo 19) 96 [Pl.pr .add [lo 20,ci 1]])<|ca 104 [lo 7,lo 20]) (sl [.ret cF]) (sl []),.ite (cm .lt (lo 20)<|lo 5) (sl M3)<|sl []]
section
variable{rl:Nat}{T:Ch}{bd:Nat->Nat}
theorem Wp.cv(q:∀R H,Hs F R cs H->bR H op v u=some tt)(k:KV (.bool tt) cs):Wp F KV cs (.cmp op) [v,u]:=.pr k λR H s Q q'=>by show wr (bR H op v u) H Q;rw [q R H s];exact q'
theorem M4(e:H[a]? = some (.list us))(e2:H[b]? = some (.list vs))(l:us.length=vs.length)(q:fO (eJ H deep) us vs=some true):bR H .ne (.ref a) (.ref b)=some false:=by show (H[a]?.bind λo=>(cW o).bind λxs=>H[b]?.bind λo'=>(cW o').bind λys=>FN (eJ H deep) xs ys)=_;rw [e,e2];show dq xQ (bif a6 us.length vs.length then _ else _)=_;rw [l,qR,cond_true,q];rfl
def r4(w:Wd)(all:Bool)(i:Nat)(v:V):List V:=[.int (97+(i:Int)),.tup<|(mT w i).map V.int,.int<|tA w all i,v]
theorem Db(h:VW F w)(h1:(i:Int)<w.sz)(s1:Sh w i v X)(s2:Sh w i u X')(f13:f 13=some (.ref A))(f21:f 21=some (.ref B))(k:K' (a9 f) (T::cs)):
 W d F (kb K K') (X':: [(B,.list<|r4 w all i u)]:: [(A,.list<|r4 w all i v)]::X::T::cs) (a9 f) [.ite (cm .ne (lo 13)<|lo 21) (sl [.ret cF]) (sl [])]:=
 .el (.cv (.lo f13) (.lo f21) λR H s=>M4 (us:=r4 w all i v) (vs:=r4 w all i u) (Fact.ix 2 ag0 R H s) (Fact.ix 1 ag0 R H s) ag0 (iV eq_int<|iV M1 (iV eq_int<|iV (af5 h (c6 i) h1 (λq hq=>Fact.fx hq R H s) s1 s2 (λq hq=>Fact.cx (gy _ 3 hq) R H s) λq hq=>Fact.cx (gy _ 0 hq) R H s) ag0))) (.dr 0 (.dr 0<|.dr 0 (.dr 0<|.nil k)))
theorem af6(h:VW F w)(g:LW F w rl bl dd bd)(h1:(i:Int)<w.sz)(s1:Sh w i v X)(f7:f 7=some (.ref rl))(f8:f 8=some (.ref bl))(f18:f 18=some (.bool all))(f20:f 20=some (.int (i:Int)))(f13:f 13=some (.ref A))(k:∀y,K' (a9<|fo f 21 y) (T::cs)):
 W (d+4) F (kb K K') ([(A,.list<|r4 w all i v)]::X::T::cs) (a9 f) Da:=by
 refine .an (.ls (.cons (.add .k<|.lo f20)<|.two (.ca (.cons (.lo f7) (.two (.lo f8)<|.lo f20))<|MA h g h1) (.ca (.cons (.lo f7)<|.cons (.lo f8) (.two (.lo f20)<|.lo f18))<|aeK (all:=all) h g h1))<|au ag0) ag0 λB=>.xp<|.CM (.lo ag0) (.ix 0 ag0) (.ca (.cons (.lo f7) (.two (.lo f8)<|.lo f20))<|aeS h g h1 (λe=> ?_) (λa1 a2 a3 q=> ?_) λa1 a2 z z1 z2 z3 z4=> ?_)
 ·exact λY w=>w 0 ag0 (au ag0) ⟨ag0,.pm (c1:=[]:: [(B,.list<|r4 _ all i .none)]:: [(A,.list<|r4 _ all i v)]::X::T::cs) (.refl _) (Db (f:=fo f 21 (some<|.ref B)) h h1 s1 (.n e) f13 rfl<|k _)⟩
 ·exact λY w=>w 1 ag0 (au ag0) ⟨ag0,Db (f:=fo f 21 (some<|.ref B)) h h1 s1 (.e q a1 a2 a3) f13 rfl<|k _⟩
 ·exact λY w=>w 0 ag0 (au ag0) ⟨ag0,.pm (c1:=[]:: [(B,.list (r4 _ all i<|.tup [_,.tup<|(mT _ i).map V.int,.int<|(z:Int)+1]))]:: [(A,.list<|r4 _ all i v)]::X::T::cs) (.refl _) (Db (f:=fo f 21 (some<|.ref B)) h h1 s1 (.s z a1 a2 (dh.mpr z1) z2 (λj j1 j2=>xw (aL (c6 i) j1) λn e=>by subst e;exact z3 n (cz.mp j1)<|dh.mp j2) z4) f13 rfl<|k _)⟩
theorem af7(h:VW F w)(hv:VV F w vi all)(g:LW F w rl bl dd bd)(t:dQ T)(h1:(i:Int)<=w.sz)(f5:f 5=some (.int w.sz))(f7:f 7=some (.ref rl))(f8:f 8=some (.ref bl))(f18:f 18=some (.bool all))(f19:f 19=some (.ref vi))(f20:f 20=some (.int (i:Int)))(k:∀T' x y,dQ T'->K' (a9<|fo (fo f 13 x) 21 y) (T'::cs)):
 W (d+13) F (kb K K') (T::cs) (a9 f) b8:=hv _ λ{u1 u2 nm hd nd} v1 v2 v3 v4=>by
 have pl:∀cs,cI (d+13) F cs (a9 f) [Pl.pr .add [lo 20,ci 1]] [.int ((i:Int)+1)]:=λcs=>.one (.add (.lo f20) .k);refine .iT (.p2 (.ev (.me (.lo f19) (.fx v1) rfl (pl _) (aey (d:=d+5) h hv (c6 i) h1)) (.ca (.two (.lo f7) (.lo f20)) (aeY h g t λT' t'=>.cv (λR H s=>af4 h λq hq=>Fact.fx hq R H s) ?_))));show W (d+13) F (kb K K') (T'::cs) (a9 f) [.ite (cm .lt (lo 20) (lo 5)) (sl M3) (sl [])];cases q:decide ((i:Int)<w.sz) with
 |false=>exact .el (.cm (.lo f20) (.lo f5)<|agX some q) (.nil<|k T' (f 13) (f 21) t')
 |true=>
  have h2:=agY q;have i0:=c6 i;have end':∀v X A,Sh w i v X->W (d+13) F (kb K K') ([(A,.list<|r4 w all i v)]::X::T'::cs) (a9<|fo f 13 (some<|.ref A)) Da:=λv X A s=>af6 (d:=d+9) h g h2 s f7 f8 f18 f20 ag0 λy=>k T' _ y t';refine .it (.cm (.lo f20) (.lo f5)<|agX some q)<|.bS (.pw (.co (.me (.lo f19) (.fx v1) ag0 (pl _)<|aen (d:=d+10) h hv i h2)<|.co (.me (.lo f19) (.fx v1) ag0 (pl _)<|Me (d:=d+4) h hv i0 h2) (.co (.me (.lo f19) (.fx v1) ag0 (pl _)<|aeh (d:=d+1) h hv i0 h2)<|.cx (.me (.lo f19) (.fx v1) ag0 (pl _)<|aei (d:=d) h hv i0 h2 (λe=> ?_) (λa1 a2 a3 q=> ?_) λa1 a2 z z1 z2 z3 z4=> ?_)))) ag0
  ·exact .nil<|.ls (au ag0) λA=>.pm (c1:=[(A,.list<|r4 w all i .none)]:: []::T'::cs) (.refl _) (end' _ _ A<|.n e)
  ·exact .nil (.ls (au ag0) λA=>end' _ _ A<|.e q a1 a2 a3)
  ·exact .nil<|.ls (au ag0) λA=>.pm (c1:=[(A,.list (r4 w all i<|.tup [w.cd (aI w i 2),.tup<|(mT w i).map V.int,.int<|z+1]))]:: []::T'::cs) (.refl _) (end' _ _ A<|.s z a1 a2 z1 z2 z3 z4)
end
variable{z:Zz}{TT:Tr Iv}{g:Int->Int->Option V}{e:Ent}
theorem af8{c d:List V}(h:O.inst a c=O.inst b d):a=b/\c=d:=by cases h;exact ⟨rfl,rfl⟩
noncomputable def xy(F:Ch)(v:V):V:=@Classical.epsilon V ⟨.none⟩ λc=>∃a n,v= .ref a/\(a,O.inst 9 [c,n])∈F
noncomputable def tH(R:List Rw)(n:Int):Nat:=(R[n.toNat]?.map Rw.da).getD 0
section
variable{P:Ch}{dd rl:Nat}{T:Tr Ov}{bd:Nat->Nat}
theorem M5:∀{L:Ch},(L.map (·.1)).Nodup->(a,o)∈L->(a,o')∈L->o=o'
 |x::L,nd,h,h'=>have nd:=dF.mp nd
  (aO.mp h).elim (λe=>(aO.mp h').elim (λe'=>(t6<|e.trans e'.symm).2) λh'=>absurd (bB.mpr ⟨_,h',(agX lR e:a=x.1)⟩) nd.1) λh=>(aO.mp h').elim (λe'=>absurd (bB.mpr ⟨_,h,(agX lR e':a=x.1)⟩) nd.1) λh'=>M5 nd.2 h h'
theorem VB.cd(h:VB F m v)(nf:(F.map (·.1)).Nodup):VN F (xy F) m v:=by
 obtain ⟨cd,h⟩:=h
 induction h with
 |n m=>exact .n m
 |a k h=>exact .a k h
 |l=>exact .l
 |b k h=>exact .b k h
 |t m v h x=>obtain ⟨a,c,cs,e1,e2,e3,e4,e5⟩:=x;obtain ⟨a',n',q1,q2⟩:=@Classical.epsilon_spec V (λc=>∃a n,v= .ref a/\(a,O.inst 9 [c,n])∈F) ⟨.ref c,a,.none,e1,e3⟩;have q3:=KM (e1.symm.trans q1);subst q3;exact .t m v h ⟨a,c,cs,e1,(bt (af8 (M5 nf q2 e3)).2).1,e3,e4,e5⟩
theorem M6(hz:Z.map (·.1)=R)(hN:R.map Rw.n=(aT n).map λ(j:Nat)=>(j:Int))(h:z∈Z):z.1∈R/\tH R z.1.n=z.1.da:=by have hm:z.1∈R:=hz▸eT h;obtain ⟨j,hj,e⟩:=Et hm;have e1:R[j]? = some z.1:=fF.mpr ⟨hj,e⟩;refine ⟨hm, ?_⟩;unfold tH;rw [xu hN e1,oR,e1];rfl
theorem af9(hz:Z.map (·.1)=R):(Z.map f6).map Ent.n=R.map Rw.n:=by rw [<- hz,iG,iG];rfl
theorem aga(hru:Ru F ru li dd pd)(hho:(hm,O.inst 6 [.ref ta,.ref da,.ref ru])∈F)(hdk:(da,O.dict<|gV Z)∈F)(htr:∀q∈ZO ta [.int cnt] [] T,q∈F)(ob:OB F hm T Z E')(hz:Z.map (·.1)=R)(hN:R.map Rw.n=(aT n).map λ(j:Nat)=>(j:Int))(n4:n<=4):OW F hm ta da ru (Z.map f6) E' T:=by
 have e1:=(af9 hz).trans hN;refine ⟨⟨li,dd,pd,hru⟩,hho,hdk,⟨_,htr⟩,ob.so,ob.io,ob.pm,ob.en, ?_, ?_⟩
 ·rw [e1];exact kF.mpr (Ea.imp λh q=>h (uv q))
 ·exact ae (aF<|(aG (f:=Ent.n)).symm.trans ((agX cu e1).trans<|(aG _).trans c5))<|kD n4
theorem agb(nf:(F.map (·.1)).Nodup)(ow:OW F hm ta da ru (Z.map f6) E' T)(hz:Z.map (·.1)=R)(hR:∀r∈R,gU F s r)(i7:I7 F pa tp s g TT kv k)(hti:∀q∈ZI tp [] TT,q∈F)(htn:((ZI tp [] TT).map (·.1)).Nodup)(s3:1<=s)(s8:s<=8)(hbu:(bu,cb tx mk ls pt ((s:Int)+1) tk ct (.ref pa)<|.ref hm)∈F)(htx:(tx,O.inst 15 [.int 8,.ref ce,.int s,.int 8])∈F)(hce:(ce,O.list us)∈F)(hus:∀i:Nat,i<s->us[i]? = some (.int<|97+i))(ul:us.length=8):
 VW F ⟨hm,ta,da,ru,pa,tp,bu,tx,Z.map f6,E',T,s,g,TT,xy F⟩:=by
 have row:∀e∈Z.map f6,∃z:Zz,e=f6 z/\gU F s z.1:=λe he=>let ⟨z,h,q⟩:=bB.mp he;⟨z,q.symm,hR _ (hz▸eT h)⟩
 refine ⟨ow,i7.ts,hti,htn,i7.pa,dh.mpr s3,cz.mpr (ae s8<|by decide),λe he m m0 m4=> ?_,λi i0 i1 m m0 m2=>(i7.fy i m).cd nf,λe he=> ?_,λe he=> ?_,λX k=>k hbu,⟨_,ce,8,us,htx,hce,λi hi=>hus i<|dh.mp hi, ?_,ae (aF ul)<|by decide⟩⟩
 ·obtain ⟨z,rfl,w⟩:=row e he;show VN F (xy F) m ((lk z.1.kv m).getD .none);cases c:lk z.1.kv m with
  |none=>exact .n m
  |some v=>exact ((w.kv.ky _<|jQ c).2.2).cd nf
 ·obtain ⟨z,rfl,w⟩:=row e he;exact w.b
 ·obtain ⟨z,rfl,w⟩:=row e he;exact w.pr
 ·rw [ul];show ((8:Nat):Int)-8+s=s;exact dR _
theorem agc(hE:w.E=Z.map f6)(hf:w.f=g)(hs:w.sz=s)(hz:Z.map (·.1)=R)(hN:R.map Rw.n=(aT n).map λ(j:Nat)=>(j:Int))(hR:∀r∈R,gU F s r)(hrl:(rl,O.list<|R.map iy)∈F)(hbl:(bl,O.list ((aT s).map λi=>.ref<|bd i))∈F)(hbd:∀q∈BD s bd kv,q∈F)(i7:I7 P pa tp s g TT kv k):LW F w rl bl (tH R) bd:=by
 have e0:(Z.map f6).map (fZ<|tH R)=R.map iy:=by rw [iG, <- hz,iG];refine q7 λz h=> ?_;show V.tup [_,_,_,_,.ref<|tH _ z.1.n]=V.tup [_,_,_,_,.ref z.1.da];rw [hz,(M6 hz hN h).2];rfl
 refine ⟨hE▸e0▸hrl,λe he=> ?_, ?_,λi hi=> ?_⟩
 ·obtain ⟨z,h,rfl⟩:=bB.mp (hE▸he);obtain ⟨h1,h2⟩:=M6 hz hN h;exact ⟨z.1.kv,h2▸(hR _ h1).da,λm _ _=>agX (·.getD V.none) tF⟩
 ·rw [hs,oR];exact hbl
 ·rw [hs] at hi;have hi:=dh.mp hi;refine ⟨kv i,hbd _ (bB.mpr ⟨i,iB.mpr hi,ag0⟩),λm _ _=> ?_⟩;unfold fY;rw [hf];exact (i7.br i hi).2 m
end
variable{l:Loc}
noncomputable def mc(f y:Nat->Option V):Nat->Option V:=λn=>bif a6 n 13||(a6 n 20||a6 n 21) then y n else f n
def cP(f:Nat->Option V):Lf:=⟨Ch×(Nat->Option V),λ_ i=>a9<|mc f i.2,λ_ i=>[i.1],λ_ i=>dQ i.1⟩
def M7:List S:=[.for [20] (.aN<|Pl.pr .add [lo 5,ci 1]) (sl b8),.ret cT]
def M8:List S:=.ite (cm .ne (Pl.pr .list [me (lo 19) 9 [],me (lo 19) 10 [],me (lo 19) 54 [ci 0],me (lo 19) 54 [Pl.pr .add [lo 5,ci 1]]])<|Pl.pr .list [ci 1,Pl.pr .add [lo 5,ci 1],Pl.pr .neg [ci 1],Pl.pr .neg [ci 1]]) (sl [.ret cF]) (sl [])::M7
def M9:E:=nw 14 [lo 4,nw 12 [ci 10,ci 11,ci 12,ci 13,ci 14],nw 13 [lo 18,Pl.pr (.dict [30,31]) [ci 1,ci 2]]]
def mC:List S:=ak 18 (cm .eq (ca 95 [lo 1,ci 3])<|ci 0)::ak 19 M9::M8
section
variable{rl:Nat}{T:Ch}{b:Bool}{bd:Nat->Nat}
theorem agd(g4:gl l 4=some (.ref bu))(BE:gl l 18=some (.bool b))(k:∀vi m hd nd nm,KV (.ref vi) ([(vi,.inst 14 [.ref m,.int 1,.ref bu,.ref nm,.ref hd])]:: [(m,.list [])]:: [(hd,.inst 13 [.bool b,.ref nd])]:: [(nd,.dict [(30,.int 1),(31,.int 2)])]:: [(nm,.inst 12 [.int 10,.int 11,.int 12,.int 13,.int 14])]::cs)):We (d+2) F KV cs l M9:=by refine .qE (λ_ k=>k)<|.co (.lo g4) (.cx<|.new (λ_ k=>k) (.cons .k<|.cons .k (.cons .k<|.two .k .k)) λnm=>aw abc ag0 (.put (.lo ag0) (.lo ag0) 0 ag0 rfl<|.put (.lo ag0) (.lo ag0) 0 ag0 rfl (.put (.lo ag0) (.lo ag0) 0 ag0 rfl<|.put (.lo ag0) (.lo ag0) 0 ag0 rfl (.put (o':=.inst 12 [.int 10,.int 11,.int 12,.int 13,.int 14]) (.lo ag0) (.lo ag0) 0 ag0 rfl<|.nil ⟨ag0, ?_⟩))));refine .ef<|.qE (λ_ k=>k) (.co (.lo BE)<|.ef (.dict (.two .k .k) (by decide) λnd hd=>aw abd rfl<|.put (.lo ag0) (.lo ag0) 0 ag0 rfl (.put (o':=.inst 13 [.bool b,.ref nd]) (.lo ag0) (.lo ag0) 0 ag0 rfl<|.nil ⟨ag0,λvi=> ?_⟩)));exact aw abf ag0 (.xp<|.cw (.co (.lo ag0)<|.ef (.ls .nil (bq _) λm=>aw abb rfl<|.put (.lo ag0) (.lo ag0) 1 ag0 rfl (.put (o':=.inst 14 [.ref m,.int 1]) (.lo ag0) (.lo ag0) 1 ag0 rfl<|.nil ⟨ag0,.re [1] (.put (.lo ag0) (.lo ag0) 0 ag0 rfl<|.put (.lo ag0) (.lo ag0) 0 ag0 rfl (.put (o':=.inst 14 [.ref m,.int 1,.ref bu,.ref nm,.ref hd]) (.lo ag0) (.lo ag0) 0 ag0 rfl<|.nil ⟨ag0,k vi m hd nd nm⟩))⟩))))
theorem Mt.nd{α:Type}{mm:(α->Hp->Prop)->Hp->Prop}{KA:α->List Ch->Prop}(k:((cs.flatten++F).map (·.1)).Nodup->Mt F cs mm KA):Mt F cs mm KA:=λR H Q s q=>k (s.1.sublist<|((E4 R F).append_left cs.flatten).map _) R H Q s q
theorem M':∀(cs:List Ch) (i:Nat),(nt cs i).Sublist cs.flatten
 | [],_=>.slnil
 |c::r,0=>Dq c r.flatten
 |c::r,i+1=>(M' r i).trans<|E4 c r.flatten
theorem age(h:VW F w)(hv:VV F w vi all)(g:LW F w rl bl dd bd)(t:dQ T)(hs:w.sz=s)(s8:s<=8)(f5:f 5=some (.int (s:Int)))(f7:f 7=some (.ref rl))(f8:f 8=some (.ref bl))(f18:f 18=some (.bool all))(f19:f 19=some (.ref vi))(k:∀l T',dQ T'->K (.ret<|.bool true,l) [T']):W (d+13) F K [T] (a9 f) M8:=hv _ λ{u1 u2 nm hd nd} v1 v2 v3 v4=>by have f5':f 5=some (.int w.sz):=hs▸f5;refine .iT (.p2<|.ls (vs:=[.int 1,.int<|w.sz+1,.int<|-1,.int<|-1]) (.cons (.me (.lo f19) (.fx v1) ag0 .nil<|CL (d:=d+11) h hv) (.cons (.me (.lo f19) (.fx v1) ag0 .nil<|L7 (d:=d+11) h hv)<|.two (.me (.lo f19) (.fx v1) ag0 (.one .k)<|Mm (d:=d+10) h hv (.inl<|by decide)) (.me (.lo f19) (.fx v1) ag0 (.one<|.add (.lo f5') .k)<|Mm (d:=d+10) h hv (.inr<|eU _)))) (au ag0) λA=>.ls (vs:=[.int 1,.int<|w.sz+1,.int<|-1,.int<|-1]) (.cons .k<|.cons (.add (.lo f5') .k) (.two (.neg .k)<|.neg .k)) (au ag0) λB=>.cv (λR H s=>M4 (Fact.ix 1 ag0 R H s) (Fact.ix 0 ag0 R H s) ag0 (iV eq_int<|iV eq_int (iV eq_int<|iV eq_int ag0))) ?_);show W (d+13) F K ([(B,.list [.int 1,.int<|w.sz+1,.int<|-1,.int<|-1])]:: [(A,.list [.int 1,.int<|w.sz+1,.int<|-1,.int<|-1])]:: [T]) (a9 f) M7;refine .dr 0 (.dr 0<|.f1 (vs:=(aT<|s+1).map λ(j:Nat)=>V.int<|0+(j:Int)) (.aN (n:=s+1) (.ie (x:=(s:Int)+1) (.add (.lo f5) .k) ag0) (ae (i9 s8)<|au ag0)) (cP f) (λ_ _ _=>.aN) (λ_ _=>ag0) (λj v st K2 hv' o nx=>sZ hv' λlt ev=> ?_) (λst o=>.ret .k<|k _ st.1 o) (T,f) t ag0 rfl);subst ev;exact af7 (d:=d) (f:=fo (mc f st.2) 20 (some<|.int (j:Int))) h hv g o (hs▸cz.mpr (o8 lt)) f5' f7 f8 f18 f19 ag0 λT' x y t'=>nx (T',fo (fo (fo (mc f st.2) 20 (some<|.int (j:Int))) 13 x) 21 y) t'
end
variable{dd:Nat}{T0:Ch}
section
variable{rl P:Nat}{Xo F':Ch}{T:Tr Ov}{bd:Nat->Nat}
theorem OB.mono(q:∀q∈X,q∈F')(o:OB X hm T Z E'):OB F' hm T Z E':=⟨o.so,o.bk,o.io,o.pm,λe he=>(o.en e he).imp λ_ h=>h.mono q⟩
theorem I7.mono(q:∀q∈X,q∈F')(o:I7 X pa tp s g TT kv k):I7 F' pa tp s g TT kv k:=⟨⟨o.ts.ps,o.ts.sm,o.ts.sg.mono q⟩,q _ o.pa,o.br,λi m=>(o.fy i m).mono q⟩
theorem agf(p:bX P C)(i7:I7 X pa tp s g TT kv k)(ob:OB Xo hm T Z E')(t:dQ T0)(hru:Ru F ru li dd pd)(hho:(hm,O.inst 6 [.ref ta,.ref da,.ref ru])∈F)(hz:Z.map (·.1)=R)(hN:R.map Rw.n=(aT n).map λ(j:Nat)=>(j:Int))(n4:n<=4)(hR:∀r∈R,gU F s r)(hrl:(rl,O.list<|R.map iy)∈F)(hbl:(bl,O.list ((aT s).map λi=>.ref<|bd i))∈F)(s1:1<=s)(s8:s<=8)(hbu:(bu,cb tx mk ls pt ((s:Int)+1) tk ct (.ref pa)<|.ref hm)∈F)(htx:(tx,O.inst 15 [.int 8,.ref ce,.int s,.int 8])∈F)(hce:(ce,O.list us)∈F)(hus:∀i:Nat,i<s->us[i]? = some (.int<|97+i))(ul:us.length=8)(f1:f 1=some (.ref P))(f4:f 4=some (.ref bu))(f5:f 5=some (.int (s:Int)))(f7:f 7=some (.ref rl))(f8:f 8=some (.ref bl))(kk:∀l c T',dQ T'->K (.ret<|.bool true,l) [c,T']):
 W (d+13) F K (C::ZI tp [] TT::X::BD s bd kv::ZO ta [.int cnt] [] T:: [(da,.dict<|gV Z)]::Xo:: [T0]) (a9 f) mC:=by
 refine .bS (.p2<|.ca (.two (.lo f1) .k) (gB 0 ag0 p (by decide) λC' x p' x0 x3=>.ev .k<|Wp.cm ag0 ?_)) ag0;refine .dr 0<|.bS (agd (bu:=bu) (b:=decide<|x=0) f4 ag0 λvi m hd nd nm=> ?_) ag0
 let c11:List Ch:=[[(vi,.inst 14 [.ref m,.int 1,.ref bu,.ref nm,.ref hd])],[(m,.list [])],[(hd,.inst 13 [.bool (decide (x=0)),.ref nd])],[(nd,.dict [(30,.int 1),(31,.int 2)])],[(nm,.inst 12 [.int 10,.int 11,.int 12,.int 13,.int 14])],ZI tp [] TT,X,BD s bd kv,ZO ta [.int cnt] [] T,[(da,.dict (gV Z))],Xo]
 refine .pm (c1:=[c11.flatten,T0]) (.of_eq<|EK (L₁:=c11) (L₂:=[T0]))<|Mt.lend λ_=>Mt.nd λnf=> ?_;have nf:((c11.flatten++F).map (·.1)).Nodup:=nf.sublist<|(E4 _ _).map _;have inn:∀i,∀q∈nt c11 i,q∈c11.flatten++F:=λi q h=>cJ _<|gy c11 i h;have up:∀q∈F,q∈c11.flatten++F:=λq h=>bp _ h;have htn:((ZI tp [] TT).map (·.1)).Nodup:=nf.sublist<|((M' c11 5).trans<|Dq _ _).map _;have i7':=i7.mono<|inn 6;have hR':∀r∈R,gU (c11.flatten++F) s r:=λr h=>(hR r h).mono up;have ow:=aga (⟨up _ hru.a,up _ hru.b⟩:Ru (c11.flatten++F) ru li dd pd) (up _ hho) (inn 9 _<|.head _) (inn 8) (ob.mono<|inn 10) hz hN n4;have vw:=agb nf ow hz hR' i7' (inn 5) htn s1 s8 (up _ hbu) (up _ htx) (up _ hce) hus ul;have lw:=agc (rl:=rl) (w:=⟨hm,ta,da,ru,pa,tp,bu,tx,Z.map f6,E',T,s,g,TT,xy<|c11.flatten++F⟩) ag0 rfl ag0 hz hN hR' (up _ hrl) (up _ hbl) (inn 7) i7';exact age (d:=d) (f:=fo (fo f 18 (some<|.bool (decide<|x=0))) 19 (some<|.ref vi)) vw (λY k=>k (inn 0 _<|.head _) (inn 4 _<|.head _) (inn 2 _<|.head _) (inn 3 _<|.head _)) lw t ag0 s8 f5 f7 f8 ag0 rfl λl T' t'=>kk l _ T' t'
end
variable{iv:Nat}{q:E}{e:V}{f:Int->Int->Option V}
theorem agg(h:0<s)(g:gl l 5=some (.int (s:Int)))(k:∀pa tp iv pl,KV (.ref pa) (ni iv ((s:Int)+0+0) pl .none .none .none:: [(tp,.inst 1 [.ref iv])]:: [(pl,.list [])]:: [(pa,.inst 7 [.ref tp])]::cs)):We (d+3) F KV cs l (nw 7 [lo 5]):=
 .new (λ_ k=>k) (.one<|.lo g) λpa=>aw aa7 ag0 (.asg<|.qE (λ_ k=>k) (.co (.lo ag0)<|.ef (.ls .nil (bq _) λpl tp=>aw aa0 rfl<|.asg (We.dp (.cm (.lo ag0) .k<|agX some (agZ<|dh.mpr h))<|.new (λ_ k=>k) (.two (.ie (.lo ag0) ((dS _).trans<|dS _).symm)<|.lo ag0) λiv=>Ku.cl [0] ag0 ⟨ag0,.at (.lo ag0) 1 ag0 rfl<|.nil ⟨ag0,.at (.lo ag0) 3 ag0 rfl<|.nil ⟨ag0,k pa tp iv pl⟩⟩⟩))))
theorem agh(g:gl l 3=some (.ref ru))(k:∀hm ta da,KV (.ref hm) ([(da,.dict [])]:: [(ta,.inst 3 [.none,.int 0])]:: [(hm,.inst 6 [.ref ta,.ref da,.ref ru])]::cs)):We (d+2) F KV cs l (nw 6 [lo 3]):=
 .new (λ_ k=>k) (.one<|.lo g) λhm=>aw aa6 rfl<|.asg (.new (λ_ k=>k) .nil λta=>aw aa2 rfl<|.put .k (.lo ag0) 0 ag0 rfl (.put .k (.lo ag0) 0 ag0 rfl<|.nil ⟨ag0,.at (.lo ag0) 1 ag0 rfl (.asg<|.dict .nil ⟨ag0,.nil,by decide⟩ λda=>.at (.lo ag0) 2 ag0 rfl (.put (.lo ag0) (.lo ag0) 2 ag0 rfl<|.nil ⟨ag0,k hm ta da⟩))⟩))
def bf(bd:Nat->Nat)(i a:Nat):Nat->Nat:=λj=>bif a6 j i then a else bd j
theorem Na{bd:Nat->Nat}(h:j<i):bf bd i a j=bd j:=agX (λb=>bif b then a else bd j) (uk.mpr λc=>lP h<|jI c)
theorem Nb{bd:Nat->Nat}:bf bd i a i=a:=agX (λb=>bif b then a else bd i)<|qR i
theorem agi{bd:Nat->Nat}:BD (i+1) (bf bd i a) (λ_=>[])=BD i bd (λ_=>[])++ [(a,.dict [])]:=by
 unfold BD;rw [E3,bK];refine congr (agX PL (q7 λj hj=> ?_)) ?_
 ·rw [Na (iB.mp hj)]
 ·show [(bf bd i a i,O.dict [])]=_;rw [Nb]
theorem agj(h8:s<=8)(g:gl l 5=some (.int (s:Int)))(BF:aR 22 l.length)(k:∀bl bd,KV (.ref bl) ([(bl,.list ((aT s).map λi=>.ref<|bd i))]::BD s bd (λ_=>[])::cs)):We d F KV cs l (.comp [22] (.aN<|lo 5) (el [])<|Pl.pr (.dict []) []):=by
 have hl:s<=lim:=ae h8<|au ag0;refine .comp (Wi.aN<|.ev (.lo g) λY w=>w s ag0 hl λR H Q st q=> ?_);refine BH (vs:=(aT s).map λ(j:Nat)=>V.int<|0+(j:Int)) (λi acc h=>∃bd,Hs F R (BD i bd (λ_=>[])::cs) h/\acc=(aT i).map λj=>.ref<|bd j) (λi acc h _=>JQ) (λi acc h v kk hv w hk=> ?_) (λacc h w=> ?_) ⟨λ_=>0,st,ag0⟩
 ·obtain ⟨bd,sat,e⟩:=w;refine ⟨_,wU BF,qj.mp ?_⟩;show aH Mine.G (acl d) (Pl.pr (.dict []) []) (Wl.st l 22 v) h λx h4=>kk (acc++ [x]) h4;refine (We.dict (KV:=λv c=>∃a,v= .ref a/\c= [(a,.dict [])]::BD i bd (λ_=>[])::cs) .nil ⟨rfl,.nil,by decide⟩ λa=>⟨a,rfl,rfl⟩) R h _ sat λv c H2 hv s2=> ?_;obtain ⟨a,e1,e2⟩:=hv;refine hk _ _ ⟨bf bd i a,(e2▸s2).perm ?_, ?_⟩
  ·rw [e,e1,E3,bK];refine congr (agX PL (q7 λj hj=> ?_)) ?_
   ·rw [Na (iB.mp hj)]
   ·show [V.ref a]= [.ref (bf bd i a i)];rw [Nb]
  ·rw [agi];exact (eW _ _ _).trans (.of_eq (aJ _ _ _).symm)
 ·obtain ⟨bd,sat,e⟩:=w;rw [aG,c5] at sat e;exact ⟨e▸ae (aF ((aG _).trans c5)) hl,q _ _ _ (k h.length bd) (e▸sat.new)⟩
theorem agk(hs:0<s)(hf:f=λ_ _=>none):I7 [(pl,.list []),(pa,.inst 7 [.ref tp])] pa tp s f (.nd iv ((s:Int),pl) .nil .nil) (λ_=>[]) 0:=by subst hf;refine ⟨⟨λe he=>cr.mp he▸dh.mpr hs,(dS _).trans<|dS _,⟨[],⟨⟨.head _,bq _,.nil,λ_ h=>absurd h du⟩,λ_ h=>absurd h du⟩,λ_ _ _ _=>ag0⟩,trivial⟩,.tail _<|.head _,λi _=>⟨cf _,λ_=>ag0⟩,λ_ _=>.none⟩
variable{f:Nat->Option V}{X0:Ch}
def mB:List S:=.for [16] (.aN<|ca 95 [lo 1,ci 4]) (sl b7)::mC
def mA:List S:=.for [9,10,11,12,13] (.seq<|lo 7) (sl b6)::mB
def S1:S:=.ag (.tup<|tl [.loc 1,.loc 2])<|Pl.pr .tup [ca 94 [lo 0],nw 19 [ci 100]]
def S2:S:=.ag (.tup<|tl [.loc 3,.loc 4,.loc 5])<|Pl.pr .tup [nw 4 [lo 2],nw 17 [ci 1,Pl.cs 13],Pl.pr .add [ci 3,ca 95 [lo 1,ci 6]]]
def S3:S:=.expr<|ca 93 [lo 4,.comp [22] (.aN<|lo 5) (el [])<|Pl.pr .add [ci 97,lo 22]]
def S4:S:=.ag (.tup<|tl [.attr (lo 4) 37,.attr (lo 4) 32])<|Pl.pr .tup [nw 7 [lo 5],nw 6 [lo 3]]
def S5:S:=.ag (.tup<|tl [.loc 7,.loc 8])<|Pl.pr .tup [ca 97 [lo 1,lo 5],.comp [22] (.aN<|lo 5) (el [])<|Pl.pr (.dict []) []]
noncomputable def mU(s:Nat):List V:=(aT s).map λ(j:Nat)=>.int<|97+(j:Int)
noncomputable def Dc(li dd:Nat):O:=.inst 4 [.ref li,.none,.bool true,.int 100,.int 101,.int 102,.int 103,.int 104,.ref dd]
noncomputable def tI(pd:Nat):O:=.inst 19 [.int 100,.none,.bool true,.ref pd]
section
variable{md rl P:Nat}{bd:Nat->Nat}
theorem agl(m:Fact F cs 0 (.fix ns))(f0:f 0=some (.ref 0))(k:∀P C li pd,bX P C->W (d+13) F K ([(pd,.dict [])]:: [(li,tI pd)]::C::cs) (a9<|fo (fo f 1 (some<|.ref P)) 2 (some<|.ref li)) p):W (d+13) F K cs (a9 f) (S1::p):=
 .tu (.pw (.cx<|.ca (.one<|.lo f0) (ae5 (d:=d+12) m λP C h=>.ef<|.new (λ_ k=>k) (.one .k) λli=>aff (d:=d+12) λpd=>⟨ag0,.tp (au ag0)<|k P C li pd h⟩))) ag0 rfl
theorem agm(h:bX P C)(f1:f 1=some (.ref P))(f2:f 2=some (.ref li))(k:∀C' s dd ru bu ls md mk ce tx,bX P C'->3<=s->s<=8->W (d+13) F K (C':: [(bu,cb tx mk ls 1 1 1 1 .none .none)]:: [(ls,.list [])]:: [(md,.dict [])]:: [(mk,.inst 16 [.ref md])]:: [(ce,.list (cg 8<|.int 0))]:: [(tx,.inst 15 [.int 8,.ref ce,.int 0,.int 8])]:: [(dd,.dict [])]:: [(ru,Dc li dd)]:: [(pd,.dict [])]:: [(li,tI pd)]::cs) (a9<|fo (fo (fo f 3 (some<|.ref ru)) 4 (some<|.ref bu)) 5 (some<|.int (s:Nat))) p):W (d+13) F K ([(pd,.dict [])]:: [(li,tI pd)]::C::cs) (a9 f) (S2::p):=
 .asg (.pw (.cx<|.new (λ_ k=>k) (.one<|.lo f2) λru=>afg (d:=d+11) (.ix 1 ag0) λdd=>⟨ag0,.cx<|.new (λ_ k=>k) (.two .k .k) λbu=>afl (d:=d+11) λls md mk ce tx=>⟨ag0,.ef (.p2<|.ev .k (.ca (.two (.lo f1) .k)<|gB (d:=d+12) 10 ag0 h (by decide) λC' x p' x0 x6=>.add (xw (lS (by decide:(0:Int)<=3) x0) λs e=>by have h3:3<=s:=cz.mp<|e▸jc x0;have h8:s<=8:=cz.mp (aL (lW e.symm)<|lX (uA.mp (x6:x<5+1):x<=5) 3);rw [e];exact .tp (au ag0)<|Wt.tup ag0 (.cons<|.lo ag0 (.cons<|.lo ag0 (.cons<|.lo ag0 (.nil<|k C' s dd ru bu ls md mk ce tx p' h3 h8)))))))⟩⟩))
theorem agn(s3:3<=s)(s8:s<=8)(f4:f 4=some (.ref bu))(f5:f 5=some (.int (s:Nat)))(k:W (d+13) F K ([(bu,cb tx mk ls (1+s) (1+s) 2 2 .none .none)]:: [(tx,.inst 15 [.int 8,.ref ce,.int s,.int 8])]:: [(ce,.list<|mU s++(cg 8<|.int 0).drop s)]::C::cs) (a9 f) p):W (d+13) F K (C:: [(bu,cb tx mk ls 1 1 1 1 .none .none)]:: [(ls,.list [])]:: [(md,.dict [])]:: [(mk,.inst 16 [.ref md])]:: [(ce,.list (cg 8<|.int 0))]:: [(tx,.inst 15 [.int 8,.ref ce,.int 0,.int 8])]::cs) (a9 f) (S3::p):=by have ln:(mU s).length=s:=(aG _).trans c5;have sl:s<=lim:=ae s8<|au ag0;rw [<- ln] at k;refine .xp<|.cw (.co (.lo f4)<|.ef (En.tz (l:=a9 f) (it:=.aN<|lo 5) (xs:=aT s) (g:=λ(j:Nat)=>.int<|0+(j:Int)) (f:=λ(j:Nat)=>V.int<|97+(j:Int)) (.aN (.lo f5) sl) (λ_=>.aN) (ae (aF c5) sl) ag0 (λj _ X y=>y .nil<|.ie (.add .k (.ie (.lo ag0)<|dR _)) ag0) _ λcl=>Mt.perm (iR [2,6,5,0,1,1,1] _)<|afv (d:=d+8) (us:=mU s) (ln.symm▸bC (by decide) s3) (ln.symm▸s8) ⟨ag0,.dr 3<|.dr 3 (.dr 3<|.dr 3 ?_)⟩));rw [ln] at k ⊢;exact k
end
variable{L:List V}
section
variable{md rl P:Nat}{bd:Nat->Nat}
theorem ago(s1:0<s)(f3:f 3=some (.ref ru))(f4:f 4=some (.ref bu))(f5:f 5=some (.int (s:Nat)))(k:∀hm ta da pa tp iv pl,W (d+13) F K ([(da,.dict [])]:: [(ta,.inst 3 [.none,.int 0])]:: [(hm,.inst 6 [.ref ta,.ref da,.ref ru])]::ni iv ((s:Int)+0+0) pl .none .none .none:: [(tp,.inst 1 [.ref iv])]:: [(pl,.list [])]:: [(pa,.inst 7 [.ref tp])]:: [(bu,cb tx mk ls pt zv tk ct (.ref pa)<|.ref hm)]::cs) (a9 f) p):W (d+13) F K ([(bu,cb tx mk ls pt zv tk ct .none .none)]::cs) (a9 f) (S4::p):=
 .asg (.pw (.cx<|agg (d:=d+10) s1 f5 λpa tp iv pl=>.ef (agh (d:=d+11) f3 λhm ta da=>.tp (au ag0)<|Wt.tup ag0 (.cons<|.at (o':=cb tx mk ls pt zv tk ct (.ref pa) .none) (.lo f4) 7 ag0 rfl (.cons<|.at (o':=cb tx mk ls pt zv tk ct (.ref pa)<|.ref hm) (.lo f4) 7 ag0 rfl (.nil<|k hm ta da pa tp iv pl))))))
theorem agp(h:bX P C)(s1:1<=s)(s8:s<=8)(f1:f 1=some (.ref P))(f5:f 5=some (.int (s:Nat)))(k:∀C' X0 R n rl bl bd,RO P s n C' X0 R->n<=4->W (d+13) F K ([(bl,.list ((aT s).map λi=>.ref<|bd i))]::BD s bd (λ_=>[])::C'::X0:: [(rl,.list<|R.map iy)]::cs) (a9<|fo (fo f 7 (some<|.ref rl)) 8 (some<|.ref bl)) p):W (d+13) F K (C::cs) (a9 f) (S5::p):=
 .tu (.pw<|.cx (.ca (.two (.lo f1)<|.lo f5)<|afb (d:=d+10) h (cz.mpr s1) λC' X0 R n rl p' o n4=>.ef (agj s8 f5 ag0 λbl bd=>.tp (au ag0)<|k C' X0 R n rl bl bd o n4))) ag0 rfl
theorem Bz(h:i<s):(mU s++L)[i]? = some (.int<|97+i):=by unfold mU;rw [oD (lU h ((aG _).trans c5).symm)];rw [fb,mV h];rfl
theorem agq(h:s<=8):(mU s++(cg 8<|V.int 0).drop s).length=8:=by rw [aX,iA,PK];exact (agX (· + (8-s))<|(aG _).trans c5).trans<|Nat.add_sub_cancel' h
theorem agr(p:bX P C)(i7:I7 X pa tp s g TT kv 0)(t:dQ T0)(hru:(ru,Dc li dd)∈F)(hli:(li,tI pd)∈F)(hho:(hm,O.inst 6 [.ref ta,.ref da,.ref ru])∈F)(hN:R.map Rw.n=(aT n).map λ(j:Nat)=>(j:Int))(n4:n<=4)(hR:∀r∈R,gU F s r)(hrl:(rl,O.list<|R.map iy)∈F)(hbl:(bl,O.list ((aT s).map λi=>.ref<|bd i))∈F)(s1:1<=s)(s8:s<=8)(hbu:(bu,cb tx mk ls (1+s) (1+s) 2 2 (.ref pa)<|.ref hm)∈F)(htx:(tx,O.inst 15 [.int 8,.ref ce,.int s,.int 8])∈F)(hce:(ce,O.list<|mU s++(cg 8<|.int 0).drop s)∈F)(f1:f 1=some (.ref P))(f3:f 3=some (.ref ru))(f4:f 4=some (.ref bu))(f5:f 5=some (.int (s:Int)))(f7:f 7=some (.ref rl))(f8:f 8=some (.ref bl))(kk:∀l c T',dQ T'->K (.ret<|.bool true,l) [c,T']):
 W (d+13) F K (ZO ta [.int 0] [] .nil:: [(da,.dict [])]::C::ZI tp [] TT::X::BD s bd kv:: [T0]) (a9 f) mA:=by
 rw [fG 1 (s:Int)] at hbu;refine afN (d:=d+6) (⟨hru,hli⟩:Ru F ru li dd pd) hho hbu hrl hR hN n4 f3 f4 f7 λcnt T Z E' Xo y ob hz=>.re [3,3,3,3] (af2 (d:=d+4) (f:=ms f y) p i7 s1 s8 hbl hbu f1 f4 f5 f8 λC X g TT kv k y' p' i7'=> ?_);exact agf (d:=d) (f:=ms (ms f y) y') p' i7' ob t ⟨hru,hli⟩ hho hz hN n4 hR hrl hbl s1 s8 hbu htx hce (λi hi=>Bz hi) (agq s8) f1 f4 f5 f7 f8 kk
noncomputable def qG:Nat->Option V:=λn=>bif a6 n 0 then some (.ref 0) else none
theorem ags(kk:∀c T',dQ T'->T'∈c->KV (.bool true) c):Cl (d+14) F KV [[(0,.fix ns)],[(1,.tab none)]] 105 [.ref 0]:=by
 refine aw aaY rfl<|agl (d:=d) (f:=qG) (.ix 0 ag0) ag0 λP C li pd p1=> ?_;refine agm (d:=d) (f:=fo (fo qG 1 (some<|.ref P)) 2 (some<|.ref li)) p1 ag0 rfl λC s dd ru bu ls md mk ce tx p2 s3 s8=> ?_;refine agn (d:=d) (f:=fo (fo (fo (fo (fo qG 1 (some<|.ref P)) 2 (some<|.ref li)) 3 (some<|.ref ru)) 4 (some<|.ref bu)) 5 (some<|.int (s:Nat))) s3 s8 ag0 rfl ?_;refine ago (d:=d) (f:=fo (fo (fo (fo (fo qG 1 (some<|.ref P)) 2 (some<|.ref li)) 3 (some<|.ref ru)) 4 (some<|.ref bu)) 5 (some<|.int (s:Nat))) (bC (by decide) s3) ag0 rfl ag0 λhm ta da pa tp iv pl=> ?_;refine .re [10]<|agp (d:=d) (f:=fo (fo (fo (fo (fo qG 1 (some<|.ref P)) 2 (some<|.ref li)) 3 (some<|.ref ru)) 4 (some<|.ref bu)) 5 (some<|.int (s:Nat))) p2 (ae (by decide) s3) s8 ag0 rfl λC X0 R n rl bl bd o n4=> ?_
 let c12:List Ch:=[[(bl,.list ((aT s).map λi=>.ref (bd i)))],X0,[(rl,.list (R.map iy))],[(hm,.inst 6 [.ref ta,.ref da,.ref ru])],[(bu,cb tx mk ls (1+s) (1+s) 2 2 (.ref pa) (.ref hm))],[(tx,.inst 15 [.int 8,.ref ce,.int s,.int 8])],[(ce,.list (mU s++(cg 8 (.int 0)).drop s))],[(dd,.dict [])],[(ru,Dc li dd)],[(pd,.dict [])],[(li,tI pd)],[(0,.fix ns)]]
 let c9:List Ch:=[[(ta,.inst 3 [.none,.int 0])],[(da,.dict [])],C,ni iv ((s:Int)+0+0) pl .none .none .none,[(tp,.inst 1 [.ref iv])],[(pl,.list [])],[(pa,.inst 7 [.ref tp])],BD s bd (λ_=>[]),[(1,.tab none)]]
 refine .pm (c1:=c9++c12) (iR [6,5,2,5,5,5,5,1,12] _)<|.pm (c1:=c12.flatten::c9) ((EP<|EK (L₁:=c9)).trans Pv) (.pm (c1:=c12.flatten::ZO ta [.int 0] [] .nil:: [(da,.dict [])]::C::ZI tp [] (.nd iv ((s:Int),pl) .nil .nil):: [(pl,.list []),(pa,.inst 7 [.ref tp])]::BD s bd (λ_=>[]):: [[(1,.tab none)]]) (.refl _)<|Mt.lend λ_=> ?_);have inn:∀i,∀q∈nt c12 i,q∈c12.flatten++F:=λi q h=>cJ _<|gy c12 i h;exact agr (d:=d) (f:=fo (fo (fo (fo (fo (fo (fo qG 1 (some<|.ref P)) 2 (some<|.ref li)) 3 (some<|.ref ru)) 4 (some<|.ref bu)) 5 (some<|.int (s:Nat))) 7 (some<|.ref rl)) 8 (some<|.ref bl)) o.p (agk (f:=λ_ _=>none) (bC (by decide) s3) ag0) (.inl ag0) (inn 8 _<|.head _) (inn 10 _<|.head _) (inn 3 _<|.head _) o.n n4 (λr hr=>(o.r r hr).mono<|inn 1) (inn 2 _<|.head _) (inn 0 _<|.head _) (ae (by decide) s3) s8 (inn 4 _<|.head _) (inn 5 _<|.head _) (inn 6 _<|.head _) ag0 rfl ag0 rfl ag0 rfl λl c T' t'=>kk _ T' t'<|.tail _ (.tail _<|.head _)
theorem agt{R:Ch}(t:dQ T0)(m:T0∈cs)(s:Hs F R cs H):∃o,H[(1:Nat)]? = some (.tab o):=by
 have key:∀q∈T0,H[q.1]? = some q.2:=λq hq=>Fact.cx (F:=F) (List.mem_flatten.mpr ⟨T0,m,hq⟩) R H s;rcases t with rfl|⟨i,rfl⟩
 iterate 2 exact ⟨_,key _<|.head _⟩
theorem agu(k:∀H o,H[(1:Nat)]? = some (.tab o)->Q (.bool true) H):acl (d+14) 105 [.ref 0] [.fix ns,.tab none] Q:=by
 refine ags (ns:=ns) (F:=[]) (KV:=λv c=>v= .bool true/\∃T,dQ T/\T∈c) (λc T' t m=>⟨ag0,T',t,m⟩) [] _ Q ⟨(by decide:([0,1]:List Nat).Nodup),λp hp=> ?_⟩ λv c H h s=> ?_
 ·rcases aO.mp hp with rfl|hp
  ·rfl
  ·cases cr.mp hp;rfl
 ·obtain ⟨e,T,t,m⟩:=h;obtain ⟨o,q⟩:=agt t m s;exact e▸k H o q
end
end Wl
section
open PySem PySem.W PyProof.Rows
theorem Mine.says:Mine.BC:=λns hl=>by have:=Wl.agu (d:=29) (ns:=ns) (Q:=λv H=>v= .bool true/\∃o,H[(1:Nat)]? = some (.tab o)) λH' o e=>⟨ag0,o,e⟩;rw [Pl.JK] at this;exact this
theorem PySem.Challenge.cw_np0119_01_holds : PySem.Challenge.rw_np0119_01.Holds :=
 Mine.agV (Mine.agW Mine.says)
