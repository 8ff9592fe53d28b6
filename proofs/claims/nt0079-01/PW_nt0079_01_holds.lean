import PyProof.Rows.All
import KE.KAssignIn
import KE.KBytesCut
import KE.KBytesWalk
import KE.KDictSum
import KE.KEqDict
import KE.KLam
import KE.KRevSl
import KE.KSortTup
import OpenK.AllK
import PyProof.ExcClass3
import PyProof.ExcInit
import PyProof.InstStoreFacts
import PyProof.NsDelKeeps
import PyProof.P3In
import Wide.All
import Wide.FinOn
import Lean
import PySem.Challenge.RW_nt0079_01
set_option Elab.async false
set_option maxRecDepth 100000
set_option maxHeartbeats 20000000
set_option linter.all false
set_option bootstrap.genMatcherCode false
set_option genSizeOfSpec false
open _root_ renaming List->ai,Nat->ak,Option->aw,Bool->aA,absurd->aL,Int->a0,decide_eq_true_eq->bl,String->e8,DecidableEq->e9,beq_self_eq_true->fm,beq_eq_false_iff_ne->hA,if_false->hE,Array->iO,congrFun->lU,or_false->ox,if_true->oO,Unit->ur,decide_eq_false_iff_not->Bl,UInt8->Bq,Decidable->Bs,True->Cm,False->Eo,of_decide_eq_false->K6,bne_self_eq_false->LN,ForInStep->P6,decide_false->J?
open And renaming intro->At
open Array renaming length_toList->VS,mk->zn,getElem?_setIfInBounds_self_of_lt->ape,getElem?_toList->wf,not_mem_empty->ar8,forIn_toList->art,any_toList->ash
open Bool renaming true->D1,false->Un,and_eq_true->ji,noConfusion->xa,false_eq_true->D9,not_eq_true'->D8,false_or->Ij,true_or->SI,casesOn->gt,or_false->GE,or_eq_true->v!,false_and->t',and_false->s?,true_and->q?,and_true->q!,not_true->Y?
open Eq renaming mp->zk,trans->Hp
open False renaming elim->D6
open ForInStep renaming yield->Gg
open Iff renaming rfl->WP
open Int renaming fmod->y7,natCast_nonneg->P1,lt_of_le_of_lt->I!,ofNat->Rr,eq_ofNat_of_zero_le->sw,le_of_lt->co,lt_of_lt_of_le->anp,toNat_lt->aoo,toNat->e?,fdiv->b!,fmod_nonneg_of_pos->aqv,fmod_lt_of_pos->ase,le_natAbs->U!,lt_trans->P',le_trans->au9
open List renaming length_map->fx,length_cons->hS,length_append->lk,not_mem_nil->lR,append_nil->lH,size_toArray->lT,map_append->lZ,getElem?_eq_getElem->ma,map_cons->l6,mem_of_getElem?->mD,map_map->nA,casesOn->ny,lookup_cons->pD,any_cons->qE,append_assoc->su,replicate->tI,getElem?_map->y8,mem_cons->hZ,nil_append->AS,flatMap_cons->Di,length_nil->CM,mem_singleton->hX,length_take->Gh,all_append->Gf,reverse_cons->KE,getElem?_append_left->Lv,cons_append->Lq,forIn_cons->Lp,all_cons->Nf,getElem?_append_right->US,getElem?_set_self->UQ,getElem?_set_ne->Uz,mem_append->nG,map_id''->S5,all_map->SN,lookup->Sz,getElem_mem->pr,filter_cons->pi,nodup_nil->im,mem_of_getLast?->No,flatMap_nil->KM,any_append->IN,map_nil->FM,lookup_cons_self->E',getElem?_toArray->wv,dropLast_eq_take->D?,dropLast_subset->C?,mem_map_of_mem->C!,map_congr_left->C',zip_cons_cons->A!,getElem?_take->A',getLast?_map->y?,flatten_cons->y!,length_drop->w?,all_eq_true->lg,find?_cons->v?,forIn_nil->t!,toArray->o?,range->k?,rec->e!,getElem?_concat_length->apv,getD_eq_getElem?_getD->aq2,getLast?_eq_getElem?->WF,take_append_drop->aqr,set_append_right->aqs,mem_append_right->aqt,length_singleton->aqu,mem_of_mem_take->ar4,length_dropLast->ar5,dropLast_concat->ar6,contains_eq_mem->ar7,toList_toArray->arh,replicate_succ->ari,length_take_le->arj,length_reverse->ark,filterMap_cons->arl,lookup_append->arx,getElem?_drop->ary,findIdx?_cons->arz,take_sublist->asa,nodup_append->P7,map_dropLast->asc,getElem?_inj->asd,take_length->Ω,isEmpty_map->Ψ,drop_length->Φ,of_mem_zip->χ,foldl_cons->φ,drop_zero->ν,take_nil->Z?,map_take->Z!,drop_nil->Z',set_set->U?,length->P!,foldl->M'
open List.Pairwise renaming of_map->aus
open List.Perm renaming eq_of_pairwise->apn
open List.Sublist renaming append_left->av5
open List.cons renaming inj->JB,injEq->z'
open Nat renaming le_trans->gY,le_refl->ir,beq->js,le_of_eq->mu,ne_of_lt->l4,le_of_ble_eq_true->mc,lt_of_lt_of_le->nB,le_add_right->zI,zero_le->oZ,eq_of_beq_eq_true->rx,ble->qA,le_succ->tm,lt_of_le_of_lt->Lx,blt->ys,lt_succ_self->zC,succ->Aj,le_of_lt->Ej,add_le_add_left->ut,succ_le_succ->ul,add_le_add->ai2,add_le_add_right->s5,lt_succ_of_lt->P0,lt_irrefl->MR,zero_add->Mn,le_of_not_lt->sK,min_eq_left->TB,le_add_left->ajx,add_comm->P3,succ_ne_zero->jp,add_assoc->H?,ne_of_gt->cr,ble_eq_true_of_le->NE,mul_le_mul_left->am1,le_succ_of_le->H!,sub_le->amk,add_sub_cancel_left->E?,le_of_succ_le_succ->an5,add_right_comm->anm,le_of_lt_succ->anv,succ_add->aol,sub_self->m?,lt_trans->l?,lt_of_succ_lt_succ->aqq,sub_le_of_le_add->arf,add_sub_cancel'->arw,add_sub_cancel->as9,lt_succ_of_le->asn,le_of_succ_le->aso,mul_le_mul->γ,succ_pos->Q!,sub_zero->P?,casesOn->M?
open Nat.succ renaming inj->SX
open Ne renaming symm->ng
open Option renaming some->Bc,none->VG,some_ne_none->yf,bind_some->PA,casesOn->Pr,toList->ψ,map->V'
open Option.some renaming inj->eF,injEq->pu
open Or renaming elim->Md
open Prod.mk renaming inj->db,injEq->asm
open PyProof.Rows renaming seqObj->z0,Subscript_->DY,IntsAre->Fu,Call_Name->Li,arrOf->Le,size_push'->Mi,listUpdate_at->SP,spliced_none->SF,StrsAre->QE,get?_update_seq->ii,failedOf->YN,subscriptTail->EQ,seqEpoch_at->AC,sub_int->F?,neg_int->F!,assignInOrder_nil->u',entry_list_sort->p!,slot_list_sort->n?,spliced_more->j!,plain_sorted->i?,listItems_at->i!,entry_sorted->i',Assign_Tuple->g?,kind_sorted->f',lt_int->apu,markedEach_of_false->ο,slot_tuple_getitem->VC,mul_int->auw,mod_int'->auy,le_int->auz,gt_int->av0,getItem_tuple->av1,ge_int->av2,floordiv_int->av3,add_int->av4
open PyProof.Rows.Reads renaming keeps->V!
open PyProof.Rows.SortSt renaming mk'->l!
open PySem renaming Value->Yj,Addr->a7,Shared->a8,wpAny_bind->ct,wpAny->da,Expr->dt,model->eg,Params->ei,Heap->ff,Env->gn,wpAny_pure->gP,Stmt->hI,Around->ip,World->jw,eval->jM,DictEntry->kJ,sizeLine_eq->l3,rawInt->mB,codeAny->mO,wpAny_mono->nL,FuncData->s8,wpAny_standAt->wz,wpAny_holding->wq,Program->uV,Scope->uz,starEach->yy,Const->y9,assignEach->AG,sizeLine->Ab,NameKind->Aa,BindsTo->z8,cLine->Bz,CmpOp->By,wpAny_truthy_bool->C8,Result->Cw,seqIndex?->DU,execs->DP,sysModules->Gd,intKind->Gb,clipAt->Fb,backTo->E5,BoolOp->E2,wpAny_execs_cons->J9,wpAny_BinOp->Hs,mainGlobals->Hr,Arguments->E0,pyIter->G9,isTrue->GZ,wpAny_Constant_int->Lr,wpAny_field->Lo,tupleKind->Lm,treeTable->Lk,evalEach->Lh,standAt->Lg,Builtin->Lf,wpAny_execs_nil->Nu,recursionLimit->Nk,Comprehension->MK,excClassObj->Mk,wpAny_call->Mj,compTurn->Mf,Operator->Me,valueAt->Mc,assign->L2,bindL->L1,bindC->L0,Reads->Ld,wpAny_loadPart_at->TF,codeAny_of_tree->Tw,cellsFrom->Rk,getItem->QH,OsState->Qg,stored->P8,wpAny_newObj_type->pc,wpAny_Return_some->lw,wpAny_newList->gl,swappedStores->eq,assignInOrder->dL,wpAny_of_eq->bn,wpAny_Name->an,wpAny_List->am,typeLookup->ac,closureFor->Z9,cameBackBy->ZC,call_meets->Zy,builtinsNs->Zn,swapsWith->YY,noteFrame->YS,compareOp->YR,compPost->Yn,compEnvC->Xs,bindName->Xr,notedBy->Xg,Keyword->Wi,pyNext->Wf,wpAny_assignInOrder_more->Op,wpAny_evalPart_none->KT,wpAny_call_entry->Ix,letOwnedTupleGo->GM,wpAny_loadPart->FS,wpAny_UnaryOp->Fa,mem_of_lookup->Ev,ExceptHandler->Do,Call_method1->Ch,wpAny_noted->AT,wpAny_Expr->zs,binaryOp->wT,hashInt->wS,wpAny_unpackItems_tuple->D!,wpAny_pyNext_list_end->B?,wpAny_isTrue_Compare1->B!,codeAny_call_function->B',wpAny_newFunctionEnv->z?,wpAny_isSubtype_exc->y',pairTrees_cons_walk->x?,wpAny_pyIter_list->u?,wpAny_assign_Name->u!,wpAny_askSetting->r?,arm_assign_Tuple->r!,wpAny_ite_split->q',theTreesLotGoes->p?,wpAny_setField->o!,wpAny_typeOf->k!,wpAny_mkText->j?,codeAny_func->h!,wpAny_Tuple->g!,wpAny_rule->d?,wpAny_load->d!,isInstance->c!,entryOfKey->b?,wpAny_For->a!,raiseStmt->ZB,plainObj_wpAny_Assign_Attribute->aq1,wpAny_newFunctionEnv_cells->aql,wpAt_of_wpAny->ar1,wpAny_getItem_list_slice->ar9,wpAny_comprehension_free->ara,wpAny_callSpecial?_slot->aru,wpAny_pyNext_list_item->as2,wpAny_Assign_Subscript->as3,codeAny_compStart_list->as4,aRefKeyMayBeTheName_at->as5,clipAt_nat->as8,wpAny_pyIter_listiter->asi,wpAt_bind->asl,unbindBehindTheSuite->Ξ,codeAny_call_builtin->Θ,wpAny_setItem_pairs->τ,wpAny_evalPart_some->σ,merged_nil_of_nodup->π,codeAny_forLoop_any->ξ,wpAny_pyIter_tuple->θ,wpAny_evalAll_cons->η,tupleKind_room_in1->ζ,pairTrees_nil_walk->ε,mem_of_lookup_some->δ,wpAny_sequenceKey->Y!,wpAny_pyIter_enum->Y',wpAny_evalAll_nil->X?,slot_list_setitem->X!,foldedSetIterable->W?,arm_eval_ListComp->W!,wpAny_updatePart->U',wpAny_lookBehind->T?,wpAny_eqBool_int->T!,wpAny_Dict_empty->S?,pastItsLine_dict->R?,checkBuiltinCall->R!,call->Q?,wpAny_Dict_walk->O'
open PySem.Builtin.List renaming listExtendWith->H',listTooLong->G!,listLengthHint->aph,listUpdate->apk,listItems->apl,listSubscript?->av6,listSameRef->av7,listFitsIndex->av8
open PySem.Builtin.ObjectAttr renaming storeInDict->apd,storeTaker?->auk,newKeyGuard->aul
open PySem.Builtin.Range renaming rangeSize->apj
open PySem.Builtin.Slice renaming slicePlaces->PP,sliceAdjust->G?,sliceApplied->apg,sliceFields->auv
open PySem.Builtin.Tuple renaming tupleItemsOf->aut,tupleHashOf->auu
open PySem.Calls renaming spliced_cons->Eh,evalArgs_plain->Lw,spliced_nil->Lu,Constant_str->Uk,call_function_entry->apf,call_len_list->api,Name_function_global->aq0,loadGlobal_builtin->aqb,loadGlobal_global->aqe
open PySem.Challenge renaming pw_nt0079_01->aun
open PySem.CmpOf renaming ints_lt->ι
open PySem.Code renaming weight->Db,quiet_builtin->as0,cUnits->O!
open PySem.Data.dict renaming elim->ars
open PySem.Data.seq renaming elim->asf
open PySem.EntryCells renaming newEntry->E!
open PySem.Env renaming kindOf->aqp
open PySem.Expr.Attribute renaming elim->apq
open PySem.Expr.BinOp renaming elim->aqz
open PySem.Expr.BoolOp renaming elim->aqi
open PySem.Expr.Call renaming elim->arq
open PySem.Expr.Compare renaming elim->aqa
open PySem.Expr.Constant renaming elim->apz
open PySem.Expr.Dict renaming elim->arp
open PySem.Expr.IfExp renaming elim->aqy
open PySem.Expr.Lambda renaming elim->aqh
open PySem.Expr.List renaming elim->aro
open PySem.Expr.ListComp renaming elim->apy
open PySem.Expr.Name renaming elim->arn
open PySem.Expr.Slice renaming elim->aqx
open PySem.Expr.Subscript renaming elim->apo
open PySem.Expr.Tuple renaming elim->aqw
open PySem.Expr.UnaryOp renaming elim->aq9
open PySem.F renaming plainAttrs_list->sB,slot_list_pop->On,slot_dict_get->F',args_list_extend_2->apm,type_list_append->apr,slot_list_extend->aps,slot_list_append->apt,entry_list_pop->aq5,entry_dict_get->aq6,type_list_pop->aqc
open PySem.Heap renaming lt_size->ib,get?_push_size->kK,size_push->l7,get?_push_of_some->sy,get?_update_ne->AZ,size_update->BR,get?_push_ne->Gq,get?_update_other->P2,SameBut->MJ,get?_update_self->UB,IsList->O?
open PySem.Heap.IsSliceOf renaming new->Ok
open PySem.Heap.SameBut renaming update->Ls
open PySem.IsL renaming update->Ln
open PySem.IsRange renaming new->μ
open PySem.MeetsSeq renaming list_pop_last->auo,list_pop_at->aup
open PySem.NameKind renaming free->rt,cell->Tr,noConfusion->aqd
open PySem.Obj renaming mapSeq->vy,mapFields->S0,data_mapFields->z!,isFreed_of_fields->ar3,putName->N'
open PySem.P renaming append_list->aqj
open PySem.Pairs renaming nil->N!
open PySem.PyData renaming keyHash->lF,eqv->R8,depthAll->IR,canLayAll0->A?,eqvAll->ω
open PySem.ReadsAll renaming nil->asj
open PySem.SeqAt renaming shaped->SS
open PySem.Spec renaming ltCps->pt
open PySem.Stmt.Assign renaming elim->aqg
open PySem.Stmt.ClassDef renaming elim->aur
open PySem.Stmt.Expr renaming elim->ard
open PySem.Stmt.For renaming elim->w!
open PySem.Stmt.FunctionDef renaming elim->aum
open PySem.Stmt.If renaming elim->Δ
open PySem.Stmt.Raise renaming elim->aqo
open PySem.Stmt.Return renaming elim->aqf
open PySem.Stmt.Try renaming elim->as6
open PySem.Stmt.While renaming elim->aqn
open PySem.Str renaming ofString->n!
open PySem.Value renaming ref->nv,none->BK,int->Mh,isStr->ci,type->Da,isStrOf_shape->ar0,noConfusion->arv,str->N?
open PySem.Value.int renaming elim->arc
open PySem.Value.ref renaming inj->io,elim->arb
open PySem.Value.str renaming elim->x!
open PySem.Value.type renaming elim->aqm
open PySem.W renaming findIn->l5,callWith_of->AI,Looks->zZ,instObj->F9,clsIn->GW,boot_heap->Lj,typeIs_bytes->Ml,emptyDict->Mg,typeIn->Mb,tabObj->Ma,looks_findIn->ch,boot_drawn->Y3,findObj->WR,behindTheImports->GT,plainOver->xL,kas_sort->xz,WellAll->wP,looks_clsIn->f?,boot_toks->XV,wellAll_cons_inv->S!
open PySem.W.Fast renaming te3471404346716756564->K3,te18344453789297297638->Pv,te17119622794617984870->Ps,te14364793385576792824->Pi,te10792542408131684335->Os,te6984425678791042302->G',named_eq->r',te17095254045102204799->apw,te12879404354523853263->apx,te9572597257264208301->aq3,te8326940854005059898->aq4,te797321630700447069->aq8
open PySem.W.KBw renaming IsBytesIter->t?,pyIter_bytes->υ
open PySem.W.Looks renaming of_pure->Tj,now->M!
open PySem.Walks renaming tuple->V?,list->R'
open PySem.swappedStores renaming match_8->auq
open StateT renaming run_pure->as7
open UInt8 renaming toNat->Ge
local macro_rules |`(tactic|rfl')=>`(tactic|kernel_rfl)
noncomputable section
section
open PySem PySem.W PySem.Calls PyProof.Rows
namespace MH
noncomputable section
noncomputable abbrev pw:uV:=aun
noncomputable def st(i:ak):hI:=pw.main.body.getD i (.Pass default)
noncomputable def me(i j:ak):hI:=if h:(st i).ctorIdx=2 then aur (motive_2:=λY=>hI) (st i) h λY Y Y b Y Y Y Y Y Y Y=>b.getD j (.Pass default)else st i
noncomputable def Re{i:Type}(s:hI)(d:i)(f:Str->E0->ai hI->uz->Pos->i):i:=if h:s.ctorIdx=0 then aum (motive_2:=λY=>i) s h λc a b Y Y Y j Y Y p=>f c a b j p else d
noncomputable def z(s:e8)(t:ak):Yj:=.str (n! s) t
noncomputable def tu(l:ai Yj):Obj:=⟨.type "tuple",VG,.seq l.toArray 0,#[]⟩
noncomputable def li(l:ai Yj):Obj:=⟨.type "list",VG,.seq l.toArray 0,#[]⟩
noncomputable def fi(c:Yj)(l:ai Yj):Obj:=⟨c,VG,.fields l.toArray,#[]⟩
noncomputable def di(l:ai kJ)(a:ak):Obj:=⟨.type "dict",VG,.dict l.toArray a,#[]⟩
noncomputable def dn(l:ai kJ)(a:ak):Obj:=⟨.none,VG,.dict l.toArray a,#[]⟩
noncomputable def fr(l:ai (aw Yj)):Obj:=⟨.type "frame",VG,.plain,l.toArray⟩
noncomputable def cl(n:e8)(bs mro:ai Yj)(ns:a7)(sub:ai Yj)(l:ai (aw Yj)):Obj:=⟨.type "type",VG,.cls {name:=n! n,bases:=bs,mro:=mro,ns:=ns,qualname:=n! n,subclasses:=sub},l.toArray⟩
noncomputable def e(P:ei)(s:Str)(t:ak)(v:Yj):kJ:=⟨lF P s,.str s t,v⟩
noncomputable def fdOf(s:hI)(c:Str):s8:=Re s default λd a b f Y=>{name:=d,qualname:=c,params:=a,body:=.stmts b,scope:=f,globals:=0,closure:=[],defaults:=.none,kwdefaults:=.none}
noncomputable def aeG(s:hI):ak:=Re s 0 λY Y Y Y p=>p.line
noncomputable def Co:ai (Str×Aa)->ai Str|[]=>[]|(n,.local)::l=>n::Co l|_::l=>Co l
noncomputable def Pg:ai Str->ak->ai Yj|[],_=>[]|n::l,t=>.str n t::Pg l (t+1)
noncomputable def ly(b t:ak)(m i:Yj)(s:hI)(a:Str)(c:aA):ai Obj:=let f:=fdOf s a;let d:=Co f.scope.names;let k:=match c with|true=>d.length|false=>0;let r:=match c with|true=>b+4|false=>b+2;let h:=aeG s;let j:=fi (.type "code") [.str f.name t,.str a (t+1),z "/claim/cut.py" (t+2),.int (Rr h) 0,.int (Rr f.params.args.length) 0,.int 0 0,.int 0 0,.int 3 0,.ref b,.bool D1,.int 181 0,.ref (b+1),.none,match c with|true=>.ref (b+2)|false=>.none,match c with|true=>.ref (b+3)|false=>.none,.ref r,.int (Rr (t+3+k)) 0,.int (Rr h) 0,z "/claim/cut.py" ((t+4+k:ak))];let l:=[⟨.none,VG,.func f,#[]⟩,j,⟨.type "function",VG,.func {f with globals:=3,defaults:=i,pyModule:=m,code:=.ref (r+1)},#[]⟩];tu []::fi .none []::match c with|true=>tu (Pg d (t+3))::tu []::l|false=>l
noncomputable def NT:ai (ak×ak×ak)->ai Yj|[]=>[]|(a,b,c)::l=>.int a 0::.int b 0::.ref c::NT l
noncomputable def ents(P:ei):ai (Str×ak×Yj)->ai kJ|[]=>[]|(s,t,v)::l=>e P s t v::ents P l
noncomputable def oA:ai Obj->ai Obj|[]=>[]|[_]=>[]|_::b::l=>b::oA l
noncomputable def kn:ai Obj->ai Obj|[]=>[]|[a]=>[a]|a::_::l=>a::kn l
noncomputable def bt:ak->ai Obj->BT|0,_=>.nil|_+1,[]=>.nil|n+1,a::l=>.node a (bt n (kn l)) (bt n (oA l))
noncomputable def b3(P:ei)(a:Yj):ai kJ:=e P "__name__" 165 a::ents P [("__doc__",166,.none),("__package__",167,.none),("__loader__",168,.builtin "__main__.__loader__#opaque"),("__spec__",169,.none),("__annotations__",170,.ref 6),("__builtins__",171,.ref 4),("__file__",173,z "/claim/cut.py" 172),("__cached__",174,.none)]
noncomputable def L!(s:hI):Str:=Re s "" λa Y Y Y Y=>a
noncomputable def fs(m:Yj)(l:ai (ak×ak×ak×ak×ak)):ai Obj:=l.flatMap λa=>ly a.1 a.2.1 m (cond (js a.2.2.2.2 2) (.ref (a.1-1)) .none) (st a.2.2.1) (L! (st a.2.2.1)) (!Nat.beq a.2.2.2.2 1)
noncomputable def qs(l:ai (ak×ak×ak×ak×ak)):ai (Str×ak×Yj):=l.map λa=>(L! (st a.2.2.1),a.2.2.2.1,.ref (a.1+cond (js a.2.2.2.2 1) 4 6))
noncomputable def rs(l:ai (ak×ak×ak×ak×ak)):ai (ak×ak×ak):=l.map λa=>(aeG (st a.2.2.1),0,a.1+cond (js a.2.2.2.2 1) 3 5)
noncomputable def ap(a b:ai (Str×ak×Yj)):ai (Str×ak×Yj):=a++b
noncomputable def SE:ai a0->ak->ai Yj|[],_=>[]|a::l,t=>.int a t::SE l (t+1)
noncomputable def K?:ai (ai a0)->ak->ai Obj|[],_=>[]|l::r,t=>li (SE l t)::K? r (t+l.length)
noncomputable def wE(a:a0×ak×ak×e8×ai a0×e8×a0×e8×e8):kJ:=⟨a.1,.int a.1 (a.2.1-1),.ref (a.2.2.1+1)⟩
noncomputable def wO(a:a0×ak×ak×e8×ai a0×e8×a0×e8×e8):ai Obj:=let y:=a.2.2.2.2;let t:=a.2.1+y.1.length;[tu (SE y.1 (a.2.1+1)),tu [z a.2.2.2.1 a.2.1,.ref a.2.2.1,z y.2.1 (t+1),.int y.2.2.1 (t+2),z y.2.2.2.1 (t+3),z y.2.2.2.2 (t+4)]]
structure Kl where
a:ak
t:ak
nm:e8
md:Yj
ln:ak
ms:ai (Str×ak×Yj)
ts:ak
r:ak
noncomputable def bf(l:ai Yj):Obj:=fi (.type "builtin_function_or_method") l
noncomputable def aeQ(b:e8)(t l a:ak):Obj:=fi (.type "code") [z b t,z b (t+1),z "/claim/cut.py" (t+2),.int l 0,.int 0 0,.int 0 0,.int 0 0,.int 0 0,.ref a,.bool Un,.int 181 0,.ref (a+1),.none,.none,.none,.none,.int (t+3:ak) 0,.int l 0,z "/claim/cut.py" (t+4)]
noncomputable def L?(a b:ak)(m:Yj):Obj:=fr [Bc (.ref a),Bc (.ref 3),Bc (.ref b),VG,Bc m,VG,Bc (.ref 0)]
noncomputable def La(P:ei)(k:Kl)(b:ai Yj)(l:ai (ak×ak×ak)):ai Obj:=[tu b,bf [.builtin "type.__prepare__",.type "type"],di (e P "__module__" k.t k.md::e P "__qualname__" (k.t+2) (z k.nm (k.t+1))::e P "__firstlineno__" (k.t+4) (.int k.ln (k.t+3))::(ents P k.ms++[e P "__static_attributes__" k.ts (.ref k.r)])) (k.ms.length+4),tu [],fi .none (NT l),aeQ k.nm (k.t-5) k.ln (k.a+3),L? (k.a+5) (k.a+2) k.md]
noncomputable def L'(c:e8)(t k:ak)(a b:Yj):Obj:=fi (.type "getset_descriptor") [z c t,.ref k,a,b]
noncomputable def rq(P:ei)(k:Kl)(l:ai Str)(d m s:ai Yj)(a:ak)(b:e8):ai Obj:=let c:=k.r+2;let y:=match js a 2 with|true=>2|false=>0;let w:=match js a 0 with|true=>1|false=>y+3;tu (Pg l (k.ts-l.length))::di (e P "__module__" k.t k.md::e P "__firstlineno__" (k.t+4) (.int k.ln (k.t+3))::(ents P k.ms++e P "__static_attributes__" k.ts (.ref k.r)::((match js a 2 with|true=>[e P "__dict__" (k.ts+2) (.ref (c+1))]|false=>[])++(match js a 0 with|true=>[]|false=>[e P "__weakref__" (k.ts+y+2) (.ref (c+a))])++[e P "__doc__" (k.ts+w) .none]))) (a+2)::cl k.nm d (.ref c::m) (k.r+1) s [match js a 2 with|true=>VG|false=>Bc (.ref k.a),VG,Bc (z k.nm (k.t-7)),Bc (z k.nm (k.t+1)),Bc (.builtin b),Bc (.bool D1)]::((match js a 2 with|true=>[L' "__dict__" (k.ts+1) c (.builtin "function.__dict__") (.builtin "function.__dict__#set")]|false=>[])++(match js a 0 with|true=>[]|false=>[L' "__weakref__" (k.ts+y+1) c (.builtin "ExceptionGroup.__weakref__") .none])++[fi (.type "super") [.ref c,.ref c,.ref c],bf [.builtin "object.__init_subclass__",.ref c]])
noncomputable def m0:Yj:=z "__main__" 164
noncomputable def m1:Yj:=z "unicore.base" 194
noncomputable def m2:Yj:=z "unicore.hangul" 295
noncomputable def m3:Yj:=z "unicore.forms" 349
noncomputable def m4:Yj:=z "unicore.punycode" 549
noncomputable def m5:Yj:=z "unicore.idna" 768
noncomputable def m6:Yj:=z "unicore.ranges" 1130
noncomputable def m7:Yj:=z "unicore.data" 1220
noncomputable def m8:Yj:=z "law_nt0079_01" 1289
noncomputable def c0:Kl:=⟨22,209,"UniError",m1,8,[("__init__",221,.ref 36)],223,37⟩
noncomputable def c1:Kl:=⟨43,238,"BadLabel",m1,12,[],243,50⟩
noncomputable def c2:Kl:=⟨55,254,"BadTable",m1,14,[],259,62⟩
noncomputable def c3:Kl:=⟨171,434,"Composer",m3,121,[("__init__",448,.ref 184),("pair",458,.ref 191),("is_second",467,.ref 198)],470,199⟩
noncomputable def c4:Kl:=⟨252,572,"PunyNumbers",m4,188,[("__init__",597,.ref 266),("threshold",607,.ref 273),("adapted",618,.ref 280)],626,281⟩
noncomputable def c5:Kl:=⟨388,839,"IdnaFlags",m5,343,[("__init__",857,.ref 402)],865,403⟩
noncomputable def c6:Kl:=⟨590,1147,"RangeMap",m6,559,[("__init__",1159,.ref 603),("get",1167,.ref 610),("put",1182,.ref 617),("ranges",1188,.ref 622),("set_of",1196,.ref 629)],1200,630⟩
noncomputable def c7:Kl:=⟨651,1237,"Data",m7,608,[("__init__",1248,.ref 664),("put",1259,.ref 671),("get",1268,.ref 678),("map_of",1276,.ref 685)],1281,686⟩
noncomputable def f0:ai (ak×ak×ak×ak×ak):=[(15,187,0,193,0)]
noncomputable def f1:ai (ak×ak×ak×ak×ak):=[(67,263,8,269,0),(74,270,9,276,0),(81,277,10,283,0),(88,284,11,294,0)]
noncomputable def f2:ai (ak×ak×ak×ak×ak):=[(95,314,21,320,0),(102,321,22,328,0),(109,329,23,338,0),(116,339,24,348,0)]
noncomputable def f3:ai (ak×ak×ak×ak×ak):=[(123,351,26,361,0),(130,362,27,376,0),(137,377,28,388,0),(144,389,29,394,1)]
noncomputable def f4:ai (ak×ak×ak×ak×ak):=[(150,395,30,405,2),(157,406,31,417,0),(164,418,32,426,0)]
noncomputable def f5:ai (ak×ak×ak×ak×ak):=[(207,478,34,492,2)]
noncomputable def f6:ai (ak×ak×ak×ak×ak):=[(215,493,35,503,2),(222,504,36,511,0)]
noncomputable def f7:ai (ak×ak×ak×ak×ak):=[(229,512,37,522,0)]
noncomputable def f8:ai (ak×ak×ak×ak×ak):=[(237,523,38,537,2)]
noncomputable def f9:ai (ak×ak×ak×ak×ak):=[(245,538,39,548,2)]
noncomputable def UV:ai (ak×ak×ak×ak×ak):=[(289,634,49,641,2),(296,642,50,648,0)]
noncomputable def UF:ai (ak×ak×ak×ak×ak):=[(304,649,51,662,2),(311,663,52,677,0),(318,678,53,685,0),(325,686,54,693,0),(332,694,55,699,1),(337,700,56,707,0)]
noncomputable def Uf:ai (ak×ak×ak×ak×ak):=[(345,708,57,726,2),(352,727,58,734,0),(359,735,59,741,0)]
noncomputable def TW:ai (ak×ak×ak×ak×ak):=[(367,742,60,759,2)]
noncomputable def TT:ai (ak×ak×ak×ak×ak):=[(375,760,61,767,2)]
noncomputable def TI:ai (ak×ak×ak×ak×ak):=[(410,873,83,879,0),(417,880,84,890,0),(424,891,85,905,0)]
noncomputable def TE:ai (ak×ak×ak×ak×ak):=[(432,906,86,919,2)]
noncomputable def TD:ai (ak×ak×ak×ak×ak):=[(439,920,87,928,0),(446,929,88,934,1),(451,935,89,946,0),(458,947,90,955,0),(465,956,91,961,1),(470,962,92,967,1),(475,968,93,973,1),(480,974,94,983,0),(487,984,95,991,0),(494,992,96,997,1),(499,998,97,1006,0),(506,1007,98,1019,0),(513,1020,99,1032,0)]
noncomputable def Tm:ai (ak×ak×ak×ak×ak):=[(520,1033,100,1043,0),(527,1044,101,1052,0),(534,1053,102,1061,0),(541,1062,103,1076,0),(548,1077,104,1086,0),(555,1087,105,1093,0),(562,1094,106,1103,0),(569,1104,107,1118,0),(576,1119,108,1129,0)]
noncomputable def Q4:ai (ak×ak×ak×ak×ak):=[(583,1132,110,1139,0)]
noncomputable def Tl:ai (ak×ak×ak×ak×ak):=[(637,1208,112,1219,0)]
noncomputable def Tk:ai (ak×ak×ak×ak×ak):=[(644,1222,114,1229,0)]
noncomputable def SZ:ai (ak×ak×ak×ak×ak):=[(794,1620,120,1625,1),(799,1626,121,1633,0),(806,1634,122,1648,0),(813,1649,123,1663,0),(820,1664,124,1669,1),(825,1670,125,1675,1),(830,1676,126,1681,1),(835,1682,127,1692,0),(842,1693,128,1698,1)]
noncomputable def g1(P:ei)(s:ai Yj):ai Obj:=fs m0 f0++La P c0 [.type "Exception"] [(10,4,35)]++[tu [.none]]++ly 30 214 m1 (.ref 29) (me 5 0) "UniError.__init__" D1++rq P c0 ["told"] [.type "Exception"] [.type "Exception",.type "BaseException",.type "object"] s 1 "Exception.__new__"
noncomputable def g2(P:ei):ai Obj:=La P c1 [.ref 39] []++rq P c1 [] [.ref 39] [.ref 39,.type "Exception",.type "BaseException",.type "object"] [] 0 "Exception.__new__"
noncomputable def g3(P:ei):ai Obj:=La P c2 [.ref 39] []++rq P c2 [] [.ref 39] [.ref 39,.type "Exception",.type "BaseException",.type "object"] [] 0 "Exception.__new__"++fs m1 f1
noncomputable def g4(P:ei):ai Obj:=fs m2 f2++fs m3 f3++[tu [.bool Un]]++fs m3 f4
noncomputable def g5(P:ei):ai Obj:=La P c3 [] [(123,4,183),(129,4,190),(133,4,197)]++ly 178 439 m3 (.none) (me 33 0) "Composer.__init__" D1++ly 185 449 m3 (.none) (me 33 1) "Composer.pair" D1++ly 192 459 m3 (.none) (me 33 2) "Composer.is_second" D1++rq P c3 ["pairs","seconds"] [.type "object"] [.type "object"] [] 2 "object.__new__"++[tu [.none]]++fs m3 f5++[tu [.none]]++fs m3 f6
noncomputable def g6(P:ei):ai Obj:=fs m3 f7++[tu [.none]]++fs m3 f8++[tu [.none]]++fs m3 f9
noncomputable def g7(P:ei):ai Obj:=La P c4 [] [(190,4,265),(199,4,272),(203,4,279)]++[tu (SE [36,1,26,38,700,72,128] 577)]++ly 260 584 m4 (.ref 259) (me 48 0) "PunyNumbers.__init__" D1++ly 267 598 m4 (.none) (me 48 1) "PunyNumbers.threshold" D1++ly 274 608 m4 (.none) (me 48 2) "PunyNumbers.adapted" D1++rq P c4 ["base","bias","damp","first","least","most","skew"] [.type "object"] [.type "object"] [] 2 "object.__new__"++[tu [.bool Un]]++fs m4 UV
noncomputable def g8(P:ei):ai Obj:=[tu [.bool Un]]++fs m4 UF++[tu [.none,.none]]++fs m4 Uf++[tu [.none]]++fs m4 TW++[tu [.none]]++fs m4 TT
noncomputable def g9(P:ei):ai Obj:=[li (SE [120,110,45,45] 774),tu (Pg ["Mn","Mc","Me"] 785),tu (SE [1523,1524] 799),tu (Pg ["Hira","Kana","Hani"] 804),tu (Pg ["R","AL","AN","EN","ES","CS","ET","ON","BN","NSM"] 812),tu (Pg ["L","EN","ES","CS","ET","ON","BN","NSM"] 823)]
noncomputable def BC(P:ei):ai Obj:=La P c5 [] [(345,4,401)]++[tu [.bool Un,.bool D1,.bool D1,.bool D1,.bool D1,.bool Un,.bool D1]]++ly 396 844 m5 (.ref 395) (me 82 0) "IdnaFlags.__init__" D1++rq P c5 ["contexts","directions","hyphens","is_transitional","joiners","lengths","only_letters"] [.type "object"] [.type "object"] [] 2 "object.__new__"++fs m5 TI++[tu [.bool D1]]++fs m5 TE
noncomputable def yg(P:ei):ai Obj:=fs m5 TD
noncomputable def kr(P:ei):ai Obj:=fs m5 Tm++fs m6 Q4
noncomputable def sR(P:ei):ai Obj:=La P c6 [] [(561,4,602),(566,4,609),(569,4,616),(584,4,621),(587,4,628)]++ly 597 1152 m6 (.none) (me 111 0) "RangeMap.__init__" D1++ly 604 1160 m6 (.none) (me 111 1) "RangeMap.get" D1++ly 611 1168 m6 (.none) (me 111 2) "RangeMap.put" D1++ly 618 1183 m6 (.none) (me 111 3) "RangeMap.ranges" Un++ly 623 1189 m6 (.none) (me 111 4) "RangeMap.set_of" D1++rq P c6 ["default","starts","values"] [.type "object"] [.type "object"] [] 2 "object.__new__"++fs m6 Tl
noncomputable def tw(P:ei):ai Obj:=fs m7 Tk++La P c7 [] [(610,4,663),(616,4,670),(619,4,677),(624,4,684)]++ly 658 1242 m7 (.none) (me 115 0) "Data.__init__" D1++ly 665 1249 m7 (.none) (me 115 1) "Data.put" D1++ly 672 1260 m7 (.none) (me 115 2) "Data.get" D1++ly 679 1269 m7 (.none) (me 115 3) "Data.map_of" D1++rq P c7 ["defaults","maps","properties","words"] [.type "object"] [.type "object"] [] 2 "object.__new__"
noncomputable def w1:ai (a0×ak×ak×e8×ai a0×e8×a0×e8×e8):=[(98,1292,694,"valid",[],"Ll",0,"U","L"),(49,1299,696,"valid",[],"Nd",0,"U","EN"),(45,1306,698,"valid",[],"Pd",0,"U","ES"),(65,1313,700,"mapped",[97],"Lu",0,"U","L"),(97,1321,702,"valid",[],"Ll",0,"U","L"),(95,1328,704,"valid",[],"Pc",0,"U","ON"),(173,1335,706,"ignored",[],"Cf",0,"T","BN"),(223,1342,708,"deviation",[115,115],"Ll",0,"U","L"),(8226,1351,710,"disallowed",[],"Po",0,"U","ON"),(769,1358,712,"valid",[],"Mn",230,"T","NSM"),(803,1365,714,"valid",[],"Mn",220,"T","NSM"),(1576,1372,716,"valid",[],"Lo",0,"D","AL"),(1575,1379,718,"valid",[],"Lo",0,"R","AL"),(1488,1386,720,"valid",[],"Lo",0,"U","R"),(1632,1393,722,"valid",[],"Nd",0,"U","AN"),(115,1400,724,"valid",[],"Ll",0,"U","L"),(252,1407,726,"valid",[],"Ll",0,"U","L")]
noncomputable def w2:ai (a0×ak×ak×e8×ai a0×e8×a0×e8×e8):=[(46,1414,729,"valid",[],"Po",0,"U","CS"),(57,1420,731,"valid",[],"Nd",0,"U","EN"),(120,1426,733,"valid",[],"Ll",0,"U","L"),(110,1432,735,"valid",[],"Ll",0,"U","L"),(116,1438,737,"valid",[],"Ll",0,"U","L"),(100,1444,739,"valid",[],"Ll",0,"U","L"),(122,1450,741,"valid",[],"Ll",0,"U","L"),(99,1456,743,"valid",[],"Ll",0,"U","L"),(118,1462,745,"valid",[],"Ll",0,"U","L"),(103,1468,747,"valid",[],"Ll",0,"U","L")]
noncomputable def zE(_:ei):ai Obj:=di ((w1++w2).map wE) 27::w1.flatMap wO++di (w2.map wE) 10::w2.flatMap wO
noncomputable def zg(_:ei):ai Obj:=K? [[97],[49,98],[252],[1488],[1576,1575],[223],[65,45],[],[769,98],[8226],[120,110,45,45,116,100,97],[120,110,45,45,57,57],[120,110,45,45,122,99,97],[120,110,45,45,97,98,99,45],[120,110,45,45],[98,45,97],[1488,49],[65,98],[1488,97],[97,1488],[1488,45,1488],[1488,8226],[1488,49,1632],[1488,1632],[1488,769],[97,769],[97,95],[45,97],[120,110,45,45,110,118,103],[97,98,45,45,99],[97,173,98],[97,769,803]] 1484++[li ((k? 32).map λi=>.ref (749+i))]
noncomputable def ao(P:ei):ai Obj:=[di [⟨(-591042363778673799),.ref 783,.ref 784⟩,⟨(-4412509175090254313),.ref 785,.none⟩,⟨(-997169505513183989),.ref 786,.ref 787⟩,⟨(-9139130417643691549),.ref 788,.ref 789⟩,⟨5740354900026072187,.ref 790,.ref 791⟩,⟨4808897314920699571,.ref 792,.ref 793⟩] 6,tu (SE [116,100,97] 1577),li [.int 252 1580],tu (SE [57,57] 1581),tu (SE [122,99,97] 1583),li [.int 223 1586],tu (SE [97,98,99,45] 1587),li (SE [97,98,99] 1591),tu [],li [],tu (SE [110,118,103] 1594),li [.int 8226 1597]]
noncomputable def Q5(P:ei):ai Obj:=fs m8 SZ
noncomputable def lf:Life:={}
noncomputable def q1:ai (Str×ak×Yj):=ap (qs f0) [("MAX_CODE",197,.int 1114111 196),("HIGH_FIRST",199,.int 55296 198),("LOW_LAST",201,.int 57343 200),("UniError",230,.ref 39)]
noncomputable def r1:ai (ak×ak×ak):=rs f0++[(8,0,27)]
noncomputable def q2:ai (Str×ak×Yj):=ap q1 [("BadLabel",246,.ref 52)]
noncomputable def r2:ai (ak×ak×ak):=r1++[(12,0,48)]
noncomputable def q3:ai (Str×ak×Yj):=ap (ap (ap q2 [("BadTable",262,.ref 64)]) (qs f1)) [("SYLLABLE_FIRST",298,.int 44032 297),("LEAD_FIRST",300,.int 4352 299),("VOWEL_FIRST",302,.int 4449 301),("TAIL_NONE",304,.int 4519 303),("LEADS",306,.int 19 305),("VOWELS",308,.int 21 307)]
noncomputable def r3:ai (ak×ak×ak):=r2++[(14,0,60)]++rs f1
noncomputable def q4:ai (Str×ak×Yj):=ap (ap (ap (ap q3 [("TAILS",310,.int 28 309),("SYLLABLES",313,.int 11172 312)]) (qs f2)) (qs f3)) (qs f4)
noncomputable def r4:ai (ak×ak×ak):=r3++rs f2++rs f3++rs f4
noncomputable def q5:ai (Str×ak×Yj):=ap (ap (ap q4 [("Composer",477,.ref 201)]) (qs f5)) (qs f6)
noncomputable def r5:ai (ak×ak×ak):=r4++[(121,0,176)]++rs f5++rs f6
noncomputable def q6:ai (Str×ak×Yj):=ap (ap (ap (ap q5 (qs f7)) (qs f8)) (qs f9)) [("HYPHEN_punycode",552,.int 45 551),("SMALL_A",554,.int 97 553),("CAPITAL_A",556,.int 65 555),("NOUGHT",558,.int 48 557),("LETTERS",560,.int 26 559),("FIGURES",562,.int 10 561),("CASE_BIT",564,.int 32 563)]
noncomputable def r6:ai (ak×ak×ak):=r5++rs f7++rs f8++rs f9
noncomputable def q7:ai (Str×ak×Yj):=ap (ap q6 [("PunyNumbers",633,.ref 283)]) (qs UV)
noncomputable def r7:ai (ak×ak×ak):=r6++[(188,0,257)]++rs UV
noncomputable def q8:ai (Str×ak×Yj):=ap (ap (ap (ap (ap q7 (qs UF)) (qs Uf)) (qs TW)) (qs TT)) [("STOP",771,.int 46 770),("HYPHEN_idna",773,.int 45 772)]
noncomputable def r8:ai (ak×ak×ak):=r7++rs UF++rs Uf++rs TW++rs TT
noncomputable def q9:ai (Str×ak×Yj):=ap q8 [("PREFIX",778,.ref 382),("NON_JOINER",780,.int 8204 779),("JOINER",782,.int 8205 781),("VIRAMA",784,.int 9 783),("MARKS",788,.ref 383),("MOST_LABEL",790,.int 63 789),("MOST_DOMAIN",792,.int 253 791),("MIDDLE_DOT",794,.int 183 793),("SMALL_L",796,.int 108 795),("GREEK_SIGN",798,.int 885 797),("HEBREW_SIGNS",801,.ref 384),("KANA_DOT",803,.int 12539 802),("KANA_SCRIPTS",807,.ref 385),("ARABIC_ZERO",809,.int 1632 808),("FURTHER_ZERO",811,.int 1776 810),("RIGHT_CLASSES",822,.ref 386),("LEFT_CLASSES",831,.ref 387)]
noncomputable def r9:ai (ak×ak×ak):=r8
noncomputable def xi:ai (Str×ak×Yj):=ap (ap (ap q9 [("IdnaFlags",872,.ref 405)]) (qs TI)) (qs TE)
noncomputable def IJ:ai (ak×ak×ak):=r9++[(343,0,393)]++rs TI++rs TE
noncomputable def vM:ai (Str×ak×Yj):=ap xi (qs TD)
noncomputable def Hz:ai (ak×ak×ak):=IJ++rs TD
noncomputable def pX:ai (Str×ak×Yj):=ap (ap vM (qs Tm)) (qs Q4)
noncomputable def K':ai (ak×ak×ak):=Hz++rs Tm++rs Q4
noncomputable def nh:ai (Str×ak×Yj):=ap (ap pX [("RangeMap",1207,.ref 632)]) (qs Tl)
noncomputable def Ob:ai (ak×ak×ak):=K'++[(559,0,595)]++rs Tl
noncomputable def xy:ai (Str×ak×Yj):=ap (ap nh (qs Tk)) [("Data",1288,.ref 688)]
noncomputable def KS:ai (ak×ak×ak):=Ob++rs Tk++[(608,0,656)]
noncomputable def uO:ai (Str×ak×Yj):=ap xy [("_law_rows",1483,.ref 693)]
noncomputable def MD:ai (ak×ak×ak):=KS
noncomputable def mA:ai (Str×ak×Yj):=ap uO [("_law_pieces",1576,.ref 781)]
noncomputable def Ms:ai (ak×ak×ak):=MD
noncomputable def sH:ai (Str×ak×Yj):=ap mA [("_law_known",1619,.ref 782)]
noncomputable def AN:ai (ak×ak×ak):=Ms
noncomputable def KG:ai (Str×ak×Yj):=ap sH (qs SZ)
noncomputable def Rb:ai (ak×ak×ak):=AN++rs SZ
noncomputable def t1(P:ei):ai Obj:=g1 P []
noncomputable def t2(P:ei):ai Obj:=g1 P [.ref 52]++g2 P
noncomputable def t3(P:ei):ai Obj:=g1 P [.ref 52,.ref 64]++g2 P++g3 P
noncomputable def t4(P:ei):ai Obj:=t3 P++g4 P
noncomputable def t5(P:ei):ai Obj:=t4 P++g5 P
noncomputable def t6(P:ei):ai Obj:=t5 P++g6 P
noncomputable def t7(P:ei):ai Obj:=t6 P++g7 P
noncomputable def t8(P:ei):ai Obj:=t7 P++g8 P
noncomputable def t9(P:ei):ai Obj:=t8 P++g9 P
noncomputable def L7(P:ei):ai Obj:=t9 P++BC P
noncomputable def Oy(P:ei):ai Obj:=L7 P++yg P
noncomputable def H5(P:ei):ai Obj:=Oy P++kr P
noncomputable def xF(P:ei):ai Obj:=H5 P++sR P
noncomputable def G3(P:ei):ai Obj:=xF P++tw P
noncomputable def Hv(P:ei):ai Obj:=G3 P++zE P
noncomputable def Kg(P:ei):ai Obj:=Hv P++zg P
noncomputable def NU(P:ei):ai Obj:=Kg P++ao P
noncomputable def au(P:ei):ai Obj:=NU P++Q5 P
def obs(P:ei)(d:Obj)(b:Yj)(a:ai (Str×ak×Yj))(c:ak)(r:ai (ak×ak×ak))(t:ai Obj):ai Obj:=boot_o_0 P::boot_o_1 P::d::di (b3 P b++ents P a) c::boot_o_4 P::boot_o_5 P::boot_o_6 P::boot_o_7 P::boot_o_8 P::boot_o_9 P::boot_o_10 P::tu []::fi .none (NT r)::aeQ "<module>" 182 1 11::L? 13 3 m0::t
noncomputable def d2(P:ei):Obj:=dn [e P "type.__subclasses__.Exception.0" 227 (.int 39 0),e P "type.__subclasses__.Exception.n" 228 (.int 1 0)] 2
def S(a:ei->ai Obj)(b k:ak)(w:jw)(c:Qg):SharedT:=⟨bt 11 (a w.params),b,lf,#[],Y3,k,c⟩
def o0(P:ei):ai Obj:=obs P (boot_o_2 P) m0 [] 9 [] []
def o1(P:ei):ai Obj:=obs P (d2 P) m1 q1 14 r1 (t1 P)
def o2(P:ei):ai Obj:=obs P (d2 P) m1 q2 15 r2 (t2 P)
def o3(P:ei):ai Obj:=obs P (d2 P) m2 q3 26 r3 (t3 P)
def o4(P:ei):ai Obj:=obs P (d2 P) m3 q4 39 r4 (t4 P)
def o5(P:ei):ai Obj:=obs P (d2 P) m3 q5 43 r5 (t5 P)
def o6(P:ei):ai Obj:=obs P (d2 P) m4 q6 53 r6 (t6 P)
def o7(P:ei):ai Obj:=obs P (d2 P) m4 q7 56 r7 (t7 P)
def o8(P:ei):ai Obj:=obs P (d2 P) m5 q8 69 r8 (t8 P)
def o9(P:ei):ai Obj:=obs P (d2 P) m5 q9 86 r9 (t9 P)
def Ph(P:ei):ai Obj:=obs P (d2 P) m5 xi 91 IJ (L7 P)
def JU(P:ei):ai Obj:=obs P (d2 P) m5 vM 104 Hz (Oy P)
def JM(P:ei):ai Obj:=obs P (d2 P) m6 pX 114 K' (H5 P)
def H0(P:ei):ai Obj:=obs P (d2 P) m7 nh 116 Ob (xF P)
def Iq(P:ei):ai Obj:=obs P (d2 P) m8 xy 118 KS (G3 P)
def OU(P:ei):ai Obj:=obs P (d2 P) m8 uO 119 MD (Hv P)
def O5(P:ei):ai Obj:=obs P (d2 P) m8 mA 120 Ms (Kg P)
def JE(P:ei):ai Obj:=obs P (d2 P) m8 sH 121 AN (NU P)
def nS(P:ei):ai Obj:=obs P (d2 P) m8 KG 130 Rb (au P)
noncomputable def env:Env:={scope:=pw.main.scope,locals:=mainNs,globals:=mainNs,cells:=[],code:=.ref 13,frame:=Bc 14}
noncomputable def cE:Code:=.body (GT pw) env
noncomputable def sl(i a:ak):ai hI:=((GT pw).drop i).take a
noncomputable abbrev tf:ai Frame:=[topFrame default]
def Pc(a:ak)(b:ei->ai Obj)(m k i c:ak)(p:Pos)(f:ei->ai Obj)(h j:ak)(l:Pos)(w:jw):Prop:=(λd=>segRunT Lk pw w 11 (Bc (.ref 6)) 1 a (S b m k w d) (piecesOf (sl i c) env cE p tf))=λd=>Bc (.next,S f h j w d,cE,l)
end
theorem pk(h:(λA=>Fast.tw10110043849684766642 Fast.tw14364793385576792824 pw w 11 (Bc (.ref 6)) 1 n (S T m k w A) {cur:=Sem.wrap doneF deadEnd id id (Fast.tw12563942051412417395 (sl i c) env),code:=cE,pos:=p,stack:=tf})=λA=>Bc (.next,S T' m' k' w A,cE,p')):Pc n T m k i c p T' m' k' p' w:=by unfold Pc piecesOf;rw[Fast.te10110043849684766642,Pi,Fast.te12563942051412417395];exact h
theorem p1(w:jw):Pc 295 o0 15 187 0 6 ⟨0,0,0,0⟩ o1 43 231 ⟨8,0,11,24⟩ w:=pk (by rfl')
theorem p2(w:jw):Pc 214 o1 43 231 6 1 ⟨8,0,11,24⟩ o2 55 247 ⟨12,0,13,8⟩ w:=pk (by rfl')
theorem p3(w:jw):Pc 397 o2 55 247 7 12 ⟨12,0,13,8⟩ o3 95 309 ⟨38,0,38,6⟩ w:=pk (by rfl')
theorem p4(w:jw):Pc 395 o3 95 309 19 14 ⟨38,0,38,6⟩ o4 171 427 ⟨117,0,120,72⟩ w:=pk (by rfl')
theorem p5(w:jw):Pc 395 o4 171 427 33 4 ⟨117,0,120,72⟩ o5 229 512 ⟨155,0,156,37⟩ w:=pk (by rfl')
theorem p6(w:jw):Pc 178 o5 229 512 37 11 ⟨155,0,156,37⟩ o6 252 565 ⟨187,0,187,8⟩ w:=pk (by rfl')
theorem p7(w:jw):Pc 372 o6 252 565 48 3 ⟨187,0,187,8⟩ o7 303 649 ⟨215,0,222,15⟩ w:=pk (by rfl')
theorem p8(w:jw):Pc 391 o7 303 649 51 14 ⟨215,0,222,15⟩ o8 382 774 ⟨325,0,325,11⟩ w:=pk (by rfl')
theorem p9(w:jw):Pc 190 o8 382 774 65 17 ⟨325,0,325,11⟩ o9 388 832 ⟨342,0,342,12⟩ w:=pk (by rfl')
theorem p10(w:jw):Pc 372 o9 388 832 82 5 ⟨342,0,342,12⟩ Ph 439 920 ⟨379,0,387,36⟩ w:=pk (by rfl')
theorem p11(w:jw):Pc 390 Ph 439 920 87 13 ⟨379,0,387,36⟩ JU 520 1033 ⟨469,0,484,16⟩ w:=pk (by rfl')
theorem UD(w:jw):Pc 335 JU 520 1033 100 11 ⟨469,0,484,16⟩ JM 590 1140 ⟨557,0,558,76⟩ w:=pk (by rfl')
theorem UU(w:jw):Pc 399 JM 590 1140 111 3 ⟨557,0,558,76⟩ H0 644 1222 ⟨595,0,595,8⟩ w:=pk (by rfl')
theorem ZN(w:jw):Pc 364 H0 644 1222 114 3 ⟨595,0,595,8⟩ Iq 693 1291 ⟨628,0,628,8⟩ w:=pk (by rfl')
theorem RI(w:jw):Pc 648 Iq 693 1291 117 1 ⟨628,0,628,8⟩ OU 749 1484 ⟨629,0,629,9⟩ w:=byRow2 "special-get-raises" (λw=>pk (by rfl')) (λw=>pk (by rfl')) w
theorem p16(w:jw):Pc 167 OU 749 1484 118 1 ⟨629,0,629,9⟩ O5 782 1577 ⟨630,0,630,11⟩ w:=pk (by rfl')
theorem Tq(w:jw):Pc 231 O5 782 1577 119 1 ⟨630,0,630,11⟩ JE 794 1620 ⟨631,0,631,10⟩ w:=byRow2 "special-get-raises" (λw=>pk (by rfl')) (λw=>pk (by rfl')) w
theorem RA(w:jw):Pc 268 JE 794 1620 120 9 ⟨631,0,631,10⟩ nS 847 1699 ⟨728,0,761,105⟩ w:=pk (by rfl')
noncomputable section
theorem pre(w:jw):(λa=>topGo Lk pw w 11 (Bc (.ref 6)) 12 ⟨Lj w.params,zn [],Y3,XV,a⟩ (topStub pw))=λa=>Bc ((S o0 15 187 w a).abs,⟨denote Lk cE,cE,⟨0,0,0,0⟩,tf⟩):=by rw[Fast.te15667345088766844465,Pi,Fast.te11892475500146522536];rfl'
theorem blk(w:jw):(λa=>segRun Lk pw w 11 (Bc (.ref 6)) 1 1 (S o0 15 187 w a).abs (blockOf (GT pw) env cE ⟨0,0,0,0⟩ tf))=λa=>Bc (.next,(S o0 15 187 w a).abs,cE,⟨0,0,0,0⟩):=by rw[Fast.te14374325043358763698,Pi];rfl'
theorem fin(w:jw):(λa=>topRun Lk pw w 11 (Bc (.ref 6)) 2 (S nS 847 1699 w a).abs ⟨doneF .next,cE,⟨728,0,761,105⟩,tf⟩)=λa=>Bc (S nS 847 1699 w a).abs:=by rw[Fast.te14082659384304107361,Pi];rfl'
theorem Wm:GT pw=sl 0 6++(sl 6 1++(sl 7 12++(sl 19 14++(sl 33 4++(sl 37 11++(sl 48 3++(sl 51 14++(sl 65 17++(sl 82 5++(sl 87 13++(sl 100 11++(sl 111 3++(sl 114 3++(sl 117 1++(sl 118 1++(sl 119 1++(sl 120 9++[]))))))))))))))))):=by rfl'
theorem seg(a:Qg)(h:Pc n T m k i c p b d f j w):segRun Lk pw w 11 (Bc (.ref 6)) 1 n (S T m k w a).abs (piecesOf (sl i c) env cE p tf)=Bc (.next,(S b d f w a).abs,cE,j):=segRun_of (lU h a)
theorem chain(w:jw)(a:Qg):topRun Lk pw w 11 (Bc (.ref 6)) (12+(1+(295+(214+(397+(395+(395+(178+(372+(391+(190+(372+(390+(335+(399+(364+(648+(167+(231+(268+2)))))))))))))))))))) ⟨Lj w.params,zn [],Y3,XV,a⟩ (topStub pw)=Bc (S nS 847 1699 w a).abs:=by refine go_top (lU (pre w) a) (piece_block (lU (blk w) a) ?_);rw[Wm];exact piece_app (seg a (p1 w))<|piece_app (seg a (p2 w))<|piece_app (seg a (p3 w))<|piece_app (seg a (p4 w))<|piece_app (seg a (p5 w))<|piece_app (seg a (p6 w))<|piece_app (seg a (p7 w))<|piece_app (seg a (p8 w))<|piece_app (seg a (p9 w))<|piece_app (seg a (p10 w))<|piece_app (seg a (p11 w))<|piece_app (seg a (UD w))<|piece_app (seg a (UU w))<|piece_app (seg a (ZN w))<|piece_app (seg a (RI w))<|piece_app (seg a (p16 w))<|piece_app (seg a (Tq w))<|piece_app (seg a (RA w))<|piece_nil (lU (fin w) a)
end
noncomputable section
def q:uV:={pw with main:={pw.main with body:=[st 128]}}
def loose:ai Str:=pw.boundNames.filter λa=>a !=("law":Str)
def H1(P:ei):ff:=absHeap (bt 11 (nS P)) 847 lf
theorem S6:∀w:jw,(fencedOpening Lk pw w 7000).map (λs=>(s.heap,s.gens,s.drawn,s.toks))=Bc (Lj w.params,zn [],Y3,XV):=boot_open (by rfl') (by decide+kernel) (λs=>by rw[Fast.te14289696077712309145];rfl')
theorem Zv:∀w:jw,((Lj w.params).isNs Hr&&(zn []:iO GenState).size==0,(Lj w.params).objs.size,(Lj w.params).nsMap Hr "__annotations__")=(D1,11,Bc (.ref 6)):=λw=>by rfl'
end
noncomputable section
def E(w:jw)(a:Qg):a8:=⟨H1 w.params,#[],Y3,1699,a⟩
abbrev mods:ai Str:=importedModules pw.main.body
theorem k1(w:jw):(λa=>(staticsOk mods (Lj w.params) (H1 w.params)&&namesBound pw (H1 w.params)&&gensDone (E w a)&&laidKept (Lj w.params) (H1 w.params)))=λY=>D1:=by rfl'
end
noncomputable section
theorem k2(w:jw):(λa=>openSeen q loose mods (λY=>D1) D1 (E w a))=λY=>openGood q loose:=by rw[Fast.te4187177175401517315];rfl'
end
noncomputable section
theorem left:LeftO pw q loose (λY=>D1) (λs=>s.heap) (λw=>H1 w.params) 7000:=by refine LeftO.of_pieces S6 Zv chain ?_ λw=>funext λa=>Prod.ext (lU (k1 w) a) (Prod.ext (lU (k2 w) a) rfl);rfl'
end
section
open TablesWhole
noncomputable abbrev M0:=PySem.Challenge.rw_nt0079_01.row.prog.main
theorem wA{f g e}(t c s)(b:List Stmt):∀a:List Stmt,wSs ⟨f,g,e,true,false,λa b=>a&&b⟩ t c s a=true->wSs ⟨f,g,e,true,false,λa b=>a&&b⟩ t c s b=true->wSs ⟨f,g,e,true,false,λa b=>a&&b⟩ t c s (a++b)=true:=by
 intro a h k;induction a with|nil=>exact k|cons x r i=>
 have h:(wS ⟨f,g,e,true,false,λa b=>a&&b⟩ t c s x&&wSs ⟨f,g,e,true,false,λa b=>a&&b⟩ t c s r)=true:=h
 rw[Bool.and_eq_true]at h;show(wS ⟨f,g,e,true,false,λa b=>a&&b⟩ t c s x&&wSs ⟨f,g,e,true,false,λa b=>a&&b⟩ t c s (r++b))=true
 rw[h.1,i h.2];rfl
theorem wG(t c s)(b:List Stmt):∀a:List Stmt,wSs gather t c s a=[]->wSs gather t c s b=[]->wSs gather t c s (a++b)=[]:=by
 intro a h k;induction a with|nil=>exact k|cons x r i=>
 have h:wS gather t c s x++wSs gather t c s r=[]:=h
 rw[List.append_eq_nil_iff]at h;show wS gather t c s x++wSs gather t c s (r++b)=[]
 rw[h.1,i h.2];rfl
noncomputable def wp(f:Scope->Str->Option Pos->Bool)(g:String->Scope->Str->Bool->Bool)(e:Scope->Bool)(i:Nat):Bool:=wSs ⟨f,g,e,true,false,λa b=>a&&b⟩ M0.scope ⟨M0.scope,[],[],[],none⟩ M0.scope ((M0.body.drop i).take 16)
noncomputable def wq(i:Nat):Bool:=(wSs gather M0.scope ⟨M0.scope,[],[],[],none⟩ M0.scope ((M0.body.drop i).take 16)).isEmpty
theorem wS1{f g e i}(h:wp f g e i=true)(k:wSs ⟨f,g,e,true,false,λa b=>a&&b⟩ M0.scope ⟨M0.scope,[],[],[],none⟩ M0.scope (M0.body.drop (i+16))=true):wSs ⟨f,g,e,true,false,λa b=>a&&b⟩ M0.scope ⟨M0.scope,[],[],[],none⟩ M0.scope (M0.body.drop i)=true:=by
 have b:=wA _ _ _ _ _ h (List.drop_drop▸k);rwa[List.take_append_drop]at b
theorem wS2{i}(h:wq i=true)(k:wSs gather M0.scope ⟨M0.scope,[],[],[],none⟩ M0.scope (M0.body.drop (i+16))=[]):wSs gather M0.scope ⟨M0.scope,[],[],[],none⟩ M0.scope (M0.body.drop i)=[]:=by
 have b:=wG _ _ _ _ _ (List.isEmpty_iff.mp h) (List.drop_drop▸k);rwa[List.take_append_drop]at b
theorem wM{f g e}(a:e M0.scope=true)(b:g "no name twice in a table, but a class's lawful pair" M0.scope "(the table)" (noTwice M0.scope)=true)(h:∀i∈[0,16,32,48,64,80,96,112,128],wp f g e i=true):wModule ⟨f,g,e,true,false,λa b=>a&&b⟩ M0=true:=by
 have k:wSs gather M0.scope ⟨M0.scope,[],[],[],none⟩ M0.scope M0.body=[]:=wS2 (i:=0) (by decide +kernel) (wS2 (by decide +kernel) (wS2 (by decide +kernel) (wS2 (by decide +kernel) (wS2 (by decide +kernel) (wS2 (by decide +kernel) (wS2 (by decide +kernel) (wS2 (by decide +kernel) (wS2 (by decide +kernel) (by kernel_rfl)))))))))
 have l:wSs ⟨f,g,e,true,false,λa b=>a&&b⟩ M0.scope ⟨M0.scope,[],[],[],none⟩ M0.scope M0.body=true:=wS1 (i:=0) (h _ (by simp)) (wS1 (h _ (by simp)) (wS1 (h _ (by simp)) (wS1 (h _ (by simp)) (wS1 (h _ (by simp)) (wS1 (h _ (by simp)) (wS1 (h _ (by simp)) (wS1 (h _ (by simp)) (wS1 (h _ (by simp)) (by kernel_rfl)))))))))
 show(e M0.scope&&(g _ M0.scope _ (noTwice M0.scope)&&(wSs ⟨f,g,e,true,false,λa b=>a&&b⟩ M0.scope ⟨M0.scope,[],wSs gather M0.scope ⟨M0.scope,[],[],[],none⟩ M0.scope M0.body,[],none⟩ M0.scope M0.body&&true)))=true
 rw[a,b,k,l];rfl
theorem wP{p:Program}(h:wModule holds p.main=true)(a:p.modules=[])(b:p.parses=[])(c:p.harvested=[]):p.tablesWhole=true:=by
 unfold Program.tablesWhole wProgram;rw[a,b,c];show(wModule holds p.main&&true)=true;rw[h];rfl
theorem wT:PySem.Challenge.rw_nt0079_01.row.prog.tablesWhole=true:=wP (p:=PySem.Challenge.rw_nt0079_01.row.prog) (wM (f:=λsc n _=>sc.bears n) (g:=λ_ _ _ o=>o) (e:=λ_=>true) rfl (by decide +kernel) (λi m=>by simp only[List.mem_cons,List.not_mem_nil,or_false]at m;rcases m with rfl|rfl|rfl|rfl|rfl|rfl|rfl|rfl|rfl<;>decide +kernel)) rfl rfl rfl
theorem rF3{f:Str->Bool}{a b c}(h:f a=false)(i:f b=false)(j:f c=false):List.filter f [a,b,c]=[]:=by simp[h,i,j]
theorem rv:readsOut PySem.Challenge.rw_nt0079_01.row.prog M0.body (Str.ofString "vars")=false:=by rw[Fast.te13343964577679436407];decide +kernel
theorem rd:readsOut PySem.Challenge.rw_nt0079_01.row.prog M0.body (Str.ofString "dir")=false:=by rw[Fast.te13343964577679436407];decide +kernel
theorem rl:readsOut PySem.Challenge.rw_nt0079_01.row.prog M0.body (Str.ofString "locals")=false:=by rw[Fast.te13343964577679436407];decide +kernel
theorem rL:noRoadLSs {strict:= !(importedModules M0.body).all cThrough.contains,foot:=none,bare:=List.filter (readsOut PySem.Challenge.rw_nt0079_01.row.prog M0.body) [Str.ofString "vars",Str.ofString "dir",Str.ofString "locals"]} M0.body=true:=by
 rw[show(!(importedModules M0.body).all cThrough.contains)=false by decide +kernel,rF3 rv rd rl,aq4];decide +kernel
end
theorem VK(c:a=D1)(y:b=D1):(a&&b)=D1:=by rw[c,y];rfl
theorem aaR:PySem.Challenge.rw_nt0079_01.wellSaid=D1:=by
 unfold OpenLaw.wellSaid OpenRow.wellSaid OpenRow.partSaid looksOpen
 repeat' with_reducible apply VK
 .rw[Fast.te11788848310118352699];decide +kernel
 .rw[Fast.te9807087744658564304,Fast.te12862048085361865435];decide +kernel
 .rw[Fast.te8377067652309620493];decide +kernel
 .rw[R.allR_eq,Pv,K3,Fast.te14412699480532031325];decide +kernel
 .exact rL
 .rw[Ps,Fast.te17868728402115742887];decide +kernel
 .decide +kernel
 .decide +kernel
 .rw[R.allR_eq,Fast.te9706382859710513879];decide +kernel
 .rw[R.allR_eq,K3,Pv,Fast.te2357444279172408678];decide +kernel
 .rw[R.mapR_eq];decide +kernel
 .rw[R.allR_eq,Fast.te4857012375875476094,r',K3,Pv];decide +kernel
 .decide +kernel
 .decide +kernel
 .decide +kernel
 .decide +kernel
 .rw[R.allR_eq,Fast.te4579403493507170074,R.anyR_eq,Fast.te4274047373036748609];decide +kernel
 .rw[R.allR_eq];decide +kernel
 .decide +kernel
 .rw[K3,Pv];decide +kernel
 .rw[K3,Fast.te12749700546528644094];decide +kernel
 .decide +kernel
 .rw[R.allR_eq,Fast.te10501279942588096481];decide +kernel
 .rw[Fast.te8179353310426384613];decide +kernel
 .decide +kernel
 .decide +kernel
 .rw[aq4,aq8,aq3];decide +kernel
 .rw[Fast.te9558739934217749035];decide +kernel
 .rw[Fast.te16286561074155671207];decide +kernel
 .rw[R.allR_eq];decide +kernel
 .rw[R.allR_eq,aq8,r',G'];decide +kernel
 .rw[R.allR_eq,apw,apx,G'];decide +kernel
 .rw[R.allR_eq,apw,apx,G',Fast.te482687673346738481];decide +kernel
 .rw[Ps,K3,aq3];decide +kernel
 .rw[K3,Os];decide +kernel
 .rw[Fast.te7723801398212525404,Os];decide +kernel
 .rw[R.allR_eq,Os,r'];decide +kernel
 .rw[Ps,K3,Os];decide +kernel
 .rw[Ps];decide +kernel
noncomputable section
def YP(w:jw)(h:ff):Prop:=∀b a,(H1 w.params).get? b=Bc a->h.get? b=Bc a
noncomputable def BZ:OpenRow:=PySem.Challenge.rw_nt0079_01.row
def dl:DefRec:=Re (st 128) {name:="",params:=default,body:=[],scope:=default,pos:=default} λc a b s p=>{name:=c,params:=a,body:=b,scope:=s,pos:=p}
theorem acV(call:WalkO q loose (λY Y=>Cm) YP BZ.toRowW dl [] λf A=>Q? f A):PySem.Challenge.rw_nt0079_01.Holds:=by
 refine holds_law aaR λk1=>holds_open (q:=q) (loose:=loose) (Xt:=λY=>D1) (XP:=λY Y=>Cm) (YP:=YP) (d:=dl) (kwd:=[]) left ?_ ?_ ?_ ?_ ?_ ?_ ?_ ?_ ?_ k1 ?_ ?_ ?_ call
 .intro w s e b o h
  have e:s.heap=H1 w.params:=e;rw[e];exact h
 .exactλw h B y k b o e=>k b o (y b o e)
 .exactλY Y=>trivial
 .exactλY Y Y Y Y=>trivial
 .kernel_rfl
 .kernel_rfl
 .kernel_rfl
 .exactλs Y=>recFacts_nil rfl
 .kernel_rfl
 .kernel_rfl
 .exact⟨rfl,rfl,rfl,rfl,rfl,wT⟩
 .exact⟨[.list []],by rfl',by rfl'⟩
end
end MH
end
set_option tactic.hygienic false
set_option genInjectivity false
set_option genSizeOf false
section
namespace Mine
def hQ:=@of_decide_eq_true
def mM:=@decide_eq_true
def ej:=@if_neg
def eI:=@if_pos
def gO:=@congrArg
def Lc:=@decide_eq_false
@[elab_as_elim]theorem aa{d:Sort _}{a b:d}{motive:d->Prop}(h:a=b)(c:motive b):motive a:=h▸c
@[elab_as_elim]theorem aD{d:Sort _}{a b:d}{motive:d->Prop}(h:a=b)(c:motive a):motive b:=h▸c
section
variable{G:Prop}{j r A B C F H J I:Prop}
theorem cV(h:j)(a:r)(b:A):j/\r/\A:=⟨h,a,b⟩
theorem qL(h:j)(a:r)(b:A)(c:B):j/\r/\A/\B:=⟨h,a,b,c⟩
theorem RQ(h:j)(a:r)(b:A)(c:B)(d:C):j/\r/\A/\B/\C:=⟨h,a,b,c,d⟩
theorem aU(h:j/\r)(k:j->r->G):G:=k h.1 h.2
theorem bD(h:j/\r/\A)(k:j->r->A->G):G:=k h.1 h.2.1 h.2.2
theorem pF(h:j/\r/\A/\B)(k:j->r->A->B->G):G:=k h.1 h.2.1 h.2.2.1 h.2.2.2
theorem Cj(h:j/\r/\A/\B/\C)(k:j->r->A->B->C->G):G:=k h.1 h.2.1 h.2.2.1 h.2.2.2.1 h.2.2.2.2
theorem HH(h:j/\r/\A/\B/\C/\F/\H)(k:j->r->A->B->C->F->H->G):G:=k h.1 h.2.1 h.2.2.1 h.2.2.2.1 h.2.2.2.2.1 h.2.2.2.2.2.1 h.2.2.2.2.2.2
theorem adt(h:j/\r/\A/\B/\C/\F/\H/\J/\I)(k:j->r->A->B->C->F->H->J->I->G):G:=k h.1 h.2.1 h.2.2.1 h.2.2.2.1 h.2.2.2.2.1 h.2.2.2.2.2.1 h.2.2.2.2.2.2.1 h.2.2.2.2.2.2.2.1 h.2.2.2.2.2.2.2.2
end
section
variable{a:Sort _}{G:Prop}{j r A B C F H:a->Prop}
theorem sP(b)(h:j b):∃b,j b:=⟨b,h⟩
theorem aF(b)(h:j b)(c:r b):∃b,j b/\r b:=⟨b,h,c⟩
theorem dX(b)(h:j b)(c:r b)(d:A b):∃b,j b/\r b/\A b:=⟨b,h,c,d⟩
theorem zJ(b)(h:j b)(c:r b)(d:A b)(f:B b):∃b,j b/\r b/\A b/\B b:=⟨b,h,c,d,f⟩
theorem eE(h:∃b,j b)(k:∀b,j b->G):G:=h.elim λb h=>k b h
theorem aj(h:∃b,j b/\r b)(k:∀b,j b->r b->G):G:=h.elim λb h=>k b h.1 h.2
theorem cJ(h:∃b,j b/\r b/\A b)(k:∀b,j b->r b->A b->G):G:=h.elim λb h=>k b h.1 h.2.1 h.2.2
theorem Bj(h:∃b,j b/\r b/\A b/\B b)(k:∀b,j b->r b->A b->B b->G):G:=h.elim λb h=>k b h.1 h.2.1 h.2.2.1 h.2.2.2
theorem VI(h:∃b,j b/\r b/\A b/\B b/\C b/\F b/\H b)(k:∀b,j b->r b->A b->B b->C b->F b->H b->G):G:=h.elim λb h=>k b h.1 h.2.1 h.2.2.1 h.2.2.2.1 h.2.2.2.2.1 h.2.2.2.2.2.1 h.2.2.2.2.2.2
end
section
variable{a b:Sort _}{G:Prop}{j r A B C F H J I:a->b->Prop}
theorem jY(c y)(h:j c y):∃c y,j c y:=⟨c,y,h⟩
theorem dm(c y)(h:j c y)(d:r c y):∃c y,j c y/\r c y:=⟨c,y,h,d⟩
theorem gy(c y)(h:j c y)(d:r c y)(f:A c y):∃c y,j c y/\r c y/\A c y:=⟨c,y,h,d,f⟩
theorem hY(c y)(h:j c y)(d:r c y)(f:A c y)(i:B c y):∃c y,j c y/\r c y/\A c y/\B c y:=⟨c,y,h,d,f,i⟩
theorem Dr(c y)(h:j c y)(d:r c y)(f:A c y)(i:B c y)(k:C c y):∃c y,j c y/\r c y/\A c y/\B c y/\C c y:=⟨c,y,h,d,f,i,k⟩
theorem pa(c y)(h:j c y)(d:r c y)(f:A c y)(i:B c y)(k:C c y)(l:F c y):∃c y,j c y/\r c y/\A c y/\B c y/\C c y/\F c y:=⟨c,y,h,d,f,i,k,l⟩
theorem qd(h:∃c y,j c y)(k:∀c y,j c y->G):G:=h.elim λc h=>h.elim λy h=>k c y h
theorem aS(h:∃c y,j c y/\r c y)(k:∀c y,j c y->r c y->G):G:=h.elim λc h=>h.elim λy h=>k c y h.1 h.2
theorem dG(h:∃c y,j c y/\r c y/\A c y)(k:∀c y,j c y->r c y->A c y->G):G:=h.elim λc h=>h.elim λy h=>k c y h.1 h.2.1 h.2.2
theorem fN(h:∃c y,j c y/\r c y/\A c y/\B c y)(k:∀c y,j c y->r c y->A c y->B c y->G):G:=h.elim λc h=>h.elim λy h=>k c y h.1 h.2.1 h.2.2.1 h.2.2.2
theorem Xw(h:∃c y,j c y/\r c y/\A c y/\B c y/\C c y)(k:∀c y,j c y->r c y->A c y->B c y->C c y->G):G:=h.elim λc h=>h.elim λy h=>k c y h.1 h.2.1 h.2.2.1 h.2.2.2.1 h.2.2.2.2
theorem Y8(h:∃c y,j c y/\r c y/\A c y/\B c y/\C c y/\F c y)(k:∀c y,j c y->r c y->A c y->B c y->C c y->F c y->G):G:=h.elim λc h=>h.elim λy h=>k c y h.1 h.2.1 h.2.2.1 h.2.2.2.1 h.2.2.2.2.1 h.2.2.2.2.2
theorem H6(h:∃c y,j c y/\r c y/\A c y/\B c y/\C c y/\F c y/\H c y/\J c y/\I c y)(k:∀c y,j c y->r c y->A c y->B c y->C c y->F c y->H c y->J c y->I c y->G):G:=h.elim λc h=>h.elim λy h=>k c y h.1 h.2.1 h.2.2.1 h.2.2.2.1 h.2.2.2.2.1 h.2.2.2.2.2.1 h.2.2.2.2.2.2.1 h.2.2.2.2.2.2.2.1 h.2.2.2.2.2.2.2.2
end
section
variable{a b c:Sort _}{G:Prop}{j r A B C F:a->b->c->Prop}
theorem FE(d y f)(h:j d y f):∃d y f,j d y f:=⟨d,y,f,h⟩
theorem wm(d y f)(h:j d y f)(i:r d y f):∃d y f,j d y f/\r d y f:=⟨d,y,f,h,i⟩
theorem rP(d y f)(h:j d y f)(i:r d y f)(k:A d y f):∃d y f,j d y f/\r d y f/\A d y f:=⟨d,y,f,h,i,k⟩
theorem qj(d y f)(h:j d y f)(i:r d y f)(k:A d y f)(l:B d y f):∃d y f,j d y f/\r d y f/\A d y f/\B d y f:=⟨d,y,f,h,i,k,l⟩
theorem Fs(d y f)(h:j d y f)(i:r d y f)(k:A d y f)(l:B d y f)(m:C d y f):∃d y f,j d y f/\r d y f/\A d y f/\B d y f/\C d y f:=⟨d,y,f,h,i,k,l,m⟩
theorem NN(d y f)(h:j d y f)(i:r d y f)(k:A d y f)(l:B d y f)(m:C d y f)(p:F d y f):∃d y f,j d y f/\r d y f/\A d y f/\B d y f/\C d y f/\F d y f:=⟨d,y,f,h,i,k,l,m,p⟩
theorem FQ(h:∃d y f,j d y f)(k:∀d y f,j d y f->G):G:=h.elim λd h=>h.elim λy h=>h.elim λf h=>k d y f h
theorem so(h:∃d y f,j d y f/\r d y f)(k:∀d y f,j d y f->r d y f->G):G:=h.elim λd h=>h.elim λy h=>h.elim λf h=>k d y f h.1 h.2
theorem mJ(h:∃d y f,j d y f/\r d y f/\A d y f)(k:∀d y f,j d y f->r d y f->A d y f->G):G:=h.elim λd h=>h.elim λy h=>h.elim λf h=>k d y f h.1 h.2.1 h.2.2
theorem wL(h:∃d y f,j d y f/\r d y f/\A d y f/\B d y f)(k:∀d y f,j d y f->r d y f->A d y f->B d y f->G):G:=h.elim λd h=>h.elim λy h=>h.elim λf h=>k d y f h.1 h.2.1 h.2.2.1 h.2.2.2
theorem vt(h:∃d y f,j d y f/\r d y f/\A d y f/\B d y f/\C d y f)(k:∀d y f,j d y f->r d y f->A d y f->B d y f->C d y f->G):G:=h.elim λd h=>h.elim λy h=>h.elim λf h=>k d y f h.1 h.2.1 h.2.2.1 h.2.2.2.1 h.2.2.2.2
theorem Bt(h:∃d y f,j d y f/\r d y f/\A d y f/\B d y f/\C d y f/\F d y f)(k:∀d y f,j d y f->r d y f->A d y f->B d y f->C d y f->F d y f->G):G:=h.elim λd h=>h.elim λy h=>h.elim λf h=>k d y f h.1 h.2.1 h.2.2.1 h.2.2.2.1 h.2.2.2.2.1 h.2.2.2.2.2
end
section
variable{a b c d:Sort _}{G:Prop}{j r A B C F:a->b->c->d->Prop}
theorem Dy(f y h u)(i:j f y h u)(k:r f y h u):∃f y h u,j f y h u/\r f y h u:=⟨f,y,h,u,i,k⟩
theorem Vc(f y h u)(i:j f y h u)(k:r f y h u)(l:A f y h u):∃f y h u,j f y h u/\r f y h u/\A f y h u:=⟨f,y,h,u,i,k,l⟩
theorem qf(f y h u)(i:j f y h u)(k:r f y h u)(l:A f y h u)(m:B f y h u):∃f y h u,j f y h u/\r f y h u/\A f y h u/\B f y h u:=⟨f,y,h,u,i,k,l,m⟩
theorem HZ(f y h u)(i:j f y h u)(k:r f y h u)(l:A f y h u)(m:B f y h u)(p:C f y h u):∃f y h u,j f y h u/\r f y h u/\A f y h u/\B f y h u/\C f y h u:=⟨f,y,h,u,i,k,l,m,p⟩
theorem M9(f y h u)(i:j f y h u)(k:r f y h u)(l:A f y h u)(m:B f y h u)(p:C f y h u)(s:F f y h u):∃f y h u,j f y h u/\r f y h u/\A f y h u/\B f y h u/\C f y h u/\F f y h u:=⟨f,y,h,u,i,k,l,m,p,s⟩
theorem CL(h:∃f y i u,j f y i u/\r f y i u)(k:∀f y i u,j f y i u->r f y i u->G):G:=h.elim λf h=>h.elim λy h=>h.elim λi h=>h.elim λu h=>k f y i u h.1 h.2
theorem E9(h:∃f y i u,j f y i u/\r f y i u/\A f y i u)(k:∀f y i u,j f y i u->r f y i u->A f y i u->G):G:=h.elim λf h=>h.elim λy h=>h.elim λi h=>h.elim λu h=>k f y i u h.1 h.2.1 h.2.2
theorem lz(h:∃f y i u,j f y i u/\r f y i u/\A f y i u/\B f y i u)(k:∀f y i u,j f y i u->r f y i u->A f y i u->B f y i u->G):G:=h.elim λf h=>h.elim λy h=>h.elim λi h=>h.elim λu h=>k f y i u h.1 h.2.1 h.2.2.1 h.2.2.2
theorem kW(h:∃f y i u,j f y i u/\r f y i u/\A f y i u/\B f y i u/\C f y i u)(k:∀f y i u,j f y i u->r f y i u->A f y i u->B f y i u->C f y i u->G):G:=h.elim λf h=>h.elim λy h=>h.elim λi h=>h.elim λu h=>k f y i u h.1 h.2.1 h.2.2.1 h.2.2.2.1 h.2.2.2.2
theorem xC(h:∃f y i u,j f y i u/\r f y i u/\A f y i u/\B f y i u/\C f y i u/\F f y i u)(k:∀f y i u,j f y i u->r f y i u->A f y i u->B f y i u->C f y i u->F f y i u->G):G:=h.elim λf h=>h.elim λy h=>h.elim λi h=>h.elim λu h=>k f y i u h.1 h.2.1 h.2.2.1 h.2.2.2.1 h.2.2.2.2.1 h.2.2.2.2.2
end
section
variable{a b c d e:Sort _}{G:Prop}{j r A B:a->b->c->d->e->Prop}
theorem aeo(f y h u v)(i:j f y h u v):∃f y h u v,j f y h u v:=⟨f,y,h,u,v,i⟩
theorem abC(f y h u v)(i:j f y h u v)(k:r f y h u v)(l:A f y h u v)(m:B f y h u v):∃f y h u v,j f y h u v/\r f y h u v/\A f y h u v/\B f y h u v:=⟨f,y,h,u,v,i,k,l,m⟩
end
section
variable{a b c d e f:Sort _}{G:Prop}{j r A B C F:a->b->c->d->e->f->Prop}
theorem ach(h y i u v w)(k:j h y i u v w):∃h y i u v w,j h y i u v w:=⟨h,y,i,u,v,w,k⟩
theorem Wa(h y i u v w)(k:j h y i u v w)(l:r h y i u v w)(m:A h y i u v w)(p:B h y i u v w)(s:C h y i u v w):∃h y i u v w,j h y i u v w/\r h y i u v w/\A h y i u v w/\B h y i u v w/\C h y i u v w:=⟨h,y,i,u,v,w,k,l,m,p,s⟩
theorem PY(h:∃i y l u v w,j i y l u v w)(k:∀i y l u v w,j i y l u v w->G):G:=h.elim λi h=>h.elim λy h=>h.elim λl h=>h.elim λu h=>h.elim λv h=>h.elim λw h=>k i y l u v w h
theorem HK(h:∃i y l u v w,j i y l u v w/\r i y l u v w/\A i y l u v w/\B i y l u v w/\C i y l u v w)(k:∀i y l u v w,j i y l u v w->r i y l u v w->A i y l u v w->B i y l u v w->C i y l u v w->G):G:=h.elim λi h=>h.elim λy h=>h.elim λl h=>h.elim λu h=>h.elim λv h=>h.elim λw h=>k i y l u v w h.1 h.2.1 h.2.2.1 h.2.2.2.1 h.2.2.2.2
theorem Km(h:∃i y l u v w,j i y l u v w/\r i y l u v w/\A i y l u v w/\B i y l u v w/\C i y l u v w/\F i y l u v w)(k:∀i y l u v w,j i y l u v w->r i y l u v w->A i y l u v w->B i y l u v w->C i y l u v w->F i y l u v w->G):G:=h.elim λi h=>h.elim λy h=>h.elim λl h=>h.elim λu h=>h.elim λv h=>h.elim λw h=>k i y l u v w h.1 h.2.1 h.2.2.1 h.2.2.2.1 h.2.2.2.2.1 h.2.2.2.2.2
end
section
variable{a b c d e f g:Sort _}{G:Prop}{j r A B C F:a->b->c->d->e->f->g->Prop}
theorem WV(h y i u v w s)(k:j h y i u v w s)(l:r h y i u v w s)(m:A h y i u v w s)(p:B h y i u v w s):∃h y i u v w s,j h y i u v w s/\r h y i u v w s/\A h y i u v w s/\B h y i u v w s:=⟨h,y,i,u,v,w,s,k,l,m,p⟩
theorem Yz(h:∃i y l u v w s,j i y l u v w s)(k:∀i y l u v w s,j i y l u v w s->G):G:=h.elim λi h=>h.elim λy h=>h.elim λl h=>h.elim λu h=>h.elim λv h=>h.elim λw h=>h.elim λs h=>k i y l u v w s h
theorem adG(h:∃i y l u v w s,j i y l u v w s/\r i y l u v w s/\A i y l u v w s/\B i y l u v w s/\C i y l u v w s/\F i y l u v w s)(k:∀i y l u v w s,j i y l u v w s->r i y l u v w s->A i y l u v w s->B i y l u v w s->C i y l u v w s->F i y l u v w s->G):G:=h.elim λi h=>h.elim λy h=>h.elim λl h=>h.elim λu h=>h.elim λv h=>h.elim λw h=>h.elim λs h=>k i y l u v w s h.1 h.2.1 h.2.2.1 h.2.2.2.1 h.2.2.2.2.1 h.2.2.2.2.2
end
section
variable{a b c d e f g h:Sort _}{G:Prop}{j:a->b->c->d->e->f->g->h->Prop}
theorem qz(h:∃i y l u v w s t,j i y l u v w s t)(k:∀i y l u v w s t,j i y l u v w s t->G):G:=h.elim λi h=>h.elim λy h=>h.elim λl h=>h.elim λu h=>h.elim λv h=>h.elim λw h=>h.elim λs h=>h.elim λt h=>k i y l u v w s t h
end
theorem nM{P:b->Prop}:∀a∈([]:ai b),P a:=λY h=>aL h List.not_mem_nil
theorem nN{y:b}(a:x=some y):x≠none:=a▸Option.some_ne_none y
section
variable{a b c d e f m n p x y M:ak}
theorem q1(h:a+b<=m:=by assumption)(k:m<=n:=by decide):a<=n:=Nat.le_trans (Nat.le_trans (Nat.le_add_right _ _) h) k
theorem q2(h:a+b<=m:=by assumption)(k:m<=n:=by decide):b<=n:=Nat.le_trans (Nat.le_trans (Nat.le_add_left _ _) h) k
theorem q0(h:a<=m:=by assumption)(k:m<=n:=by decide):a<=n:=Nat.le_trans h k
theorem q3(h:a+(b+c)<=m:=by assumption)(k:m<=n:=by decide):a+b<=n:=Nat.le_trans (Nat.le_trans (Nat.add_le_add_left (Nat.le_add_right _ _) _) h) k
theorem q4(h:a+(b+c)<=m:=by assumption)(k:m<=n:=by decide):a+c+b<=n:=Nat.le_trans (Nat.le_of_eq ((Nat.add_right_comm a c b).trans (Nat.add_assoc a b c))) (Nat.le_trans h k)
theorem q5(h:a+e*(c+1)<=m:=by assumption)(i:b<=e:=by assumption)(k:m<=n:=by decide):a+b+e*c<=n:=Nat.le_trans (Nat.le_trans (Nat.le_of_eq (Nat.add_right_comm a b (e*c))) (Nat.le_trans (Nat.add_le_add_left i _) (Nat.le_of_eq (Nat.add_assoc a (e*c) e)))) (Nat.le_trans h k)
theorem RG(h:a+e*(c+1)<=m:=by assumption)(i:b<=f:=by assumption)(k:f+1<=e:=by decide)(l:m<=n:=by decide):a+(b+1)+e*c<=n:=q5 h (Nat.le_trans (Nat.succ_le_succ i) k) l
theorem q6(h:a<=m:=by assumption)(i:b<=c:=by assumption)(k:m+c<=n:=by decide):a+b<=n:=Nat.le_trans (Nat.add_le_add h i) k
theorem q8(h:a<=m:=by assumption)(k:m<n:=by decide):a<n:=Nat.lt_of_le_of_lt h k
theorem q9(h:a+b<m:=by assumption)(k:m<=n:=by decide):a<n:=Nat.lt_of_le_of_lt (Nat.le_add_right _ _) (Nat.lt_of_lt_of_le h k)
theorem xi(h:a+b*c+d<m:=by assumption)(k:m<=n:=by decide):a<n:=q9 (q9 h .refl) k
theorem vM(k:m<=n:=by assumption)(h:a+e*n+d<M:=by assumption):a+e*m+d<M:=Nat.lt_of_le_of_lt (Nat.add_le_add_right (Nat.add_le_add_left (Nat.mul_le_mul_left e k) a) d) h
theorem pX(h:a+e*(n+1)+d<M:=by assumption)(k:f<=e:=by decide):a+f+e*n+d<M:=Nat.lt_of_le_of_lt (Nat.add_le_add_right (q5 .refl k .refl) d) h
theorem nh(h:a+e*n+d<M:=by assumption)(k:f<=d:=by decide):a+f<M:=Nat.lt_of_le_of_lt (Nat.add_le_add (Nat.le_add_right _ _) k) h
theorem xy(h:a+d<M:=by assumption)(k:f<=d:=by decide):a+f<M:=Nat.lt_of_le_of_lt (Nat.add_le_add_left k _) h
theorem uO{n:a0}(h:a<=m:=by assumption)(k:(m:a0)<n:=by decide):(a:a0)<n:=Int.lt_of_le_of_lt (Int.ofNat_le.mpr h) k
theorem mA(h:a<b:=by assumption)(i:b<=m:=by assumption)(k:m<=n:=by decide):a<n:=Nat.lt_of_lt_of_le h (Nat.le_trans i k)
theorem sH(h:x=a:=by assumption)(i:y=b:=by assumption)(j:a<=m:=by assumption)(l:b<=p:=by assumption)(k:m+p<=n:=by decide):x+y<=n:=h▸i▸Nat.le_trans (Nat.add_le_add j l) k
theorem KG(h:a+(b+c+1)<=m:=by assumption)(k:m<=n:=by decide):b<=n:=Nat.le_trans (Nat.le_trans (Nat.le_add_right b (c+1)) (Nat.le_add_left _ a)) (Nat.le_trans h k)
theorem XF(h:a+b+(c+1)<=m:=by assumption)(k:m<=n:=by decide):a+1+c<=n:=Nat.le_trans (Nat.succ_add a c▸Nat.succ_le_succ (Nat.add_le_add_right (Nat.le_add_right a b) c)) (Nat.le_trans h k)
theorem adF(h:a+b+(c+1)<=m:=by assumption)(k:m<=n:=by decide):a+(b+1)+c<=n:=Nat.le_trans (Nat.le_of_eq (Nat.succ_add (a+b) c)) (Nat.le_trans h k)
theorem Zo(h:a+b+(c+1)<=m:=by assumption)(k:m<=n:=by decide):b<=n:=Nat.le_trans (Nat.le_trans (Nat.le_add_left b a) (Nat.le_add_right _ _)) (Nat.le_trans h k)
theorem aec(h:a+b+(c+1)<=m:=by assumption)(k:m<=n+1:=by decide):a<=n:=Nat.le_of_succ_le_succ (Nat.le_trans (Nat.le_trans (Nat.succ_le_succ (Nat.le_trans (Nat.le_add_right a b) (Nat.le_add_right _ c))) h) k)
theorem Pw(h:a<=c:=by assumption)(i:b<=d:=by assumption):b+a<=c+d:=Nat.add_comm b a▸Nat.add_le_add h i
theorem Qr(h:a<=m:=by assumption)(i:b<=p:=by assumption)(k:m+c*p<=n:=by decide):a+c*b<=n:=Nat.le_trans (Nat.add_le_add h (Nat.mul_le_mul_left c i)) k
theorem XR(h:a<=m:=by assumption)(i:x<=c*b:=by assumption)(l:b<=p:=by assumption)(k:m+c*p<=n:=by decide):a+x<=n:=Nat.le_trans (Nat.add_le_add h (Nat.le_trans i (Nat.mul_le_mul_left c l))) k
theorem q27(h:x<=a+(0+1)+b:=by assumption):x<=a+(b+1):=Nat.le_trans h (Nat.le_of_eq (Nat.succ_add a b))
theorem UX(h:a<=m:=by assumption)(i:b<=x:=by assumption):a+b+1<=x+(m+1)*1:=(Nat.mul_one (m+1)).symm▸Nat.succ_le_succ (Nat.add_comm b a▸Nat.add_le_add i h)
theorem q29(h:a<=c:=by assumption)(i:c<b:=by assumption):a<=b+1:=Nat.le_trans h (Nat.le_succ_of_le (Nat.le_of_lt i))
theorem q30(h:¬a<b:=by assumption)(i:a<b+1:=by assumption):a=b:=Nat.le_antisymm (Nat.le_of_lt_succ i) (Nat.le_of_not_lt h)
theorem AQ(e:b=a:=by assumption)(h:a<=m:=by assumption)(k:m<=n:=by decide):b<=n:=e▸Nat.le_trans h k
theorem Qe(h:a<=b:=by assumption):a<=n+b:=Nat.le_trans h (Nat.le_add_left b n)
theorem q41(i:b<=a:=by assumption)(h:a<=m:=by assumption)(k:m<=n:=by decide):b<=n:=Nat.le_trans i (Nat.le_trans h k)
theorem SL(h:a<=m:=by assumption)(k:c*m<=n:=by decide):c*a<=n:=Nat.le_trans (Nat.mul_le_mul_left c h) k
theorem q43(h:a+b*c<=m:=by assumption)(i:d<=p:=by assumption)(k:m+p<=n:=by decide):a+d<=n:=Nat.le_trans (Nat.add_le_add (Nat.le_trans (Nat.le_add_right _ _) h) i) k
theorem q44(h:a+e*(c+1)<=m:=by assumption)(i:b<=e:=by decide)(k:m<=n:=by decide):a+b+e*c<=n:=q5 h i k
theorem q45(h:a<m:=by assumption)(k:(m:a0)<=i:=by decide):(a:a0)<i:=Int.lt_of_lt_of_le (Int.ofNat_lt.mpr h) k
theorem q46(h:1<=a:=by assumption):(a:a0)-1=((a-1:ak):a0):=(Int.ofNat_sub h).symm
theorem q47(h:a<b:=by assumption)(e:c=b:=by assumption):((a-d:ak):a0)<(c:a0):=Int.ofNat_lt.mpr (e▸Nat.lt_of_le_of_lt (Nat.sub_le _ _) h)
theorem K!(k:a<=n:=by decide):min a b<=n:=Nat.le_trans (Nat.min_le_left _ _) k
theorem q61(h:a<b:=by assumption)(j:b<=m:=by assumption)(k:(m:a0)<=i:=by decide):((a-d:ak):a0)<i:=Int.lt_of_lt_of_le (Int.ofNat_lt.mpr (Nat.lt_of_le_of_lt (Nat.sub_le _ _) h)) (Int.le_trans (Int.ofNat_le.mpr j) k)
theorem q62(h:0<=i:=by assumption)(e:i.toNat=a:=by assumption)(j:a<b:=by assumption):i<(b:a0):=(Int.toNat_lt h).mp (e▸j)
theorem SC{i:a0}(h:0<i:=by assumption):¬i=0:=Int.ne_of_gt h
end
theorem Xd{d:a0}(h:p/\c<b:=by assumption)(k:d<=c:=by decide):d<b:=Int.lt_of_le_of_lt k h.2
theorem acC{d:a0}(h:c<b/\p:=by assumption)(k:d<=c:=by decide):d<b:=Int.lt_of_le_of_lt k h.1
theorem acH{d:a0}(h:p/\b<c:=by assumption)(k:c<=d:=by decide):b<d:=Int.lt_of_lt_of_le h.2 k
end Mine
end
section
open PySem PySem.W PyProof.Rows
namespace Mine
section
inductive D where|none|bool(b:aA)|int(i:a0)|str(s:ai ak)|bytes(s:ai ak)|list(l:ai D)|u(l:ai D)|dict(ks vs:ai D)|val(v:Value)|ref(i:ak)
inductive Cell where|dict(ks vs:ai D)|inst(c:ak)(ns:ai ak)(vs:ai D)|bW(l:ai a0)(m:a0)
inductive Slot where|ae|sh(d:D)|o(l:ai D)|bS(l:ai (ai D))|exc(d:D)
structure St where
l:ai Slot
cells:ai Cell
set_option genCtorIdx false in inductive bp where|o(s:Slot)|ds(l:List D)|os(l:List Slot)|ay|ret(s:Slot)
inductive R where|ok(p:bp)(st:St)|exc(d:D)(st:St)|fail
inductive RC where|ok(s:Slot)(cells:ai Cell)|exc(d:D)(cells:ai Cell)|fail
noncomputable def sU{b:Sort _}(d:D)(a:b)(f:aA->b):b:=if h:d.ctorIdx=1 then D.bool.elim (motive_1:=λY=>b) d h f else a
theorem E6{P:j->Prop}{M:D->Prop}(h:P (sU d a f))(k:∀i,P (f i)->M (.bool i))(b:P a->M d):M d:=if c:d.ctorIdx=1 then D.bool.elim d c k h else b (zk (gO P (dif_neg c)) h)
@[elab_as_elim]theorem Kb{j:Sort _}{P:j->Prop}{M:D->Prop}{d:D}{a:j}{f:aA->j}(b:¬P a)(h:P (sU d a f))(k:∀i,P (f i)->M (.bool i)):M d:=E6 h k λh=>aL h b
noncomputable def iG{b:Sort _}(d:D)(a:b)(f:a0->b):b:=if h:d.ctorIdx=2 then D.int.elim (motive_1:=λY=>b) d h f else a
theorem NC{P:j->Prop}{M:D->Prop}(h:P (iG d a f))(k:∀i,P (f i)->M (.int i))(b:P a->M d):M d:=if c:d.ctorIdx=2 then D.int.elim d c k h else b (zk (gO P (dif_neg c)) h)
@[elab_as_elim]theorem lW{j:Sort _}{P:j->Prop}{M:D->Prop}{d:D}{a:j}{f:a0->j}(b:¬P a)(h:P (iG d a f))(k:∀i,P (f i)->M (.int i)):M d:=NC h k λh=>aL h b
noncomputable def qa{b:Sort _}(d:D)(a:b)(f:ai ak->b):b:=if h:d.ctorIdx=3 then D.str.elim (motive_1:=λY=>b) d h f else a
theorem NP{P:j->Prop}{M:D->Prop}(h:P (qa d a f))(k:∀i,P (f i)->M (.str i))(b:P a->M d):M d:=if c:d.ctorIdx=3 then D.str.elim d c k h else b (zk (gO P (dif_neg c)) h)
@[elab_as_elim]theorem A1{j:Sort _}{P:j->Prop}{M:D->Prop}{d:D}{a:j}{f:ai ak->j}(b:¬P a)(h:P (qa d a f))(k:∀i,P (f i)->M (.str i)):M d:=NP h k λh=>aL h b
noncomputable def xb{b:Sort _}(d:D)(a:b)(f:ai ak->b):b:=if h:d.ctorIdx=4 then D.bytes.elim (motive_1:=λY=>b) d h f else a
theorem Ot{P:j->Prop}{M:D->Prop}(h:P (xb d a f))(k:∀i,P (f i)->M (.bytes i))(b:P a->M d):M d:=if c:d.ctorIdx=4 then D.bytes.elim d c k h else b (zk (gO P (dif_neg c)) h)
@[elab_as_elim]theorem I9{j:Sort _}{P:j->Prop}{M:D->Prop}{d:D}{a:j}{f:ai ak->j}(b:¬P a)(h:P (xb d a f))(k:∀i,P (f i)->M (.bytes i)):M d:=Ot h k λh=>aL h b
noncomputable def jF{b:Sort _}(d:D)(a:b)(f:ai D->b):b:=if h:d.ctorIdx=5 then D.list.elim (motive_1:=λY=>b) d h f else a
theorem Am{P:j->Prop}{M:D->Prop}(h:P (jF d a f))(k:∀i,P (f i)->M (.list i))(b:P a->M d):M d:=if c:d.ctorIdx=5 then D.list.elim d c k h else b (zk (gO P (dif_neg c)) h)
@[elab_as_elim]theorem ux{j:Sort _}{P:j->Prop}{M:D->Prop}{d:D}{a:j}{f:ai D->j}(b:¬P a)(h:P (jF d a f))(k:∀i,P (f i)->M (.list i)):M d:=Am h k λh=>aL h b
noncomputable def mq{b:Sort _}(d:D)(a:b)(f:ai D->b):b:=if h:d.ctorIdx=6 then D.u.elim (motive_1:=λY=>b) d h f else a
theorem IU{P:j->Prop}{M:D->Prop}(h:P (mq d a f))(k:∀i,P (f i)->M (.u i))(b:P a->M d):M d:=if c:d.ctorIdx=6 then D.u.elim d c k h else b (zk (gO P (dif_neg c)) h)
@[elab_as_elim]theorem Bo{j:Sort _}{P:j->Prop}{M:D->Prop}{d:D}{a:j}{f:ai D->j}(b:¬P a)(h:P (mq d a f))(k:∀i,P (f i)->M (.u i)):M d:=IU h k λh=>aL h b
noncomputable def wu{b:Sort _}(d:D)(a:b)(f:ak->b):b:=if h:d.ctorIdx=9 then D.ref.elim (motive_1:=λY=>b) d h f else a
theorem UN{P:j->Prop}{M:D->Prop}(h:P (wu d a f))(k:∀i,P (f i)->M (.ref i))(b:P a->M d):M d:=if c:d.ctorIdx=9 then D.ref.elim d c k h else b (zk (gO P (dif_neg c)) h)
@[elab_as_elim]theorem DR{j:Sort _}{P:j->Prop}{M:D->Prop}{d:D}{a:j}{f:ak->j}(b:¬P a)(h:P (wu d a f))(k:∀i,P (f i)->M (.ref i)):M d:=UN h k λh=>aL h b
noncomputable def vh{b:Sort _}(d:D)(a:b)(f:b):b:=if h:d.ctorIdx=0 then D.none.elim (motive_1:=λY=>b) d h f else a
theorem aby{P:i->Prop}{M:D->Prop}(h:P (vh d a f))(k:P f->M .none)(b:P a->M d):M d:=if c:d.ctorIdx=0 then D.none.elim d c k h else b (zk (gO P (dif_neg c)) h)
@[elab_as_elim]theorem EW{i:Sort _}{P:i->Prop}{M:D->Prop}{d:D}{a:i}{f:i}(b:¬P a)(h:P (vh d a f))(k:P f->M .none):M d:=aby h k λh=>aL h b
noncomputable def vT{b:Sort _}(d:Cell)(a:b)(f:ai D->ai D->b):b:=if h:d.ctorIdx=0 then Cell.dict.elim (motive:=λY=>b) d h f else a
theorem ZA{P:l->Prop}{M:Cell->Prop}(h:P (vT d a f))(k:∀i j,P (f i j)->M (.dict i j))(b:P a->M d):M d:=if c:d.ctorIdx=0 then Cell.dict.elim d c k h else b (zk (gO P (dif_neg c)) h)
@[elab_as_elim]theorem My{l:Sort _}{P:l->Prop}{M:Cell->Prop}{d:Cell}{a:l}{f:ai D->ai D->l}(b:¬P a)(h:P (vT d a f))(k:∀i j,P (f i j)->M (.dict i j)):M d:=ZA h k λh=>aL h b
noncomputable def yU{b:Sort _}(d:Cell)(a:b)(f:ak->ai ak->ai D->b):b:=if h:d.ctorIdx=1 then Cell.inst.elim (motive:=λY=>b) d h f else a
theorem QV{P:m->Prop}{M:Cell->Prop}(h:P (yU d a f))(k:∀i j l,P (f i j l)->M (.inst i j l))(b:P a->M d):M d:=if c:d.ctorIdx=1 then Cell.inst.elim d c k h else b (zk (gO P (dif_neg c)) h)
@[elab_as_elim]theorem Uy{m:Sort _}{P:m->Prop}{M:Cell->Prop}{d:Cell}{a:m}{f:ak->ai ak->ai D->m}(b:¬P a)(h:P (yU d a f))(k:∀i j l,P (f i j l)->M (.inst i j l)):M d:=QV h k λh=>aL h b
noncomputable def oX{b:Sort _}(d:Slot)(a:b)(f:D->b):b:=if h:d.ctorIdx=1 then Slot.sh.elim (motive:=λY=>b) d h f else a
theorem R7{P:j->Prop}{M:Slot->Prop}(h:P (oX d a f))(k:∀i,P (f i)->M (.sh i))(b:P a->M d):M d:=if c:d.ctorIdx=1 then Slot.sh.elim d c k h else b (zk (gO P (dif_neg c)) h)
@[elab_as_elim]theorem tY{j:Sort _}{P:j->Prop}{M:Slot->Prop}{d:Slot}{a:j}{f:D->j}(b:¬P a)(h:P (oX d a f))(k:∀i,P (f i)->M (.sh i)):M d:=R7 h k λh=>aL h b
noncomputable def xv{b:Sort _}(d:Slot)(a:b)(f:ai D->b):b:=if h:d.ctorIdx=2 then Slot.o.elim (motive:=λY=>b) d h f else a
theorem Wk{P:j->Prop}{M:Slot->Prop}(h:P (xv d a f))(k:∀i,P (f i)->M (.o i))(b:P a->M d):M d:=if c:d.ctorIdx=2 then Slot.o.elim d c k h else b (zk (gO P (dif_neg c)) h)
@[elab_as_elim]theorem G6{j:Sort _}{P:j->Prop}{M:Slot->Prop}{d:Slot}{a:j}{f:ai D->j}(b:¬P a)(h:P (xv d a f))(k:∀i,P (f i)->M (.o i)):M d:=Wk h k λh=>aL h b
noncomputable def zb{b:Sort _}(d:Slot)(a:b)(f:ai (ai D)->b):b:=if h:d.ctorIdx=3 then Slot.bS.elim (motive:=λY=>b) d h f else a
theorem aev{P:j->Prop}{M:Slot->Prop}(h:P (zb d a f))(k:∀i,P (f i)->M (.bS i))(b:P a->M d):M d:=if c:d.ctorIdx=3 then Slot.bS.elim d c k h else b (zk (gO P (dif_neg c)) h)
@[elab_as_elim]theorem Wt{j:Sort _}{P:j->Prop}{M:Slot->Prop}{d:Slot}{a:j}{f:ai (ai D)->j}(b:¬P a)(h:P (zb d a f))(k:∀i,P (f i)->M (.bS i)):M d:=aev h k λh=>aL h b
noncomputable def Dq{b:Sort _}(d:Slot)(a:b)(f:D->b):b:=if h:d.ctorIdx=4 then Slot.exc.elim (motive:=λY=>b) d h f else a
theorem W6{P:j->Prop}{M:Slot->Prop}(h:P (Dq d a f))(k:∀i,P (f i)->M (.exc i))(b:P a->M d):M d:=if c:d.ctorIdx=4 then Slot.exc.elim d c k h else b (zk (gO P (dif_neg c)) h)
@[elab_as_elim]theorem Y5{j:Sort _}{P:j->Prop}{M:Slot->Prop}{d:Slot}{a:j}{f:D->j}(b:¬P a)(h:P (Dq d a f))(k:∀i,P (f i)->M (.exc i)):M d:=W6 h k λh=>aL h b
noncomputable def sI{b:Sort _}(d:bp)(a:b)(f:Slot->b):b:=d.casesOn (motive:=λY=>b) f (λY=>a) (λY=>a) a (λY=>a)
theorem Ye{P:i->Prop}{M:bp->Prop}(h:P (sI d a f))(k:∀c,P (f c)->M (.o c))(b:P a->M d):M d:=by cases d<;>first|exact k _ h|exact b h
@[elab_as_elim]theorem Hg{i:Sort _}{P:i->Prop}{M:bp->Prop}{d:bp}{a:i}{f:Slot->i}(b:¬P a)(h:P (sI d a f))(k:∀c,P (f c)->M (.o c)):M d:=Ye h k λh=>aL h b
noncomputable def yl{b:Sort _}(d:bp)(a:b)(f:ai D->b):b:=d.casesOn (motive:=λY=>b) (λY=>a) f (λY=>a) a (λY=>a)
theorem VH{P:i->Prop}{M:bp->Prop}(h:P (yl d a f))(k:∀c,P (f c)->M (.ds c))(b:P a->M d):M d:=by cases d<;>first|exact k _ h|exact b h
@[elab_as_elim]theorem GA{i:Sort _}{P:i->Prop}{M:bp->Prop}{d:bp}{a:i}{f:ai D->i}(b:¬P a)(h:P (yl d a f))(k:∀c,P (f c)->M (.ds c)):M d:=VH h k λh=>aL h b
noncomputable def GX{b:Sort _}(d:bp)(a:b)(f:ai Slot->b):b:=d.casesOn (motive:=λY=>b) (λY=>a) (λY=>a) f a (λY=>a)
theorem ac8{P:i->Prop}{M:bp->Prop}(h:P (GX d a f))(k:∀c,P (f c)->M (.os c))(b:P a->M d):M d:=by cases d<;>first|exact k _ h|exact b h
@[elab_as_elim]theorem YF{i:Sort _}{P:i->Prop}{M:bp->Prop}{d:bp}{a:i}{f:ai Slot->i}(b:¬P a)(h:P (GX d a f))(k:∀c,P (f c)->M (.os c)):M d:=ac8 h k λh=>aL h b
noncomputable def jn{b:Sort _}(d:R)(a:b)(f:bp->St->b):b:=if h:d.ctorIdx=0 then R.ok.elim (motive:=λY=>b) d h f else a
theorem acB{P:l->Prop}{M:R->Prop}(h:P (jn d a f))(k:∀i j,P (f i j)->M (.ok i j))(b:P a->M d):M d:=if c:d.ctorIdx=0 then R.ok.elim d c k h else b (zk (gO P (dif_neg c)) h)
@[elab_as_elim]theorem yd{l:Sort _}{P:l->Prop}{M:R->Prop}{d:R}{a:l}{f:bp->St->l}(b:¬P a)(h:P (jn d a f))(k:∀i j,P (f i j)->M (.ok i j)):M d:=acB h k λh=>aL h b
noncomputable def cY{j:Type}{i:Sort _}(a:aw j)(b:i)(f:j->i):i:=Pr (motive:=λY=>i) a b f
@[elab_as_elim]theorem gC{j:Type}{i:Sort _}{P:i->Prop}{M:aw j->Prop}{a:aw j}{b:i}{f:j->i}(c:¬P b)(h:P (cY a b f))(k:∀d,P (f d)->M (Bc d)):M a:=Pr a (λh=>aL h c) k h
noncomputable def tv{j:Type}{i:Sort _}(l:ai j)(c:i)(f:j->j->i):i:=ny (motive:=λY=>i) l c λa r=>ny (motive:=λY=>i) r c λb r=>ny (motive:=λY=>i) r (f a b) λY Y=>c
@[elab_as_elim]theorem B7{j:Type}{i:Sort _}{P:i->Prop}{M:ai j->Prop}{l:ai j}{c:i}{f:j->j->i}(d:¬P c)(h:P (tv l c f))(k:∀a b,P (f a b)->M [a,b]):M l:=ny l (λh=>aL h d) (λa r=>ny r (λh=>aL h d) λb r=>ny r (k a b) λY Y h=>aL h d) h
theorem B4{c:Type}{l:ai c}(h:¬l.length<2)(d:l.length<=2):∃a b,l=[a,b]:=ny l (λh Y=>aL (Nat.zero_lt_succ 1) h) (λa r=>ny r (λh Y=>aL (zC 1) h) λb r=>ny r (λY Y=>jY a b rfl) λY Y Y h=>aL (an5 (an5 h)) (Nat.not_succ_le_zero _)) h d
theorem RC.ok.inj(h:RC.ok a c=RC.ok b d):a=b/\c=d:=by cases h;exact⟨rfl,rfl⟩
theorem RC.exc.inj(h:RC.exc a c=RC.exc b d):a=b/\c=d:=by cases h;exact⟨rfl,rfl⟩
theorem R.ok.inj(h:R.ok a c=R.ok b d):a=b/\c=d:=by cases h;exact⟨rfl,rfl⟩
theorem R.exc.inj(h:R.exc a c=R.exc b d):a=b/\c=d:=by cases h;exact⟨rfl,rfl⟩
theorem bp.o.inj(h:bp.o a=bp.o b):a=b:=by cases h;rfl
theorem bp.ds.inj(h:bp.ds a=bp.ds b):a=b:=by cases h;rfl
theorem Slot.sh.inj(h:Slot.sh a=Slot.sh b):a=b:=by cases h;rfl
theorem D.str.inj(h:D.str a=D.str b):a=b:=by cases h;rfl
set_option genCtorIdx false
inductive cO where|nm(i:ak)|tp(l:ai cO)
mutual inductive E where|l(i:ak)|c(d:D)|aO(k:ak)|bw(a:E)(k:ak)|sub(a b:E)|jC(i:ak)(b:E)|cU(a:E)(lo hi:aw E)|rev(a:E)|b(op:Me)(a b:E)|neg(a:E)|nt(a:E)|p(a:E)(ops:ai By)(bs:ai E)|isNil(i:ak)(neg:aA)|jB(a:E)(neg:aA)|bj(op:E2)(l:ai E)|ite(t a b:E)|a(l:ai E)|nest|u(l:ai E)|i7(ks vs:ai E)|call(k:ak)(l:ai E)|T3(k:ak)(n:ak)(a:E)|cH(a:E)(k:ak)(l:ai E)|ie(i:ak)|told(i:ak)|yc(i:ak)|comp(elt:E)(tg:cO)(it:It)(ifs:ai E)(nl:ai ak)(caps:ai ak)|sD(elt:E)(tg:cO)(it:E)(fQ:cO)(fu:E)(ifs:ai E)(nl:ai ak)(caps:ai ak)inductive It where|ex(a:E)|fp(a:aw E)(b:E)|gq(a:E)|bM(a:E)end
inductive S where|g(i:ak)(a:E)|de(is:ai ak)(l:ai E)|i5(tg:ai cO)(a:E)|dU(a:E)(k:ak)(b:E)|dF(a b c:E)|pK(i k:ak)|app(i:ak)(a:E)|ext(i:ak)(a:E)|mX(i:ak)(j:ak)|mF(a:E)|iff(t:E)(a b:ai S)|jP(t:E)(b:ai S)|bA(tg:cO)(it:It)(b:ai S)|vN(a:E)|ret(a:E)|xD(i:ak)|pW(k:ak)(a:E)|oh(b:ai S)(k:ak)(nm:aw ak)(h:ai S)|av
inductive T where|x(e:E)|e(e:E)|t(e:E)|s(s:S)|ss(l:ai S)
set_option genCtorIdx true
noncomputable abbrev E.cI(i:a0):E:=.c (.int i)
noncomputable abbrev E.cS(s:ai ak):E:=.c (.str s)
noncomputable abbrev E.cB(s:ai ak):E:=.c (.bytes s)
noncomputable abbrev E.cN:E:=.c .none
noncomputable abbrev E.cT(b:aA):E:=.c (.bool b)
noncomputable def dat:ak->D->aA|_,.none=>D1|_,.bool _=>D1|_,.int _=>D1|_,.str s=>s.all λc=>ys c 1114112|n+1,.list l=>l.all (dat n)|n+1,.u l=>l.all (dat n)|_,_=>Un
mutual noncomputable def eqB(a:D):D->aA:=match a with
|.none=>λb=>match b with|.none=>D1|_=>Un
|.bool a=>λb=>match b with|.bool b=>a==b|.int j=>(if a then 1 else 0)==j|_=>Un
|.int i=>λb=>match b with|.int j=>i==j|.bool b=>i==(if b then 1 else 0)|_=>Un
|.str a=>λb=>match b with|.str b=>decide (a=b)|_=>Un
|.list a=>λb=>match b with|.list b=>mK a b|_=>Un
|.u a=>λb=>match b with|.u b=>mK a b|_=>Un
|_=>λY=>Un noncomputable def mK(a:ai D):ai D->aA:=match a with|[]=>λb=>b.isEmpty|a::r=>λb=>match b with|b::s=>eqB a b&&mK r s|_=>Un end
noncomputable def bY{c:Type}(b:aA)(a:c):aw c:=if b then Bc a else VG
def gX(a y:D):aw aA:=bY (dat 8 a&&dat 8 y) (eqB a y)
noncomputable def fz:Slot->aw D|.sh d=>Bc d|.o l=>Bc (.list l)|.bS l=>Bc (.list (l.map .list))|_=>VG
def memD(a:D)(l:ai D):aw aA:=bY (dat 8 a&&l.all (dat 8)) (l.any λy=>eqB y a)
noncomputable def dJ(d:D):aw (ai ak):=qa d VG Bc
noncomputable def yK(d:D):aw a0:=iG d VG Bc
noncomputable def nU{b:Type}(f:D->aw b)(l:ai D):aw (ai b):=match l with|[]=>Bc []|d::r=>(f d).bind λa=>(nU f r).map (a::.)
noncomputable def fV(l:ai D):aw (ai a0):=nU (λd=>iG d VG Bc) l
noncomputable def lM(d:D):aw (ai a0):=mq d VG fV
noncomputable def fF{K:Type}(f:D->aw K):ai D->aA|[]=>D1|a::r=>(f a).isSome&&fF f r
noncomputable def gT{K:Type}[e9 K](f:D->aw K)(k:K)(d:ai D):ai D->aw (aw D):=match d with
|[]=>λc=>match c with|[]=>Bc VG|_=>VG
|a::r=>λc=>match c with|v::s=>(f a).bind λb=>if b=k then bY (fF f r) (Bc v)else gT f k r s|_=>VG
noncomputable def putK{K:Type}[e9 K](f:D->aw K)(k:K)(c w:D)(h:ai D):ai D->aw (ai D×ai D):=match h with
|[]=>λd=>match d with|[]=>Bc ([c],[w])|_=>VG
|a::r=>λd=>match d with|v::s=>(f a).bind λb=>if b=k then bY (fF f r) (a::r,w::s)else(putK f k c w r s).map λp=>(a::p.1,v::p.2)|_=>VG
noncomputable def Vl(a:D)(k:ai D):aw aA:=match a with|.str s=>(gT dJ s k k).map (·.isSome)|.int i=>(gT yK i k k).map (·.isSome)|_=>VG
noncomputable def EU(d:D)(l:ai D):aA:=l.all λa=>qa a Un λs=>qa d Un λu=>!decide (s=u)
noncomputable def Gr:ai D->aA|[]=>D1|a::r=>(dJ a).isSome&&EU a r&&Gr r
noncomputable def lK(k:ak):ai ak->ai D->aw D|n::a,v::b=>if n=k then Bc v else lK k a b|_,_=>VG
noncomputable def pH:D->aw D|.val _=>VG|d=>Bc d
noncomputable def tH(k:ak)(w:D):ai ak->ai D->ai ak×ai D|a::b,v::c=>if a=k then(a::b,w::c)else let p:=tH k w b c;(a::p.1,v::p.2)|_,_=>([k],[w])
noncomputable def aM{a:Type}(l:ai a):aA:=qA l.length 100000
noncomputable def wy(a:a0):aA:=decide (a.natAbs<9223372036854775808)
noncomputable def dP{a:Type}(l:ai a)(i:a0):aw a:=if wy i then(DU i l.length).bind (l[.]?)else VG
noncomputable def mI{a:Type}(d:D)(f:a0->aw a):aw a:=iG d VG f
noncomputable def mL{a:Type}(d:D)(f:ai D->aw a):aw a:=jF d VG f
noncomputable def ER{b:Type}(d:D)(f:a0->aw b)(a:ai D->aw b):aw b:=iG d (jF d VG a) f
noncomputable def MV{a:Type}(d:D)(f:ai ak->aw a):aw a:=qa d VG f
noncomputable def L6{b:Type}(d:D)(f:a0->aw b)(a:ai D->aw b):aw b:=iG d (mq d VG a) f
noncomputable def Dp{a:Type}(c:aw Cell)(f:ai D->ai D->aw a):aw a:=cY c VG λc=>vT c VG f
noncomputable def jG(cs:ai Cell)(v k:D):aw D:=match v with|.list l=>mI k λi=>dP l i|.u l=>mI k λi=>dP l i|.bytes l=>mI k λi=>(bY (aM l&&decide (0<=i)) ()).bind λY=>(dP l i).bind λa=>Bc (.int a)|.dict b c=>L6 k (λi=>(gT yK i b c).bind id) λl=>(bY (decide ((b.map lM).Nodup)) ()).bind λY=>(fV l).bind λk=>(gT lM k b c).bind id|.ref r=>MV k λs=>Dp cs[r]? λb c=>(gT dJ s b c).bind id|_=>VG
noncomputable def dE(d:Me)(a b:D):aw Slot:=match d with|.Add=>ER a (λi=>mI b λj=>Bc (.sh (.int (i+j)))) λl=>mL b λk=>bY (aM l&&aM k) (.o (l++k))|.Sub=>mI a λi=>mI b λj=>Bc (.sh (.int (i-j)))|.Mult=>ER a (λi=>mI b λj=>bY (wy j) (.sh (.int (i*j)))) λl=>mI b λc=>bY (decide (0<=c)&&decide (c<1000)&&qA l.length 1000) (.o (tI c.toNat l).flatten)|.FloorDiv=>mI a λi=>mI b λj=>bY (decide (0<j)&&decide (j<1073741824)) (.sh (.int (b! i j)))|.Mod=>mI a λi=>mI b λj=>bY (decide (0<j)) (.sh (.int (y7 i j)))|_=>VG
def inD(cs:ai Cell)(a d:D):aw aA:=match d with|.list l=>memD a l|.u l=>memD a l|.ref r=>Dp cs[r]? λk Y=>Vl a k|_=>VG
noncomputable def CG:D->aw aA|.none=>Bc D1|.val _=>VG|_=>Bc Un
noncomputable def isNone(d:D):aA:=vh d Un D1
def lu(cs:ai Cell)(c:By)(a b:D):aw aA:=match c with|.Eq=>gX a b|.NotEq=>(gX a b).map (!.)|.Is=>(bY (isNone b) ()).bind λY=>CG a|.IsNot=>(bY (isNone b) ()).bind λY=>(CG a).map (!.)|.In=>inD cs a b|.NotIn=>(inD cs a b).map (!.)|.Lt=>mI a λa=>mI b λb=>Bc (decide (a<b))|.LtE=>mI a λa=>mI b λb=>Bc (decide (a<=b))|.Gt=>mI a λa=>mI b λb=>Bc (decide (b<a))|.GtE=>mI a λa=>mI b λb=>Bc (decide (b<=a))
noncomputable def gu{a:Type}(l:ai a)(b h:aw a0):ai a:=(l.drop (b.elim 0 (Fb l.length))).take (h.elim l.length (Fb l.length)-b.elim 0 (Fb l.length))
noncomputable def acK:aw a0->aw ur|VG=>Bc ()|_=>VG
noncomputable def asNat:aw a0->aw ak|some (.ofNat a)=>Bc a|_=>VG
noncomputable def nR(v:D)(b h:aw a0):aw Slot:=match v with|.list l=>bY (aM l) (.o (gu l b h))|.u l=>(acK b).bind λY=>(asNat h).bind λa=>bY (decide (a<l.length)&&aM l) (.sh (.u (l.take a)))|.bytes l=>bY (aM l) (.sh (.bytes (gu l b h)))|_=>VG
mutual noncomputable def iw(t:cO)(d:D)(loc:ai Slot):aw (ai Slot):=match t with|.nm i=>Bc (loc.set i (.sh d))|.tp l=>mq d VG λds=>nP l ds loc noncomputable def nP(l:ai cO):ai D->ai Slot->aw (ai Slot):=match l with
|[]=>λds loc=>match ds with|[]=>Bc loc|_=>VG
|t::ts=>λds loc=>match ds with|[]=>VG|d::ds=>(iw t d loc).bind λloc=>nP ts ds loc end
noncomputable def kn(l:ai D):ai D:=match l with|[]=>[]|k::r=>match r with|[]=>[]|_::r=>k::kn r
noncomputable def oA(l:ai D):ai D:=match l with|[]=>[]|_::r=>match r with|[]=>[]|v::r=>v::oA r
structure Env where
call:ak->ai D->ai Cell->RC
glob:ak->aw D
cH:ak->ak->aw ak
kw:ak->ak->aA
get:ak
noncomputable def R.aT(r:R)(f:D->St->R):R:=jn r .fail λp a=>sI p .fail λs=>oX s .fail λd=>f d a
noncomputable def R.bindB(r:R)(f:aA->St->R):R:=jn r .fail λp a=>sI p .fail λs=>oX s .fail λd=>sU d .fail λb=>f b a
noncomputable def R.qW(r:R)(f:Slot->St->R):R:=jn r .fail λp a=>sI p .fail λs=>f s a
noncomputable def R.bindL(r:R)(f:ai D->St->R):R:=jn r .fail λp a=>yl p .fail λs=>f s a
noncomputable def R.xm(r:R)(f:bp->St->R):R:=R.casesOn (motive:=λY=>R) r f .exc .fail
noncomputable def R.kA(r:R)(f:D->St->R):R:=r.xm λp a=>sI p .fail λs=>oX s .fail λd=>f d a
noncomputable def R.iK(r:R)(f:Slot->St->R):R:=r.xm λp a=>sI p .fail λs=>f s a
noncomputable def R.mr(r:R)(f:ai D->St->R):R:=r.xm λp a=>yl p .fail λs=>f s a
noncomputable def rO{b:Type}(a:aw b)(f:b->R):R:=cY a .fail f
noncomputable def bk(b:aA)(r:R):R:=match b with|true=>r|false=>.fail
noncomputable def rI(d:D)(f:a0->R):R:=iG d .fail f
noncomputable def rL(d:D)(f:ai D->R):R:=jF d .fail f
noncomputable def rT(d:D)(f:ai D->R):R:=mq d .fail f
noncomputable def rS(d:D)(f:ai ak->R):R:=qa d .fail f
noncomputable def rN(d:D)(r:R):R:=vh d .fail r
noncomputable def jZ(d:D)(f:ak->R):R:=wu d .fail f
noncomputable def ni(c:aw Cell)(f:ak->ai ak->ai D->R):R:=cY c .fail λc=>yU c .fail f
noncomputable def jV(c:aw Cell)(f:ai D->ai D->R):R:=cY c .fail λc=>vT c .fail f
noncomputable def gm(s:aw Slot)(f:ai D->R):R:=cY s .fail λs=>xv s .fail f
noncomputable def DB(s:aw Slot)(f:D->R):R:=cY s .fail λs=>Dq s .fail f
noncomputable def FW(s:aw Slot)(f:a0->R):R:=cY s .fail λs=>oX s .fail λd=>rI d f
noncomputable def R.qF(r:R)(f:ai Slot->St->R):R:=jn r .fail λp a=>GX p .fail λs=>f s a
noncomputable def R.i6(r:R)(f:St->R):R:=match r with|.ok .ay s=>f s|.ok (.ret d) s=>.ok (.ret d) s|.ok _ _=>.fail|.exc d s=>.exc d s|.fail=>.fail
noncomputable abbrev vD(d:D)(s:St):R:=.ok (.o (.sh d)) s
noncomputable abbrev vB(b:aA)(s:St):R:=.ok (.o (.sh (.bool b))) s
noncomputable def oS(s:aw Slot)(a:St):R:=cY s .fail λs=>.ok (.o s) a
noncomputable def oD(s:aw D)(a:St):R:=cY s .fail λd=>vD d a
noncomputable def oB(s:aw aA)(a:St):R:=cY s .fail λd=>vB d a
noncomputable def RC.to(r:RC)(l:ai Slot):R:=match r with|.ok s cs=>.ok (.o s) ⟨l,cs⟩|.exc d cs=>.exc d ⟨l,cs⟩|.fail=>.fail
noncomputable def adD(k d:D)(r:R):R:=rT k λl=>tv l .fail λa b=>rI a λY=>rI b λY=>rN d r
noncomputable def um(b:St)(r:ak)(f:ai D):R:=jV b.cells[r]? λc v=>match f with|[k]=>rS k λs=>rO (gT dJ s c v) λa=>vD (a.getD .none) b|[k,d]=>bk c.isEmpty (adD k d (vD .none b))|_=>.fail
noncomputable def AD(c:aw Cell):aA:=cY c Un λc=>yU c Un λY Y Y=>D1
section
variable(N:Env)(A:T->St->R)
noncomputable def dK:ai E->St->R|[],s=>.ok (.ds []) s|e::r,s=>(A (.e e) s).kA λd s=>(dK r s).bindL λa s=>.ok (.ds (d::a)) s
noncomputable def Bf(l:ai E):ai E->St->R:=match l with
|[]=>λa s=>match a with|[]=>.ok (.ds []) s|_=>.fail
|k::b=>λa s=>match a with|[]=>.fail|v::a=>(A (.e k) s).aT λc s=>(A (.e v) s).aT λd s=>(Bf b a s).bindL λf s=>.ok (.ds (c::d::f)) s
noncomputable def pv:ai E->St->R|[],a=>.ok (.os []) a|e::r,a=>(A (.x e) a).qW λs a=>(pv r a).qF λb a=>.ok (.os (s::b)) a
noncomputable def stop:ai By->aA->aA|[]=>λY=>D1|_=>λb=>!b
def og:ai By->D->ai E->St->R|[]=>λY Y Y=>.fail|c::a=>λleft f s=>match f with|[]=>.fail|e::h=>(A (.e e) s).aT λd s=>rO (lu s.cells c left d) λb=>match stop a b with|true=>vB b s|false=>og a d h s
noncomputable def halt(a:E2)(b:aA):aA:=match a with|.And=>!b|.Or=>b
noncomputable def AM(a:E2):ai E->St->R|[]=>λY=>.fail|e::c=>λs=>match c with|[]=>(A (.e e) s).aT λd s=>vD d s|_=>(A (.e e) s).bindB λb s=>match halt a b with|true=>vB b s|false=>AM a c s
noncomputable def Bb(a:E2):ai E->St->R|[]=>λs=>vB (halt a Un) s|e::c=>λs=>(A (.t e) s).bindB λb s=>match halt a b with|true=>vB b s|false=>Bb a c s
noncomputable def Bn:ai E->St->R|[],s=>vB D1 s|e::a,s=>(A (.t e) s).bindB λb s=>match b with|false=>vB Un s|true=>Bn a s
noncomputable def C6:aw E->St->(aw a0->St->R)->R|VG,s,f=>f VG s|some a,s,f=>(A (.e a) s).aT λd s=>rI d λi=>f (Bc i) s
noncomputable def jo{b:Type}(f:a0->b->D):a0->ai b->ai D|_,[]=>[]|n,a::r=>f n a::jo f (n+1) r
noncomputable def gI:ak->a0->ai D|0,_=>[]|n+1,a=>.int a::gI n (a+1)
noncomputable def oE:D->aw (ai D)|.list l=>Bc l|.u l=>Bc l|.bytes l=>Bc (l.map λ(a:ak)=>.int (a:a0))|_=>VG
noncomputable def pairD(d:D):aw (a0×a0):=mq d VG λl=>tv l VG λa b=>iG a VG λi=>iG b VG λj=>Bc (i,j)
noncomputable def AO(l:ai D):aw (ai (a0×a0)):=nU pairD l
noncomputable def ja{a:Type}(b:aA)(l:ai a):ai a:=if b then l.reverse else l
noncomputable def ue{b:Type}(c:b->b->aA)(l:ai b):aA:=tv l Un λp a=>c a p
noncomputable def HF(l:ai D):aw (ai D):=(AO l).bind λb=>bY (qA b.length 2) (ja (ue (λ(p a:a0)=>decide (p<a)) (b.map (·.1))) l)
noncomputable abbrev vL(l:ai D)(s:St):R:=.ok (.ds l) s
noncomputable def itR(B:It)(st:St):R:=match B with|.ex a=>(A (.e a) st).aT λd st=>rO (oE d) λl=>vL l st|.gq a=>(A (.e a) st).aT λd st=>rL d λl=>vL (jo (λn x=>.u [.int n,x]) 0 l) st|.bM a=>(A (.e a) st).aT λd st=>rL d λl=>rO (HF l) λC=>vL C st|.fp VG b=>(A (.e b) st).aT λd st=>rI d λb=>bk (decide (b<1000)&&decide (-1000<b)) (vL (gI b.toNat 0) st)|.fp (Bc a) b=>(A (.e a) st).aT λd st=>rI d λa=>(A (.e b) st).aT λd st=>rI d λb=>bk ((decide (b<1000)&&decide (-1000<b))&&(decide (0<=a)&&decide (a<1000))) (vL (gI (b-a).toNat a) st)
noncomputable def xE(B:It)(st:St)(f:ai D->St->R):R:=(itR A B st).bindL f
def cm(c:E)(t:cO)(i:ai E):ai D->ai D->St->R|[],a,s=>.ok (.ds a) s|d::r,a,s=>rO (iw t d s.l) λl=>(Bn A i ⟨l,s.cells⟩).bindB λb s=>match b with|false=>cm c t i r a s|true=>(A (.e c) s).aT λy s=>cm c t i r (a++[y]) s
def jR(b:E)(t:cO)(f:cO)(h:E)(i:ai E):ai D->ai D->St->R|[],a,s=>.ok (.ds a) s|d::r,a,s=>rO (iw t d s.l) λc=>(A (.e h) ⟨c,s.cells⟩).aT λl s=>rL l λl=>bk (aM a&&aM l) ((cm A b f i l a s).bindL λa s=>jR b t f h i r a s)
def mz(l:ai ak):ai Slot->aw (ai Slot×ai Slot):=l.rec (λa=>Bc (a,[])) λi Y h a=>cY ((a[i]?).bind fz) VG λd=>(h (a.set i (.sh d))).map λp=>(p.1,.sh d::p.2)
def inScope(b c:ai ak)(s:St)(f:St->R):R:=cY (mz c s.l) .fail λa=>jn (f ⟨b.map (λY=>Slot.ae)++a.2,s.cells⟩) .fail λp s=>yl p .fail λl=>.ok (.o (.o l)) ⟨a.1,s.cells⟩
def bQ(t:cO)(b:ai S):ai D->St->R|[],s=>.ok .ay s|d::r,s=>rO (iw t d s.l) λl=>(A (.ss b) ⟨l,s.cells⟩).i6 λs=>bQ t b r s
noncomputable def xV(t:E)(a:ai S):ak->St->R|0,_=>.fail|n+1,s=>(A (.t t) s).bindB λb s=>match b with|false=>.ok .ay s|true=>(A (.ss a) s).i6 λs=>xV t a n s
noncomputable def iY(b:ai ak):ai Slot->ai Slot->aw (ai Slot):=match b with
|[]=>λa l=>match a with|[]=>Bc l|_=>VG
|i::b=>λa l=>match a with|s::a=>iY b a (l.set i s)|_=>VG
noncomputable def cA:ai S->St->R|[],a=>.ok .ay a|s::r,a=>match A (.s s) a with|.ok .ay a=>cA r a|x=>x
def jD(e:E)(st:St):R:=
match e with
|.l i=>rO ((st.l[i]?).bind fz) λd=>vD d ⟨st.l.set i (.sh d),st.cells⟩
|.c d=>vD d st
|.aO k=>oD (N.glob k) st
|.bw a k=>(A (.e a) st).aT λd st=>jZ d λr=>ni st.cells[r]? λY ns J=>oD ((lK k ns J).bind pH) st
|.sub a b=>(A (.e a) st).kA λv st=>(A (.e b) st).aT λk st=>oD (jG st.cells v k) st
|.jC i b=>gm st.l[i]? λY=>(A (.e b) st).aT λk st=>gm st.l[i]? λl=>rI k λk=>oD (dP l k) st
|.cU a K L=>(A (.e a) st).aT λv st=>C6 A K st λK st=>C6 A L st λL st=>oS (nR v K L) st
|.rev a=>(A (.e a) st).aT λv st=>rL v λl=>bk (aM l) (.ok (.o (.o l.reverse)) st)
|.b M a b=>(A (.e a) st).aT λv st=>(A (.e b) st).aT λw st=>oS (dE M v w) st
|.neg a=>(A (.e a) st).aT λv st=>rI v λi=>vD (.int (-i)) st
|.nt a=>(A (.e a) st).bindB λb st=>vB (!b) st
|.p a O V=>(A (.e a) st).aT λv st=>og A O v V st
|.isNil i F=>gm st.l[i]? λl=>bk (dat 8 (.list l)) (vB (l.isEmpty !=F) st)
|.jB a F=>(A (.e a) st).aT λv st=>jZ v λr=>jV st.cells[r]? λI Y=>bk (fF dJ I) (vB (I.isEmpty !=F) st)
|.bj M l=>AM A M l st
|.ite t a b=>(A (.t t) st).bindB λc st=>match c with|true=>(A (.e a) st).aT λd st=>vD d st|false=>(A (.e b) st).aT λd st=>vD d st
|.a l=>(dK A l st).bindL λds st=>.ok (.o (.o ds)) st
|.nest=>.ok (.o (.bS [[]])) st
|.u l=>(dK A l st).bindL λds st=>vD (.u ds) st
|.i7 I J=>(Bf A I J st).bindL λl st=>bk (Gr (kn l)) (vD (.ref st.cells.length) ⟨st.l,st.cells++[.dict (kn l) (oA l)]⟩)
|.call k l=>(dK A l st).mr λds st=>(N.call k ds st.cells).to st.l|.T3 k n a=>(A (.e a) st).aT λd st=>bk (N.kw k n) ((N.call k [d] st.cells).to st.l)
|.cH a k l=>(A (.e a) st).aT λv st=>jZ v λr=>match AD st.cells[r]? with|true=>ni st.cells[r]? λc Y Y=>rO (N.cH c k) λm=>(dK A l st).mr λds st=>(N.call m (.ref r::ds) st.cells).to st.l|false=>jV st.cells[r]? λY Y=>bk (js k N.get) ((dK A l st).bindL λds st=>um st r ds)
|.ie i=>gm st.l[i]? λl=>bk (aM l) (vD (.int l.length) st)|.told i=>DB st.l[i]? λd=>oD (pH d) st|.yc i=>gm st.l[i]? λl=>rO l.getLast? λd=>bk (aM l) (vD d ⟨st.l.set i (.o l.dropLast),st.cells⟩)|.comp G P Q H U C=>xE A Q st λB st=>bk (aM B) (inScope U C st λst=>cm A G P H B [] st)|.sD G P Q W X H U C=>(A (.e Q) st).aT λv st=>rL v λB=>inScope U C st λst=>jR A G P W X H B [] st
noncomputable def E.ix(a:E):ak:=a.casesOn (motive_1:=λY=>ak) (λY=>0) (λY=>0) (λY=>0) (λY Y=>0) (λY Y=>2) (λY Y=>0) (λY Y Y=>0) (λY=>0) (λY Y Y=>0) (λY=>0) (λY=>4) (λY Y Y=>3) (λY Y=>3) (λY Y=>3) (λY Y=>4) (λY Y Y=>4) (λY=>0) 0 (λY=>0) (λY Y=>0) (λY Y=>2) (λY Y Y=>0) (λY Y Y=>0) (λY=>0) (λY=>0) (λY=>0) (λY Y Y Y Y Y=>1) (λY Y Y Y Y Y Y Y=>0)
noncomputable def E.sX{d:Type}(a:E)(y b:d)(f:E->d)(c:E2->ai E->d):d:=a.casesOn (motive_1:=λY=>d) (λY=>b) (λY=>b) (λY=>b) (λY Y=>b) (λY Y=>b) (λY Y=>b) (λY Y Y=>b) (λY=>b) (λY Y Y=>b) (λY=>b) f (λY Y Y=>b) (λY Y=>b) (λY Y=>b) c (λY Y Y=>y) (λY=>b) b (λY=>b) (λY Y=>b) (λY Y=>b) (λY Y Y=>b) (λY Y Y=>b) (λY=>b) (λY=>b) (λY=>b) (λY Y Y Y Y Y=>b) (λY Y Y Y Y Y Y Y=>b)
noncomputable def stepT(c:E)(s:St):R:=c.sX .fail ((A (.x c) s).bindB λb s=>vB b s) (λa=>(A (.t a) s).bindB λb s=>vB (!b) s) λd l=>Bb A d l s
noncomputable def uo(s:aw Slot)(f:ai D->R)(a:ai (ai D)->R):R:=cY s .fail λs=>xv s (zb s .fail a) f
noncomputable def wR(s:aw Slot)(f:ai (ai D)->R):R:=cY s .fail λs=>zb s .fail f
noncomputable def zF(d:D):aw (ai D):=jF d (mq d VG Bc) Bc
noncomputable def ownAt(l:ai Slot)(i:ak):aA:=match l[i]? with|some (.o _)=>D1|some (.bS _)=>D1|_=>Un
noncomputable def Bw{c:Sort _}(p:bp)(a f:c):c:=p.casesOn (motive:=λY=>c) (λY=>a) (λY=>a) (λY=>a) f λY=>a
@[elab_as_elim]theorem aej{c:Sort _}{P:c->Prop}{M:bp->Prop}{p:bp}{a f:c}(b:¬P a)(h:P (Bw p a f))(k:P f->M .ay):M p:=by cases p<;>first|exact k h|exact aL h b
noncomputable def R.ua(r:R)(f:D->St->R):R:=R.casesOn (motive:=λY=>R) r .ok f .fail
noncomputable def R.zX(r:R):R:=jn r .fail .ok
noncomputable def R.yD(r:R)(i:ak):R:=jn r .fail λp s=>Bw p .fail (.ok .ay ⟨s.l.set i .ae,s.cells⟩)
def xq(s:S)(st:St):R:=match s with|.g i a=>(A (.x a) st).iK λs st=>.ok .ay ⟨st.l.set i s,st.cells⟩|.de I l=>(pv A l st).qF λJ st=>rO (iY I J st.l) λB=>.ok .ay ⟨B,st.cells⟩|.i5 H a=>(A (.e a) st).kA λv st=>rT v λds=>rO (nP H ds st.l) λB=>.ok .ay ⟨B,st.cells⟩|.dU a k b=>(A (.e b) st).aT λw st=>(A (.e a) st).aT λv st=>jZ v λr=>ni st.cells[r]? λc ns F=>bk (aM ns) (.ok .ay ⟨st.l,st.cells.set r (.inst c (tH k w ns F).1 (tH k w ns F).2)⟩)|.dF a b c=>(A (.e c) st).aT λw st=>(A (.e a) st).aT λv st=>(A (.e b) st).aT λk st=>jZ v λr=>rS k λs=>jV st.cells[r]? λG F=>rO (putK dJ s (.str s) w G F) λp=>bk (aM G) (.ok .ay ⟨st.l,st.cells.set r (.dict p.1 p.2)⟩)|.pK i k=>gm st.l[i]? λl=>FW st.l[k]? λj=>bk (decide (1<=j)&&aM l) (rO l[j.toNat-1]? λa=>rO l[j.toNat]? λb=>.ok .ay ⟨st.l.set i (.o ((l.set (j.toNat-1) b).set j.toNat a)),st.cells⟩)|.app i a=>bk (ownAt st.l i) ((A (.x a) st).qW λs st=>uo st.l[i]? (λl=>rO (fz s) λd=>bk (aM l) (.ok .ay ⟨st.l.set i (.o (l++[d])),st.cells⟩)) λl=>gm (Bc s) λm=>bk (aM l) (.ok .ay ⟨st.l.set i (.bS (l++[m])),st.cells⟩))|.ext i a=>bk (ownAt st.l i) ((A (.e a) st).aT λd st=>gm st.l[i]? λl=>rO (zF d) λm=>bk (aM l&&aM m) (.ok .ay ⟨st.l.set i (.o (l++m)),st.cells⟩))|.mX i j=>rO ((st.l[j]?).bind fz) λd=>wR (st.l.set j (.sh d))[i]? λl=>rO l.getLast? λm=>bk (aM m) (.ok .ay ⟨(st.l.set j (.sh d)).set i (.bS (l.dropLast++[m++[d]])),st.cells⟩)|.mF a=>(A (.e a) st).aT λd st=>rN d (.ok .ay st)|.iff t a b=>(A (.t t) st).bindB λc st=>if c then A (.ss a) st else A (.ss b) st|.jP t b=>xV A t b 1000 st|.bA H K b=>xE A K st λC st=>bQ A H b C st|.vN a=>(A (.e a) st).aT λd st=>jZ d λr=>jV st.cells[r]? λG F=>bk (G.isEmpty&&F.isEmpty) (.ok .ay st)|.ret a=>(A (.e a) st).kA λd st=>.ok (.ret (.sh d)) st|.xD i=>gm st.l[i]? λl=>.ok (.ret (.o l)) ⟨st.l.set i .ae,st.cells⟩|.pW _ a=>(A (.e a) st).aT λd st=>.exc d st|.oh b _ L h=>(A (.ss b) st).ua λd st=>Pr (motive:=λY=>R) L (A (.ss h) st).zX λi=>(A (.ss h) ⟨st.l.set i (.exc d),st.cells⟩).yD i|.av=>.fail
noncomputable def R.bC:R->R|.exc _ _=>.fail|r=>r
noncomputable def yx(a:E):aA:=js a.ix 2
def step(t:T)(b:St):R:=match t with|.x a=>if yx a then jD N A a b else(jD N A a b).bC|.e a=>(A (.x a) b).iK λs b=>oD (fz s) b|.t a=>stepT A a b|.s s=>xq A s b|.ss l=>cA A l b
end
def ev(N:Env):ak->T->St->R|0=>λY Y=>.fail|n+1=>step N (ev N n)
structure Fn where params:ai D->aw (ai Slot)body:ai S
noncomputable def yP(r:R):RC:=R.casesOn (motive:=λY=>RC) r (λp a=>bp.casesOn (motive:=λY=>RC) p (λY=>.fail) (λY=>.fail) (λY=>.fail) (.ok (.sh .none) a.cells) λs=>.ok s a.cells) (λd a=>.exc d a.cells) .fail
def kX(N:Env)(a:ak)(O:ak)(d:ai D)(h:ak)(f:ai S)(b:ai D)(c:ai Cell):RC:=if b.length<=h/\h<=b.length+d.length then yP (ev N a (.ss f) ⟨(b++d.drop (d.length-(h-b.length))).map .sh++tI (O-h) .ae,c⟩)else .fail
theorem cps{G:Prop}(h:∀P:Prop,(G->P)->P):G:=h G id
end
noncomputable abbrev bc(A:ai Yj)(a:ak):Obj:={cls:=.type "list",data:=.seq A.toArray a}
noncomputable abbrev eH(A:ai Yj)(a:ak):Obj:={cls:=.type "tuple",data:=.seq A.toArray a}
noncomputable abbrev bP(b:ai kJ)(a:ak):Obj:={cls:=.type "dict",data:=.dict b.toArray a}
structure CA where
a:a7
b:aw a7
noncomputable def CA.all(p:CA):ai a7:=p.a::p.b.toList
noncomputable def CU(k:ai a0):a0:=reduceHash (auu (k.map wS))
def pM(P:ei):D->a0->Prop|.str l,a=>a=lF P ⟨l.toArray⟩|.int i,a=>a=wS i|.u l,a=>∀k,fV l=Bc k->a=CU k|_,_=>Cm
mutual inductive Rd(P:ei)(cs:ai CA)(S:a7->Obj->Prop):D->Yj->Prop|none:Rd P cs S .none .none|bool(b:aA):Rd P cs S (.bool b) (.bool b)|int(i:a0)(t:Tok):Rd P cs S (.int i) (.int i t)|str(s:Str)(t:Tok):Rd P cs S (.str s.cps.toList) (.str s t)|bytes(b:iO Bq)(t:Tok):Rd P cs S (.bytes (b.toList.map Ge)) (.bytes b t)|list{l:ai D}{a:a7}{vs:ai Yj}{n:ak}:S a (bc vs n)->aC P cs S l vs->Rd P cs S (.list l) (.ref a)|u{l:ai D}{a:a7}{vs:ai Yj}{n:ak}:S a (eH vs n)->aC P cs S l vs->Rd P cs S (.u l) (.ref a)|dict{ks vs:ai D}{a:a7}{es:ai kJ}{n:ak}:S a (bP es n)->cL P cs S ks vs es->Rd P cs S (.dict ks vs) (.ref a)|val(u:Yj):Rd P cs S (.val u) u|ref{i:ak}{p:CA}:cs[i]?=Bc p->Rd P cs S (.ref i) (.ref p.a)inductive aC(P:ei)(cs:ai CA)(S:a7->Obj->Prop):ai D->ai Yj->Prop|nil:aC P cs S [] []|cons{d:D}{v:Yj}{l:ai D}{vs:ai Yj}:Rd P cs S d v->aC P cs S l vs->aC P cs S (d::l) (v::vs)inductive cL(P:ei)(cs:ai CA)(S:a7->Obj->Prop):ai D->ai D->ai kJ->Prop|nil:cL P cs S [] [] []|cons{k d:D}{e:kJ}{ks ds:ai D}{es:ai kJ}:Rd P cs S k e.key->pM P k e.hash->Rd P cs S d e.val->cL P cs S ks ds es->cL P cs S (k::ks) (d::ds) (e::es)end
section
variable{P:ei}{cs:ai CA}{S:a7->Obj->Prop}{v:Yj}
def RdI(P:ei)(cs:ai CA)(S:a7->Obj->Prop)(v:Yj)(d:D):Prop:=D.casesOn (motive_1:=λY=>Prop) d (v=.none) (λb=>v=.bool b) (λi=>∃t,v=.int i t) (λi=>∃s t,s.cps.toList=i/\v=.str s t) (λi=>∃(s:iO Bq)(t:Tok),s.toList.map Ge=i/\v=.bytes s t) (λl=>∃a A c,v=.ref a/\S a (bc A c)/\aC P cs S l A) (λl=>∃a A c,v=.ref a/\S a (eH A c)/\aC P cs S l A) (λk l=>∃a f c,v=.ref a/\S a (bP f c)/\cL P cs S k l f) (λu=>v=u) (λi=>∃p:CA,cs[i]?=Bc p/\v=.ref p.a)
theorem Rd.inv(r:Rd P cs S d v):RdI P cs S v d:=Rd.casesOn r rfl (λY=>rfl) (λY t=>⟨t,rfl⟩) (λs t=>dm s t rfl rfl) (λs t=>dm s t rfl rfl) (λa b=>rP _ _ _ rfl a b) (λa b=>rP _ _ _ rfl a b) (λa b=>rP _ _ _ rfl a b) (λY=>rfl) λa=>aF _ a rfl
theorem Rd.ofInt(r:Rd P cs S (.int i) v):∃t,v=.int i t:=r.inv
theorem Rd.ofStr(r:Rd P cs S (.str i) v):∃s t,s.cps.toList=i/\v=.str s t:=r.inv
theorem Rd.ofBytes(r:Rd P cs S (.bytes i) v):∃(s:iO Bq)(t:Tok),s.toList.map Ge=i/\v=.bytes s t:=r.inv
theorem Rd.ofBool(r:Rd P cs S (.bool i) v):v=.bool i:=r.inv
theorem Rd.AV(r:Rd P cs S .none v):v=.none:=r.inv
theorem Rd.CV{u:Yj}(r:Rd P cs S (.val u) v):v=u:=r.inv
theorem Rd.ofList(r:Rd P cs S (.list l) v):∃a A b,v=.ref a/\S a (bc A b)/\aC P cs S l A:=r.inv
theorem Rd.oR(r:Rd P cs S (.u l) v):∃a A b,v=.ref a/\S a (eH A b)/\aC P cs S l A:=r.inv
theorem Rd.P9(r:Rd P cs S (.dict k l) v):∃a c b,v=.ref a/\S a (bP c b)/\cL P cs S k l c:=r.inv
theorem Rd.oK(r:Rd P cs S (.ref i) v):∃p:CA,cs[i]?=Bc p/\v=.ref p.a:=r.inv
def Vv(P:ei)(cs:ai CA)(S:a7->Obj->Prop)(v:ai Yj)(l:ai D):Prop:=ny (motive:=λY=>Prop) l (v=[]) λd l=>∃a y,v=a::y/\Rd P cs S d a/\aC P cs S l y
theorem aC.inv{v:ai Yj}(r:aC P cs S l v):Vv P cs S v l:=aC.casesOn r rfl λa b=>gy _ _ rfl a b
theorem aC.jf{v:ai Yj}(r:aC P cs S [] v):v=[]:=r.inv
theorem aC.iZ{v:ai Yj}(r:aC P cs S (d::l) v):∃a y,v=a::y/\Rd P cs S d a/\aC P cs S l y:=r.inv
def T5(P:ei)(cs:ai CA)(S:a7->Obj->Prop)(k:ai D)(a:ai kJ)(l:ai D):Prop:=ny (motive:=λY=>Prop) l (k=[]/\a=[]) λd l=>∃b y c w,k=b::y/\a=c::w/\Rd P cs S d c.key/\pM P d c.hash/\Rd P cs S b c.val/\cL P cs S l y w
theorem cL.inv(r:cL P cs S l k e):T5 P cs S k e l:=cL.casesOn r ⟨rfl,rfl⟩ λa b c d=>M9 _ _ _ _ rfl rfl a b c d
theorem cL.jf(r:cL P cs S [] k e):k=[]/\e=[]:=r.inv
theorem cL.iZ(r:cL P cs S (d::l) k e):∃a y b w,k=a::y/\e=b::w/\Rd P cs S d b.key/\pM P d b.hash/\Rd P cs S a b.val/\cL P cs S l y w:=r.inv
section
variable{M:Yj->Prop}
@[elab_as_elim]theorem Rd.qr{i:a0}(r:Rd P cs S (.int i) v)(k:∀t,M (.int i t)):M v:=r.inv.elim λt e=>e▸k t
@[elab_as_elim]theorem Rd.HJ{i:ai ak}(r:Rd P cs S (.str i) v)(k:∀s t,s.cps.toList=i->M (.str s t)):M v:=aS r.inv λs t h e=>e▸k s t h
@[elab_as_elim]theorem Rd.Jn{i:ai ak}(r:Rd P cs S (.bytes i) v)(k:∀(s:iO Bq)(t:Tok),s.toList.map Ge=i->M (.bytes s t)):M v:=aS r.inv λs t h e=>e▸k s t h
@[elab_as_elim]theorem Rd.gz{l:ai D}(r:Rd P cs S (.list l) v)(k:∀a A n,S a (bc A n)->aC P cs S l A->M (.ref a)):M v:=mJ r.inv λa A n e x y=>e▸k a A n x y
@[elab_as_elim]theorem Rd.Gz{l:ai D}(r:Rd P cs S (.u l) v)(k:∀a A n,S a (eH A n)->aC P cs S l A->M (.ref a)):M v:=mJ r.inv λa A n e x y=>e▸k a A n x y
@[elab_as_elim]theorem Rd.ym{i:ak}(r:Rd P cs S (.ref i) v)(k:∀p:CA,cs[i]?=Bc p->M (.ref p.a)):M v:=aj r.inv λp x e=>e▸k p x
@[elab_as_elim]theorem aC.nY{M:ai Yj->Prop}{d:D}{l:ai D}{v:ai Yj}(r:aC P cs S (d::l) v)(k:∀x y,Rd P cs S d x->aC P cs S l y->M (x::y)):M v:=dG r.inv λa b e x y=>e▸k a b x y
@[elab_as_elim]theorem aC.ind{M:ai D->ai Yj->Prop}{l:ai D}{A:ai Yj}(r:aC P cs S l A)(h0:M [] [])(N:∀d v l A,Rd P cs S d v->aC P cs S l A->M l A->M (d::l) (v::A)):M l A:=aC.rec (motive_1:=λY Y Y=>Cm) (motive_3:=λY Y Y Y=>Cm) trivial (λY=>trivial) (λY Y=>trivial) (λY Y=>trivial) (λY Y=>trivial) (λY Y Y=>trivial) (λY Y Y=>trivial) (λY Y Y=>trivial) (λY=>trivial) (λY=>trivial) h0 (λa b Y ih=>N _ _ _ _ a b ih) trivial (λY Y Y Y Y Y Y=>trivial) r
@[elab_as_elim]theorem cL.nY{M:ai D->ai kJ->Prop}{d:D}{l k:ai D}{e:ai kJ}(r:cL P cs S (d::l) k e)(z:∀x y(a:kJ)w,Rd P cs S d a.key->pM P d a.hash->Rd P cs S x a.val->cL P cs S l y w->M (x::y) (a::w)):M k e:=xC r.inv λx y a w e1 e2 N h2 h3 h4=>e1▸e2▸z x y a w N h2 h3 h4
@[elab_as_elim]theorem aC.OY{M:ai Yj->Prop}{v:ai Yj}(r:aC P cs S [] v)(k:M []):M v:=r.jf▸k
@[elab_as_elim]theorem aC.A5{M:ai Yj->Prop}{d:D}{v:ai Yj}(r:aC P cs S [d] v)(k:∀x,Rd P cs S d x->M [x]):M v:=r.nY λx Y a b=>b.jf▸k x a
end
end
theorem bh{b:Type}{a:b}{P:Prop}(h:VG=Bc a):P:=nomatch h
theorem dA{d i:Type}{b:aw d}{f:d->aw i}{c:i}(h:b.bind f=Bc c):∃a,b=Bc a/\f a=Bc c:=by cases b<;>first|exact bh h|exact aF _ rfl h
theorem nI{d i:Type}{b:aw d}{f:d->i}{c:i}(h:b.map f=Bc c):∃a,b=Bc a/\f a=c:=by cases b<;>first|exact bh h|exact aF _ rfl (eF h)
theorem bZ{c:d}(h:bY b a=Bc c):b=D1/\a=c:=by cases b<;>first|exact bh h|exact⟨rfl,eF h⟩
theorem no{P:Prop}(h:Un=D1):P:=xa h
theorem iA(h:(a&&b)=D1):a=D1/\b=D1:=by cases a<;>first|exact no h|exact⟨rfl,h⟩
theorem iI{a:b}(h:mI d f=Bc a):∃i,d=.int i/\f i=Bc a:=by cases d<;>first|exact bh h|exact aF _ rfl h
theorem iL{a:b}(h:mL d f=Bc a):∃i,d=.list i/\f i=Bc a:=by cases d<;>first|exact bh h|exact aF _ rfl h
def fU(cs a:ai CA):Prop:=∀(i:ak)(p:CA),cs[i]?=Bc p->a[i]?=Bc p
theorem fU.refl(cs:ai CA):fU cs cs:=λY Y h=>h
theorem fU.trans(d:fU a b)(y:fU b c):fU a c:=λi p h=>y i p (d i p h)
theorem fU.app(a b:ai CA):fU a (a++b):=λi p h=>by exact aa (Lv (List.getElem?_eq_some_iff.mp h).1) h
section
variable{P:ei}{cs B:ai CA}{S J:a7->Obj->Prop}
theorem Rd.mono(i:fU cs B)(f:∀a b,S a b->J a b)(r:Rd P cs S d v):Rd P B J d v:=r.rec .none .bool .int .str .bytes (λh Y r=>.list (f _ _ h) r) (λh Y r=>.u (f _ _ h) r) (λh Y r=>.dict (f _ _ h) r) .val (λh=>.ref (i _ _ h)) .nil (λY Y h r=>.cons h r) .nil (λY c Y Y h d r=>.cons h c d r)
theorem aC.mono(i:fU cs B)(f:∀a b,S a b->J a b)(r:aC P cs S l A):aC P B J l A:=r.rec .none .bool .int .str .bytes (λh Y r=>.list (f _ _ h) r) (λh Y r=>.u (f _ _ h) r) (λh Y r=>.dict (f _ _ h) r) .val (λh=>.ref (i _ _ h)) .nil (λY Y h r=>.cons h r) .nil (λY c Y Y h d r=>.cons h c d r)
theorem cL.mono(i:fU cs B)(f:∀a b,S a b->J a b)(r:cL P cs S k ds es):cL P B J k ds es:=r.rec (motive_2:=λl v Y=>aC P B J l v) .none .bool .int .str .bytes (λh Y r=>.list (f _ _ h) r) (λh Y r=>.u (f _ _ h) r) (λh Y r=>.dict (f _ _ h) r) .val (λh=>.ref (i _ _ h)) .nil (λY Y h r=>.cons h r) .nil (λY c Y Y h d r=>.cons h c d r)
end
inductive Rl where|f|sc|o(i:ak)|cell(j:ak)deriving e9
theorem Rl.o.inj(h:Rl.o i=.o j):i=j:=by cases h;rfl
theorem Rl.cell.inj(h:Rl.cell i=.cell j):i=j:=by cases h;rfl
@[simp]theorem Rl.o.injEq(i j:ak):(Rl.o i=.o j)=(i=j):=propext ⟨Rl.o.inj,λa=>a▸rfl⟩
@[simp]theorem Rl.cell.injEq(i j:ak):(Rl.cell i=.cell j)=(i=j):=propext ⟨Rl.cell.inj,λa=>a▸rfl⟩
theorem Df(j:ak):Rl.f≠.cell j:=nofun
theorem MX(j:ak):Rl.sc≠.cell j:=nofun
theorem yN(j:ak):Rl.o i≠.cell j:=nofun
theorem JF:Rl.sc≠.f:=nofun
theorem wB:Rl.sc≠.o i:=nofun
theorem wg:Rl.f≠.o i:=nofun
theorem GC:Rl.cell j≠.f:=nofun
theorem BG:Rl.cell j≠.o i:=nofun
theorem Bh:Rl.o i≠.f:=nofun
theorem rR{P:Prop}(h:Rl.sc=.f):P:=Rl.noConfusion h
theorem Nd{P:Prop}(h:Rl.o i=.f):P:=Rl.noConfusion h
theorem Mx{P:Prop}(h:Rl.cell i=.f):P:=Rl.noConfusion h
theorem iU{a:b}:[a].Nodup:=List.nodup_cons.mpr ⟨lR,.nil⟩
abbrev Ro:=a7->aw Rl
def Sb(c:Ro)(h:ff)(a:a7)(b:Obj):Prop:=h.get? a=Bc b/\c a=VG
structure Cx where
prog:uV
w:jw
h₀:ff
tab:a7
jk:Pos
mU:Str
yG:a7
nm:ak->Str
fv:ak->aw Yj
gk:ak->aA
oV:ak
om:ak
gz:ak
cls:ak->aw a7
acG:∀c d C,cls c=Bc C->cls d=Bc C->c=d
K:Frag
fr:ai gn
fk:ak->aA
bad:a7
ju:ak
Cq:∀a b,fk a=D1->fk b=D1->nm a=nm b->a=b
inductive eX(C:Cx)(cs:ai CA)(S:a7->Obj->Prop):ai ak->ai D->ai kJ->Prop|nil:eX C cs S [] [] []|cons{k:ak}{d:D}{t:Tok}{v:Yj}{ks:ai ak}{ds:ai D}{es:ai kJ}:C.fk k=D1->Rd C.w.params cs S d v->eX C cs S ks ds es->eX C cs S (k::ks) (d::ds) (⟨lF C.w.params (C.nm k),.str (C.nm k) t,v⟩::es)
theorem eX.mono{S:a7->Obj->Prop}(c:fU cs B)(d:∀a b,S a b->J a b)(r:eX C cs S k ds es):eX C B J k ds es:=by induction r with|nil=>exact .nil|cons a h r i=>exact .cons a (h.mono c d) i
inductive gE(C:Cx)(cs:ai CA)(S:a7->Obj->Prop)(h:ff):Cell->CA->Prop|dict{ks vs:ai D}{a:a7}{es:ai kJ}{n:ak}:h.get? a=Bc (bP es n)->cL C.w.params cs S ks vs es->ks.Nodup->gE C cs S h (.dict ks vs) ⟨a,VG⟩|inst{c:ak}{ns:ai ak}{vs:ai D}{a dx K:a7}{es:ai kJ}{n:ak}:C.cls c=Bc K->h.get? a=Bc (F9 K dx)->h.get? dx=Bc (bP es n)->eX C cs S ns vs es->gE C cs S h (.inst c ns vs) ⟨a,Bc dx⟩|bW{l:ai a0}{m:a0}{a b:a7}{vs:ai Yj}{n k:ak}{n8 oN CC:Tok}:Fu vs l->h.get? b=Bc (bc vs n)->h.get? a=Bc (bP [⟨lF C.w.params "left",.str "left" n8,.ref b⟩,⟨lF C.w.params "mixed",.str "mixed" oN,.int m CC⟩] k)->gE C cs S h (.bW l m) ⟨a,Bc b⟩
def km(C:Cx)(a:a7):Prop:=∀b∈C.fr,b.frame≠Bc a
def fA(C:Cx)(h c:ff)(a:a7):Prop:=∀b,h.get? a=Bc b->∃s,c.get? a=Bc {b with slots:=s}/\(km C a->s=b.slots)
theorem fA.refl(C:Cx)(h:ff)(a:a7):fA C h h a:=λb c=>aF b.slots c (λY=>rfl)
theorem fA.fh(k:∀b,h.get? a=Bc b->d.get? a=Bc b):fA C h d a:=λb c=>aF b.slots (k b c) (λY=>rfl)
theorem fA.trans(b:fA C h i a)(y:fA C i j a):fA C h j a:=λc d=>by refine aj (b c d) λs k l=>aj (y _ k) λm p r=>aF m p (λf=>(r f).trans (l f))
inductive Pl where|l(x:Str)|cell(x:Str)(c:a7)(b:aA)
noncomputable def Pl.name:Pl->Str|.l a=>a|.cell a _ _=>a
def dB(b:gn)(h:ff):Pl->aw Yj->Prop|.l a,H=>b.kindOf a=Bc .local/\∃m,h.Ns b.locals m/\m a=H|.cell a c _,H=>(b.kindOf a=Bc .cell\/b.kindOf a=Bc .free)/\b.cells.lookup a=Bc c/\h.IsCell c H
inductive dM(P:ei)(cs:ai CA)(S:a7->Obj->Prop)(h:ff):ai (ai D)->ai a7->Prop|nil:dM P cs S h [] []|cons{l:ai D}{ll:ai (ai D)}{a:a7}{as:ai a7}{vs:ai Yj}{n:ak}:h.get? a=Bc (bc vs n)->aC P cs S l vs->dM P cs S h ll as->dM P cs S h (l::ll) (a::as)
inductive dh(P:ei)(bad:a7)(cs:ai CA)(S:a7->Obj->Prop)(h:ff):Slot->ai a7->aw Yj->Prop|ae(ov:aw Yj):dh P bad cs S h .ae [] ov|sh{d:D}{v:Yj}:Rd P cs S d v->dh P bad cs S h (.sh d) [] (Bc v)|o{l:ai D}{a:a7}{vs:ai Yj}{n:ak}:h.get? a=Bc (bc vs n)->aC P cs S l vs->dh P bad cs S h (.o l) [a] (Bc (.ref a))|bS{ll:ai (ai D)}{a:a7}{as:ai a7}{n:ak}:h.get? a=Bc (bc (as.map .ref) n)->dM P cs S h ll as->dh P bad cs S h (.bS ll) (a::as) (Bc (.ref a))|exc{d:D}{e dx:a7}{oe:Obj}{t:Tok}{v:Yj}{n:ak}:S e oe->(oe.cls=.ref bad/\notCls oe=D1)->oe.dict=Bc dx->S dx (bP [⟨lF P "told",.str "told" t,v⟩] n)->Rd P cs S d v->dh P bad cs S h (.exc d) [] (Bc (.ref e))
section
variable{P:ei}{F:a7}{cs:ai CA}{S:a7->Obj->Prop}{h:ff}{G:ai a7}{H:aw Yj}
def Xp(P:ei)(F:a7)(cs:ai CA)(S:a7->Obj->Prop)(h:ff)(G:ai a7)(H:aw Yj)(s:Slot):Prop:=Slot.casesOn (motive:=λY=>Prop) s (G=[]) (λd=>G=[]/\∃v,H=Bc v/\Rd P cs S d v) (λl=>∃a A b,G=[a]/\H=Bc (.ref a)/\h.get? a=Bc (bc A b)/\aC P cs S l A) (λl=>∃a i b,G=a::i/\H=Bc (.ref a)/\h.get? a=Bc (bc (i.map .ref) b)/\dM P cs S h l i) λd=>∃c j f t v b,G=[]/\H=Bc (.ref c)/\S c f/\(f.cls=.ref F/\notCls f=D1)/\f.dict=Bc j/\S j (bP [⟨lF P "told",.str "told" t,v⟩] b)/\Rd P cs S d v
theorem dh.inv(f:dh P F cs S h s G H):Xp P F cs S h G H s:=by induction f with|ae=>exact rfl|sh r=>exact⟨rfl,_,rfl,r⟩|o a b=>exact qj _ _ _ rfl rfl a b|bS a b=>exact qj _ _ _ rfl rfl a b|exc a b c d i=>exact⟨_,_,_,_,_,_,rfl,rfl,a,b,c,d,i⟩
theorem dh.rd(a:dh P F cs S h (.sh d) G (Bc v)):Rd P cs S d v:=aU a.inv λY h=>aj h λY b r=>eF b▸r
def abJ(C:Cx)(cs:ai CA)(S:a7->Obj->Prop)(h:ff)(p:CA)(c:Cell):Prop:=Cell.casesOn (motive:=λY=>Prop) c (λi A=>p.b=VG/\∃d a,h.get? p.a=Bc (bP d a)/\cL C.w.params cs S i A d/\i.Nodup) (λc j A=>∃f K d a,p.b=Bc f/\C.cls c=Bc K/\h.get? p.a=Bc (F9 K f)/\h.get? f=Bc (bP d a)/\eX C cs S j A d) λl m=>∃b A a k r s t,p.b=Bc b/\Fu A l/\h.get? b=Bc (bc A a)/\h.get? p.a=Bc (bP [⟨lF C.w.params "left",.str "left" r,.ref b⟩,⟨lF C.w.params "mixed",.str "mixed" s,.int m t⟩] k)
theorem gE.inv(f:gE C cs S h c p):abJ C cs S h p c:=by induction f with|dict a b c=>exact⟨rfl,_,_,a,b,c⟩|inst a b c d=>exact HZ _ _ _ _ rfl a b c d|bW a b c=>exact WV _ _ _ _ _ _ _ rfl a b c
end
def As(C:Cx)(b:Ro)(h:ff)(A:iO Yj):Prop:=A=#[]\/∃c a f t,A=#[mB C.jk.line,mB C.jk.col,.ref c]/\Sb b h c a/\a.data=.fields f/\f[1]?=Bc (.str C.mU t)
def TabAt(C:Cx)(a:Ro)(h:ff):Prop:=∃A,h.get? C.tab=Bc (Ma A)/\As C a h A
theorem As.mono(b:As C i h A)(k:∀a d,Sb i h a d->Sb j l a d):As C j l A:=by
 refine Md b (λb=>?_) λm=>?_
 .exact .inl b
 .refine E9 m λc p u t f s r=>.inr (Vc c p u t f (k _ _ s) r)
theorem TabAt.go(b:TabAt C j h)(k:∀c,h.get? C.tab=Bc c->i.get? C.tab=Bc c)(s:∀a c,Sb j h a c->Sb l i a c):TabAt C l i:=by refine aj b λA d f=>aF A (k _ d) (f.mono s)
theorem TabAt.sb(b:TabAt C i h)(k:∀a c,Sb i h a c->Sb j h a c):TabAt C j h:=by refine aj b λA d f=>aF A d (f.mono k)
def SQ(P:ei)(F:a7)(b:gn)(c:Ro)(cs:ai CA)(h:ff)(i:ak)(p:Pl)(s:Slot):Prop:=∃G H,dB b h p H/\dh P F cs (Sb c h) h s G H/\(∀a∈G,c a=Bc (.o i))/\G.Nodup
def abP(C:Cx)(b:Ro)(cs:ai CA)(h:ff)(j:ak)(c:Cell)(p:CA):Prop:=gE C cs (Sb b h) h c p/\(∀a∈p.all,b a=Bc (.cell j))/\p.all.Nodup
def vG(c:Ro)(h:ff)(a:gn):Prop:=a.scope.kind≠.module/\∃L b,a.frame=Bc L/\(c L=Bc .f\/c L=Bc .sc)/\h.get? L=Bc b/\∀A,b.data≠.fields A
structure Inv(C:Cx)(env:gn)(ρ:Ro)(af:ai Pl)(cs:ai CA)(st:St)(h:ff):Prop where
lt:∀a,ρ a≠VG->a<h.objs.size
base:∀a o,C.h₀.get? a=Bc o->h.get? a=Bc o/\ρ a=VG
tab:TabAt C ρ h
cM:ρ C.tab=Bc .f
dH:st.l.length=af.length
d9:st.cells.length=cs.length
vars:∀i p s,af[i]?=Bc p->st.l[i]?=Bc s->SQ C.w.params C.bad env ρ cs h i p s
cells:∀j c p,st.cells[j]?=Bc c->cs[j]?=Bc p->abP C ρ cs h j c p
gG:∀a j,ρ a=Bc (.cell j)->∃p,cs[j]?=Bc p/\a∈p.all
names:(af.map Pl.name).Nodup
locs:∀x,Pl.l x∈af->ρ env.locals=Bc .sc
eT:∀x c b,Pl.cell x c b∈af->(b=Un/\ρ c=Bc .sc)\/(b=D1/\ρ c=Bc .f)
je:∀x y c b d,Pl.cell x c b∈af->Pl.cell y c d∈af->x=y
fW:∀x c b,Pl.cell x c b∈af->c≠env.locals/\c≠C.tab
eS:∀e∈C.fr,vG ρ h e
structure Go(C:Cx)(ρ ah:Ro)(cs cs':ai CA)(h h':ff):Prop where
cs:fU cs cs'
st:∀a o,Sb ρ h a o->Sb ah h' a o
kp:∀a,ρ a=Bc .f->ah a=Bc .f/\(a≠C.tab->fA C h h' a)
sc:∀a,ρ a=Bc .sc->ah a=Bc .sc
sz:h.objs.size<=h'.objs.size
theorem Go.refl(C:Cx)(d:Ro)(cs:ai CA)(h:ff):Go C d d cs cs h h:=⟨.refl _,λY Y b=>b,λa c=>⟨c,λY=>.refl C h a⟩,λY c=>c,ir _⟩
theorem Go.trans{cs :ai CA}(b:Go C i j cs B h k)(y:Go C j l B m k p):Go C i l cs m h p:=⟨b.cs.trans y.cs,λa c d=>y.st a c (b.st a c d),λa d=>⟨(y.kp a (b.kp a d).1).1,λf=>((b.kp a d).2 f).trans ((y.kp a (b.kp a d).1).2 f)⟩,λa d=>y.sc a (b.sc a d),gY b.sz y.sz⟩
def rg(h:ff)(a:a7):Prop:=∃b,h.get? a=Bc b/\∀A,b.data≠.fields A
theorem vG.step(b:vG l h c)(u:TabAt C l h)(v:∀a,l a=Bc .f->c.frame=Bc a->m a=Bc .f/\(a≠C.tab->fA C h s a))(w:∀a,l a=Bc .sc->(m a=Bc .f\/m a=Bc .sc)/\(rg h a->rg s a)):vG m s c:=by
 obtain⟨t,L,d,N,i,j,p⟩:=b
 rcases i with i|i
 .haveI y:L≠C.tab:=λf=>by
   refine aj u λA c Y=>?_
   clear i N
   subst f
   rw[c]at j;obtain rfl:=eF j;exact p A rfl
  obtain⟨r,k⟩:=v L i N
  obtain⟨G,f,_⟩:=k y d j;exact⟨t,L,_,N,.inl r,f,p⟩
 .obtain⟨r,k⟩:=w L i;obtain⟨H,B,F⟩:=k (aF d j p);exact⟨t,L,_,N,r,B,F⟩
theorem tD(k:∀b,h.get? a=Bc b->i.get? a=Bc b):rg h a->rg i a:=λc=>aj c λb d f=>aF b (k b d) f
def F0(C:Cx)(b:Ro):Prop:=∀a∈C.fr,∀L,a.frame=Bc L->b L≠VG
theorem Inv.f0{s:St}(I:Inv C env f j cs s h):F0 C f:=λa m L b=>by obtain⟨_,k,c,N,d,i⟩:=I.eS a m;clear i;rw[N]at b;cases b;rcases d with d|d<;>(rw[d];simp)
def cy(a:gn)(b:ai Pl)(h c:ff):Prop:=∀p∈b,∀H,dB a h p H->dB a c p H
theorem cy.refl(b:gn)(c:ai Pl)(h:ff):cy b c h h:=λY Y Y a=>a
theorem cy.trans(a:cy env c h d)(y:cy env c d f):cy env c h f:=λp m H b=>y p m H (a p m H b)
theorem BB{h:ff}(b:h.Ns a m)(y:h.Ns a d):m=d:=by refine wL b λc r s f i Y k=>wL y λt u l J j Y p=>?_;rw[f]at J;cases J;rw[i]at j;cases j;funext n;exact aD (k n) (aD (p n) rfl)
theorem dB.uniq(d:dB env h p a)(y:dB env h p b):a=b:=by cases p with|l f=>obtain⟨_,m,i,r⟩:=d;obtain⟨_,t,k,s⟩:=y;exact aD r (aD s (aa (BB i k) rfl))|cell f c b=>obtain⟨_,_,j,i,r⟩:=d;obtain⟨_,_,u,k,s⟩:=y;rw[i]at k;cases k;rw[r]at s;cases s;rfl
theorem Xy{B:ai Pl}{j:ak}(a:(B.map Pl.name).Nodup)(h:B[i]?=Bc p)(b:B[j]?=Bc p):i=j:=by
 haveI c:(B.map Pl.name)[i]?=(B.map Pl.name)[j]?:=by rw[y8,y8,h,b]
 exact(asd (by simpa using(List.getElem?_eq_some_iff.mp h).1) a).mp c
theorem fA.ns(k:fA C h u a)(b:h.Ns a m):u.Ns a m:=by refine wL b λc f i j l p r=>aj (k c j) λs d Y=>⟨_,f,i,d,l,p,r⟩
theorem fA.cell(k:fA C h u a)(b:h.IsCell a v):u.IsCell a v:=by refine aj b λc f i=>aj (k c f) λs d Y=>⟨_,d,i⟩
theorem dB.keep(k:∀f,p=.l f->fA C h u env.locals)(s:∀f c b,p=.cell f c b->fA C h u c)(f:dB env h p t):dB env u p t:=by cases p with|l i=>obtain⟨a,m,j,r⟩:=f;exact⟨a,m,(k i rfl).ns j,r⟩|cell i c d=>obtain⟨a,b,j⟩:=f;exact⟨a,b,(s i c d rfl).cell j⟩
section
variable{P:ei}{cs F:ai CA}{S J:a7->Obj->Prop}{h u:ff}
theorem dM.keep(i:fU cs F)(j:∀a b,S a b->J a b):∀{l:ai (ai D)}{f:ai a7},(∀a∈f,∀b,h.get? a=Bc b->u.get? a=Bc b)->dM P cs S h l f->dM P F J u l f:=by intro l f k c;induction c with|nil=>exact .nil|cons d r _ p=>exact .cons (k _ (.head _) _ d) (r.mono i j) (p λa m=>k a (.tail _ m))
theorem dh.keep(B:fU cs F)(A:∀a o,S a o->J a o){C:ai a7}(k:∀a∈C,∀o,h.get? a=Bc o->u.get? a=Bc o)(x:dh P bad cs S h s C ov):dh P bad F J u s C ov:=by induction x with|ae=>exact .ae _|sh r=>exact .sh (r.mono B A)|o e r=>exact .o (k _ (.head _) _ e) (r.mono B A)|bS e r=>exact .bS (k _ (.head _) _ e) (r.keep B A λa m=>k a (.tail _ m))|exc G H I K r=>exact .exc (A _ _ G) H I (A _ _ K) (r.mono B A)
theorem gE.keep(l:fU cs F)(m:∀a b,S a b->J a b)(k:∀a∈p.all,∀b,h.get? a=Bc b->u.get? a=Bc b)(d:gE C cs S h c p):gE C F J u c p:=by induction d with|dict f r s=>exact .dict (k _ (.head _) _ f) (r.mono l m) s|inst a f j r=>exact .inst a (k _ (.head _) _ f) (k _ (.tail _ (.head _)) _ j) (r.mono l m)|bW i f j=>exact .bW i (k _ (.tail _ (.head _)) _ f) (k _ (.head _) _ j)
end
section
variable{C:Cx}{y:gn}{f H:Ro}{B:ai Pl}{cs F:ai CA}{G ag:St}{h u:ff}
theorem Go.Dj(d:Go C f H cs F h u)(r:∀a,f a=Bc .sc->fA C h u a)(I:Inv C y f B cs G h):cy y B h u:=λp m s i=>i.keep (λj k=>r _ (I.locs j (k▸m))) λj c b k=>by
 clear i
 subst k
 rcases I.eT j c b m with l|l
 .exact r _ l.2
 .exact(d.kp _ l.2).2 (I.fW j c b m).2
theorem Inv.same(I:Inv C y f B cs G h)(d:Go C f H cs cs h u)(A:∀a r,f a=Bc r->r≠.f->H a=Bc r/\∀k,h.get? a=Bc k->u.get? a=Bc k)(K:∀a j,H a=Bc (.cell j)->f a=Bc (.cell j))(O:∀a,H a≠VG->a<u.objs.size)(L:TabAt C H u):Inv C y H B cs G u:=by
 haveI P:cy y B h u:=d.Dj (λa l=>.fh (A a _ l (by simp)).2) I
 refine⟨O,λa k l=>?_,L,(d.kp _ I.cM).1,I.dH,I.d9,λi p s J Q=>?_,λj c p U J=>?_,λa j l=>I.gG a j (K a j l),I.names,λt m=>d.sc _ (I.locs t m),λt c b m=>?_,I.je,I.fW,λl m=>(I.eS l m).step I.tab (λa w Y=>d.kp a w) λa w=>⟨.inr (d.sc a w),tD (A a _ w (by simp)).2⟩⟩
 .refine aU (I.base a k l) λV W=>d.st a k ⟨V,W⟩
 .refine fN (I.vars i p s J Q) λX N v t r M=>⟨X,N,P p (mD J) N v,t.keep (.refl _) d.st λa m=>(A a _ (r a m) (by simp)).2,λa m=>(A a _ (r a m) (by simp)).1,M⟩
 .refine bD (I.cells j c p U J) λt r M=>⟨t.keep (.refl _) d.st λa m=>(A a _ (r a m) (by simp)).2,λa m=>(A a _ (r a m) (by simp)).1,M⟩
 .rcases I.eT t c b m with w|w
  .exact .inl ⟨w.1,d.sc _ w.2⟩
  .exact .inr ⟨w.1,(d.kp _ w.2).1⟩
theorem TabAt.grow(t:TabAt C f h)(k:∀a b,h.get? a=Bc b->u.get? a=Bc b):TabAt C f u:=t.go (λb c=>k _ b c) λa b d=>⟨k a b d.1,d.2⟩
theorem iz(f:Ro)(cs:ai CA)(k:∀a b,h.get? a=Bc b->u.get? a=Bc b)(s:h.objs.size<=u.objs.size):Go C f f cs cs h u:=⟨.refl _,λa b c=>⟨k a b c.1,c.2⟩,λa d=>⟨d,λY=>.fh λb i=>k a b i⟩,λY d=>d,s⟩
theorem Inv.grow(I:Inv C y f B cs G h)(k:∀a b,h.get? a=Bc b->u.get? a=Bc b)(s:h.objs.size<=u.objs.size):Inv C y f B cs G u:=I.same (iz f cs k s) (λa r c Y=>⟨c,λb d=>k a b d⟩) (λY Y c=>c) (λa c=>nB (I.lt a c) s) (I.tab.grow k)
theorem iT(I:Inv C y f B cs G h)(k:∀a b,h.get? a=Bc b->u.get? a=Bc b)(s:h.objs.size<=u.objs.size):cy y B h u:=(iz f cs k s).Dj (λa Y=>.fh λb c=>k a b c) I
noncomputable def Ro.plus(f:Ro)(b:ai a7)(r:Rl):Ro:=λa=>if a∈b then Bc r else f a
noncomputable def Ro.less(f:Ro)(b:ai a7):Ro:=λa=>if a∈b then VG else f a
theorem Ro.fo(m:a∈b):f.plus b r a=Bc r:=eI m
theorem Ro.eP(m:a∉b):f.plus b r a=f a:=ej m
theorem Ro.pL(m:a∈b):f.less b a=VG:=eI m
theorem Ro.gL(m:a∉b):f.less b a=f a:=ej m
theorem oP(k:∀a b,h.get? a=Bc b->u.get? a=Bc b)(s:h.objs.size<=u.objs.size)(j:∀a∈as,h.objs.size<=a)(p:∀a,f a≠VG->a<h.objs.size):Go C f (f.plus as r) cs cs h u:=by
 haveI l:∀a,f a≠VG->a∉as:=λa c m=>aL (p a c) (Nat.not_lt.mpr (j a m))
 refine⟨.refl _,λa b d=>⟨k a b d.1,?_⟩,λa c=>⟨?_,λY=>.fh λb i=>k a b i⟩,λa c=>?_,s⟩
 .rw[Ro.eP λm=>aL (ib d.1) (Nat.not_lt.mpr (j a m))];exact d.2
 .rw[Ro.eP (l a (nN c))];exact c
 .rw[Ro.eP (l a (nN c))];exact c
theorem Inv.qV(I:Inv C y f B cs G h)(k:∀a b,h.get? a=Bc b->u.get? a=Bc b)(s:h.objs.size<=u.objs.size)(i:∀a∈l,h.objs.size<=a/\a<u.objs.size):Inv C y (f.plus l .f) B cs G u:=by
 haveI t:∀a,f a≠VG->a∉l:=λa c m=>aL (I.lt a c) (Nat.not_lt.mpr (i a m).1)
 haveI p:=oP (C:=C) (cs:=cs) (r:=.f) k s (λa m=>(i a m).1) I.lt
 refine I.same p (λa r c Y=>⟨?_,λb d=>k a b d⟩) (λa j c=>?_) (λa c=>?_) (I.tab.go (λb c=>k _ b c) p.st)
 .rw[Ro.eP (t a (nN c))];exact c
 .by_cases m:a∈l
  .rw[Ro.fo m]at c;simp at c
  .rwa[Ro.eP m]at c
 .by_cases m:a∈l
  .exact(i a m).2
  .rw[Ro.eP m]at c;exact nB (I.lt a c) s
theorem XC(j:∀a∈i,f a=Bc .f->Eo)(k:∀a∈i,f a=Bc .sc->Eo):Go C f (f.less i) cs cs h h:=by
 refine⟨.refl _,λa b c=>⟨c.1,?_⟩,λa d=>⟨?_,λY=>.refl C h a⟩,λa d=>?_,ir _⟩
 .by_cases m:a∈i
  .exact Ro.pL m
  .rw[Ro.gL m];exact c.2
 .rw[Ro.gL λm=>j a m d];exact d
 .rw[Ro.gL λm=>k a m d];exact d
theorem i8:∀a b,Sb f h a b->Sb (f.less d) h a b:=λa b c=>⟨c.1,by
by_cases m:a∈d
.exact Ro.pL m
.rw[Ro.gL m];exact c.2⟩
theorem Inv.E8(I:Inv C y f B cs G h)(g:Go C aR f bJ cs h₀ h)(P:aR C.tab=Bc .f)(c0:∀x c b,Pl.cell x c b∈B->b=D1->aR c=Bc .f)(Q:∀a∈as,km C a)(A:∀a∈as,f a=Bc .f/\aR a≠Bc .f):Inv C y (f.less as) B cs G h/\Go C aR (f.less as) bJ cs h₀ h:=by
 have K:∀a,aR a=Bc .f->a∉as:=λa e m=>(A a m).2 e
 have J:∀a r,f a=Bc r->r≠.f->a∉as:=λa r e n m=>by rw[(A a m).1]at e;cases e;exact n rfl
 refine⟨⟨λa e=>?_,λa o e=>?_,I.tab.sb i8,?_,I.dH,I.d9,λi p s M U=>?_,λj c p V M=>?_,λa j e=>?_,I.names,λx m=>?_,λx c b m=>?_,I.je,I.fW,λe m=>?_⟩,?_⟩
 .refine I.lt a λq=>e ?_
  by_cases m:a∈as
  .exact Ro.pL m
  .rw[Ro.gL m];exact q
 .refine aU (I.base a o e) λW X=>i8 a o ⟨W,X⟩
 .rw[Ro.gL (K _ P)];exact I.cM
 .refine fN (I.vars i p s M U) λZ w v x r N=>⟨Z,w,v,x.keep (.refl _) i8 λY Y Y e=>e,λa m=>by rw[Ro.gL (J a _ (r a m) Bh)];exact r a m,N⟩
 .refine bD (I.cells j c p V M) λx r N=>⟨x.keep (.refl _) i8 λY Y Y e=>e,λa m=>by rw[Ro.gL (J a _ (r a m) GC)];exact r a m,N⟩
 .by_cases m:a∈as
  .rw[Ro.pL m]at e;cases e
  .rw[Ro.gL m]at e;exact I.gG a j e
 .rw[Ro.gL (J _ _ (I.locs x m) (by simp))];exact I.locs x m
 .rcases I.eT x c b m with q|q
  .exact .inl ⟨q.1,by rw[Ro.gL (J _ _ q.2 (by simp))];exact q.2⟩
  .exact .inr ⟨q.1,by rw[Ro.gL (K _ (c0 x c b m q.1))];exact q.2⟩
 .obtain⟨d,L,o,O,k,l⟩:=I.eS e m;have t:L∉as:=λq=>Q L q e m O;exact⟨d,L,o,O,by rw[Ro.gL t];exact k,l⟩
 .refine⟨g.cs,λa o x=>i8 a o (g.st a o x),λa e=>⟨by rw[Ro.gL (K a e)];exact(g.kp a e).1,(g.kp a e).2⟩,λa e=>?_,g.sz⟩;rw[Ro.gL (J a _ (g.sc a e) (by simp))];exact g.sc a e
noncomputable def Ro.give(f:Ro)(b:ai a7)(i:ak):Ro:=λa=>if a∈b then Bc (.o i)else if f a=Bc (.o i)then VG else f a
theorem Ro.BA{b:ai a7}(m:a∈b):f.give b i a=Bc (.o i):=eI m
theorem Ro.mn{c:ai a7}(m:a∉c)(b:f a≠Bc (.o i)):f.give c i a=f a:=(ej m).trans (ej b)
theorem Ro.KO{c:ai a7}(m:a∉c)(b:f a=Bc (.o i)):f.give c i a=VG:=(ej m).trans (eI b)
theorem Ro.uq{c:ai a7}(m:a∉c)(b:f a=VG):f.give c i a=VG:=by rw[Ro.mn m (by rw[b];simp)];exact b
theorem Inv.FC{J:ai a7}(I:Inv C y f B cs G h)(g:Go C aR f bJ cs h₀ h)(t:aR C.tab=Bc .f)(c0:∀x c b,Pl.cell x c b∈B->b=D1->aR c=Bc .f)(f0:F0 C aR)(X:B[i]?=Bc p)(v:f A=Bc .sc)(N:MJ A h u)(hv:dB y u p Gc)(ho:∀q∈B,q≠p->∀O,dB y h q O->dB y u q O)(B9:dh C.w.params C.bad cs (Sb f h) h sl J Gc)(K:∀a∈J,f a=Bc .f/\aR a=VG)(nd:J.Nodup)(pA:rg h A->rg u A):Inv C y (f.give J i) B cs ⟨G.l.set i sl,G.cells⟩ u/\Go C aR (f.give J i) bJ cs h₀ u:=by
 haveI nt:∀a,aR a=Bc .f->a∉J:=λa e m=>by rw[(K a m).2]at e;cases e
 haveI nn:∀a r,f a=Bc r->r≠.f->a∉J:=λa r e n m=>by rw[(K a m).1]at e;cases e;exact n rfl
 haveI d:∀a,f a≠Bc .sc->a≠A:=λa e q=>e (q▸v)
 have L:∀a,f a≠Bc .sc->∀o,h.get? a=Bc o->u.get? a=Bc o:=λa e o q=>(N.2 a (d a e)).trans q
 clear d v
 have sb:∀a o,Sb f h a o->Sb (f.give J i) u a o:=λa o x=>⟨L a (by rw[x.2];simp) o x.1,Ro.uq (λm=>by have q:=x.2;rw[(K a m).1]at q;cases q) x.2⟩
 have U:∀a r,f a=Bc r->r≠.f->r≠.o i->f.give J i a=Bc r:=λa r e n n'=>by rw[Ro.mn (nn a r e n) (by rw[e];simpa using n')];exact e
 have V:∀a,aR a=Bc .f->f.give J i a=Bc .f:=λa e=>by rw[Ro.mn (nt a e) (by rw[(g.kp a e).1];simp)];exact(g.kp a e).1
 have P:∀a,f a=Bc .sc->f.give J i a=Bc .sc:=λa e=>U a _ e JF wB
 refine⟨⟨λa e=>?_,λa o e=>?_,?_,V _ t,?_,I.d9,λj q s M Q=>?_,λj c q hc M=>?_,λa j e=>?_,I.names,λx m=>P _ (I.locs x m),λx c b m=>?_,I.je,I.fW,λe m=>(I.eS e m).step I.tab (λa q z=>⟨?_,λY=>.fh (L a (by rw[q];simp))⟩) λa q=>⟨.inr (P a q),λk=>?_⟩⟩,?_⟩
 .rw[N.1]
  refine I.lt a λq=>e ?_
  by_cases m:a∈J
  .rw[(K a m).1]at q;cases q
  .exact Ro.uq m q
 .refine aU (I.base a o e) λe1 e2=>sb a o ⟨e1,e2⟩
 .refine aj I.tab λvs e q=>⟨vs,L _ (by rw[I.cM];simp) _ e,q.mono sb⟩
 .simp[I.dH]
 .by_cases W:j=i
  .clear P U V
   subst W
   rw[X]at M;cases M
   haveI :s=sl:=by
    haveI hl:j<G.l.length:=by rw[I.dH];exact(List.getElem?_eq_some_iff.mp X).1
    rw[UQ hl]at Q;exact(eF Q).symm
   clear Q;refine aD this.symm ?_;exact⟨J,Gc,hv,B9.keep (.refl _) sb λa m=>L a (by rw[(K a m).1];simp),λa m=>Ro.BA m,nd⟩
  .rw[Uz (ng W)]at Q
   refine fN (I.vars j q s M Q) λya O w x r Z=>?_
   haveI qp:q≠p:=λe=>by
    clear w
    obtain rfl:=e.symm;exact W (Xy I.names M X)
   exact⟨ya,O,ho q (mD M) qp O w,x.keep (.refl _) sb λa m=>L a (by rw[r a m];simp),λa m=>U a _ (r a m) Bh (by simpa using W),Z⟩
 .refine bD (I.cells j c q hc M) λx r Z=>⟨x.keep (.refl _) sb λa m=>L a (by rw[r a m];simp),λa m=>U a _ (r a m) GC BG,Z⟩
 .by_cases m:a∈J
  .rw[Ro.BA m]at e;cases e
  .by_cases n:f a=Bc (.o i)
   .rw[Ro.KO m n]at e;cases e
   .rw[Ro.mn m n]at e;exact I.gG a j e
 .rcases I.eT x c b m with q|q
  .exact .inl ⟨q.1,P _ q.2⟩
  .exact .inr ⟨q.1,V _ (c0 x c b m q.1)⟩
 .rw[Ro.mn (λz2=>f0 e m a z (K a z2).2) (by rw[q];simp)];exact q
 .by_cases l:a=A
  .clear N;subst l;exact pA k
  .exact tD (λo z=>(N.2 a l).trans z) k
 .exact⟨g.cs,λa o x=>sb a o (g.st a o x),λa e=>⟨V a e,λn=>((g.kp a e).2 n).trans (.fh (L a (by rw[(g.kp a e).1];simp)))⟩,λa e=>P a (g.sc a e),by rw[N.1];exact g.sz⟩
end
structure TC where
sc:uz
ns:ai Str
nm:ak->Str
gk:ak->aA
fk:ak->aA
oV:ak
om:ak
gz:ak
ju:ak
hn:aA
lv:ak
lam:aA
jk:Pos
noncomputable def TC.bN(c:TC)(i:ak)(a:Str):aA:=c.ns[i]?==Bc a
noncomputable def TC.qO(c:TC)(k:ak)(a:Str):aA:=a==c.nm k&&c.sc.names.lookup a==Bc .globalImplicit
theorem fc{p:Prop}[Bs p]{a:p->aA}{P:Prop}(b:¬p)(h:dite p a (λY=>Un)=D1):P:=no ((dif_neg b).symm.trans h)
noncomputable def eA(y:dt)(f:Str->Pos->aA):aA:=if h:y.ctorIdx=23 then arn (motive_1:=λY=>aA) y h f else Un
@[elab_as_elim]theorem dD{M:dt->Prop}{y:dt}{f}(h:eA y f=D1)(a:∀b p,f b p=D1->M (.Name b p)):M y:=if c:y.ctorIdx=23 then arn y c a h else fc c h
noncomputable def oy(y:dt)(f:y9->ak->Pos->aA):aA:=if h:y.ctorIdx=19 then apz (motive_1:=λY=>aA) y h f else Un
@[elab_as_elim]theorem pB{M:dt->Prop}{y:dt}{f}(h:oy y f=D1)(a:∀k b p,f k b p=D1->M (.Constant k b p)):M y:=if c:y.ctorIdx=19 then apz y c a h else fc c h
noncomputable def oU(y:dt)(f:dt->Str->Pos->aA):aA:=if h:y.ctorIdx=20 then apq (motive_1:=λY=>aA) y h f else Un
@[elab_as_elim]theorem pP{M:dt->Prop}{y:dt}{f}(h:oU y f=D1)(a:∀v b p,f v b p=D1->M (.Attribute v b p)):M y:=if c:y.ctorIdx=20 then apq y c a h else fc c h
noncomputable def kZ(y:dt)(f:dt->dt->Pos->aA):aA:=if h:y.ctorIdx=21 then apo (motive_1:=λY=>aA) y h f else Un
@[elab_as_elim]theorem ku{M:dt->Prop}{y:dt}{f}(h:kZ y f=D1)(a:∀v s p,f v s p=D1->M (.Subscript v s p)):M y:=if b:y.ctorIdx=21 then apo y b a h else fc b h
noncomputable def CR(y:dt)(f:(aw dt)->(aw dt)->(aw dt)->Pos->aA):aA:=if h:y.ctorIdx=26 then aqx (motive_1:=λY=>aA) y h f else Un
@[elab_as_elim]theorem IP{M:dt->Prop}{y:dt}{f}(h:CR y f=D1)(a:∀l u t p,f l u t p=D1->M (.Slice l u t p)):M y:=if b:y.ctorIdx=26 then aqx y b a h else fc b h
noncomputable def wH(y:dt)(f:UnaryOp->dt->Pos->aA):aA:=if h:y.ctorIdx=3 then aq9 (motive_1:=λY=>aA) y h f else Un
@[elab_as_elim]theorem wj{M:dt->Prop}{y:dt}{f}(h:wH y f=D1)(a:∀b v p,f b v p=D1->M (.UnaryOp b v p)):M y:=if c:y.ctorIdx=3 then aq9 y c a h else fc c h
noncomputable def BX(y:dt)(f:dt->Me->dt->Pos->aA):aA:=if h:y.ctorIdx=2 then aqz (motive_1:=λY=>aA) y h f else Un
@[elab_as_elim]theorem Fl{M:dt->Prop}{y:dt}{f}(h:BX y f=D1)(a:∀l b r p,f l b r p=D1->M (.BinOp l b r p)):M y:=if c:y.ctorIdx=2 then aqz y c a h else fc c h
noncomputable def zS(y:dt)(f:dt->(ai By)->(ai dt)->Pos->aA):aA:=if h:y.ctorIdx=15 then aqa (motive_1:=λY=>aA) y h f else Un
@[elab_as_elim]theorem vA{M:dt->Prop}{y:dt}{f}(h:zS y f=D1)(a:∀l b r p,f l b r p=D1->M (.Compare l b r p)):M y:=if c:y.ctorIdx=15 then aqa y c a h else fc c h
noncomputable def LF(y:dt)(f:E2->(ai dt)->Pos->aA):aA:=if h:y.ctorIdx=0 then aqi (motive_1:=λY=>aA) y h f else Un
@[elab_as_elim]theorem Jt{M:dt->Prop}{y:dt}{f}(h:LF y f=D1)(a:∀b v p,f b v p=D1->M (.BoolOp b v p)):M y:=if c:y.ctorIdx=0 then aqi y c a h else fc c h
noncomputable def Kw(y:dt)(f:dt->dt->dt->Pos->aA):aA:=if h:y.ctorIdx=5 then aqy (motive_1:=λY=>aA) y h f else Un
@[elab_as_elim]theorem abW{M:dt->Prop}{y:dt}{f}(h:Kw y f=D1)(c:∀a b d p,f a b d p=D1->M (.IfExp a b d p)):M y:=if i:y.ctorIdx=5 then aqy y i c h else fc i h
noncomputable def vJ(y:dt)(f:(ai dt)->Pos->aA):aA:=if h:y.ctorIdx=24 then aro (motive_1:=λY=>aA) y h f else Un
@[elab_as_elim]theorem ub{M:dt->Prop}{y:dt}{f}(h:vJ y f=D1)(a:∀l p,f l p=D1->M (.List l p)):M y:=if b:y.ctorIdx=24 then aro y b a h else fc b h
noncomputable def pN(y:dt)(f:(ai dt)->ak->Pos->aA):aA:=if h:y.ctorIdx=25 then aqw (motive_1:=λY=>aA) y h f else Un
@[elab_as_elim]theorem ri{M:dt->Prop}{y:dt}{f}(h:pN y f=D1)(a:∀l k p,f l k p=D1->M (.Tuple l k p)):M y:=if b:y.ctorIdx=25 then aqw y b a h else fc b h
noncomputable def EL(y:dt)(f:(ai (aw dt))->(ai dt)->Pos->aA):aA:=if h:y.ctorIdx=6 then arp (motive_1:=λY=>aA) y h f else Un
@[elab_as_elim]theorem zR{M:dt->Prop}{y:dt}{f}(h:EL y f=D1)(a:∀k v p,f k v p=D1->M (.Dict k v p)):M y:=if b:y.ctorIdx=6 then arp y b a h else fc b h
noncomputable def jv(y:dt)(f:dt->(ai dt)->(ai Wi)->Pos->aA):aA:=if h:y.ctorIdx=16 then arq (motive_1:=λY=>aA) y h f else Un
@[elab_as_elim]theorem jm{M:dt->Prop}{y:dt}{f}(h:jv y f=D1)(a:∀b l k p,f b l k p=D1->M (.Call b l k p)):M y:=if c:y.ctorIdx=16 then arq y c a h else fc c h
noncomputable def EH(y:dt)(f:dt->(ai MK)->uz->Pos->aA):aA:=if h:y.ctorIdx=8 then apy (motive_1:=λY=>aA) y h f else Un
@[elab_as_elim]theorem yY{M:dt->Prop}{y:dt}{f}(h:EH y f=D1)(a:∀b c s p,f b c s p=D1->M (.ListComp b c s p)):M y:=if b:y.ctorIdx=8 then apy y b a h else fc b h
noncomputable def xt(y:y9)(f:a0->aA):aA:=match y with|.int j=>f j|_=>Un
@[elab_as_elim]theorem zW{M:y9->Prop}{y:y9}{f}(h:xt y f=D1)(b:∀a,f a=D1->M (.int a)):M y:=by cases y<;>first|exact b _ h|exact no h
noncomputable def H4(y:y9)(f:Str->aA):aA:=match y with|.str b=>f b|_=>Un
@[elab_as_elim]theorem Xa{M:y9->Prop}{y:y9}{f}(h:H4 y f=D1)(c:∀a,f a=D1->M (.str a)):M y:=by cases y<;>first|exact c _ h|exact no h
noncomputable def O6(y:y9)(f:(ai Bq)->aA):aA:=match y with|.bytes b=>f b|_=>Un
@[elab_as_elim]theorem aek{M:y9->Prop}{y:y9}{f}(h:O6 y f=D1)(c:∀a,f a=D1->M (.bytes a)):M y:=by cases y<;>first|exact c _ h|exact no h
noncomputable def J4(y:y9)(f:aA->aA):aA:=match y with|.bool b=>f b|_=>Un
@[elab_as_elim]theorem VP{M:y9->Prop}{y:y9}{f}(h:J4 y f=D1)(c:∀a,f a=D1->M (.bool a)):M y:=by cases y<;>first|exact c _ h|exact no h
noncomputable def tc(y:hI)(f:(ai dt)->dt->Pos->aA):aA:=if h:y.ctorIdx=5 then aqg (motive_2:=λY=>aA) y h f else Un
@[elab_as_elim]theorem uI{M:hI->Prop}{y:hI}{f}(h:tc y f=D1)(a:∀t v p,f t v p=D1->M (.Assign t v p)):M y:=if b:y.ctorIdx=5 then aqg y b a h else fc b h
noncomputable def vQ(y:hI)(f:dt->Pos->aA):aA:=if h:y.ctorIdx=24 then ard (motive_2:=λY=>aA) y h f else Un
@[elab_as_elim]theorem Af{M:hI->Prop}{y:hI}{f}(h:vQ y f=D1)(a:∀v p,f v p=D1->M (.Expr v p)):M y:=if b:y.ctorIdx=24 then ard y b a h else fc b h
noncomputable def Kt(y:hI)(f:dt->(ai hI)->(ai hI)->Pos->aA):aA:=if h:y.ctorIdx=12 then Δ (motive_2:=λY=>aA) y h f else Un
@[elab_as_elim]theorem Xo{M:hI->Prop}{y:hI}{f}(h:Kt y f=D1)(a:∀t b c p,f t b c p=D1->M (.If t b c p)):M y:=if d:y.ctorIdx=12 then Δ y d a h else fc d h
noncomputable def JW(y:hI)(f:dt->(ai hI)->(ai hI)->Pos->aA):aA:=if h:y.ctorIdx=11 then aqn (motive_2:=λY=>aA) y h f else Un
@[elab_as_elim]theorem WD{M:hI->Prop}{y:hI}{f}(h:JW y f=D1)(a:∀t b c p,f t b c p=D1->M (.While t b c p)):M y:=if d:y.ctorIdx=11 then aqn y d a h else fc d h
noncomputable def C2(y:hI)(f:dt->dt->(ai hI)->(ai hI)->Pos->aA):aA:=if h:y.ctorIdx=9 then w! (motive_2:=λY=>aA) y h f else Un
@[elab_as_elim]theorem Jv{M:hI->Prop}{y:hI}{f}(h:C2 y f=D1)(a:∀t i b c p,f t i b c p=D1->M (.For t i b c p)):M y:=if d:y.ctorIdx=9 then w! y d a h else fc d h
noncomputable def Ft(y:hI)(f:(aw dt)->Pos->aA):aA:=if h:y.ctorIdx=3 then aqf (motive_2:=λY=>aA) y h f else Un
@[elab_as_elim]theorem Jr{M:hI->Prop}{y:hI}{f}(h:Ft y f=D1)(a:∀b p,f b p=D1->M (.Return b p)):M y:=if c:y.ctorIdx=3 then aqf y c a h else fc c h
noncomputable def PQ(y:hI)(f:(aw dt)->(aw dt)->Pos->aA):aA:=if h:y.ctorIdx=16 then aqo (motive_2:=λY=>aA) y h f else Un
@[elab_as_elim]theorem VY{M:hI->Prop}{y:hI}{f}(h:PQ y f=D1)(a:∀b c p,f b c p=D1->M (.Raise b c p)):M y:=if b:y.ctorIdx=16 then aqo y b a h else fc b h
noncomputable def KW(y:hI)(f:(ai hI)->(ai Do)->(ai hI)->(ai hI)->Pos->aA):aA:=if h:y.ctorIdx=17 then as6 (motive_2:=λY=>aA) y h f else Un
@[elab_as_elim]theorem aao{M:hI->Prop}{y:hI}{f}(h:KW y f=D1)(a:∀b h c d p,f b h c d p=D1->M (.Try b h c d p)):M y:=if i:y.ctorIdx=17 then as6 y i a h else fc i h
noncomputable def LX:y9->aA|.none=>D1|_=>Un
theorem aaf(h:LX k=D1):k=.none:=by cases k<;>first|rfl|exact no h
noncomputable def xO(y:dt):aA:=eA y λY Y=>D1
@[elab_as_elim]theorem Sm{M:dt->Prop}{y:dt}(h:xO y=D1)(a:∀b p,M (.Name b p)):M y:=dD h λb p Y=>a b p
noncomputable def m1{c:Type}(l:ai c)(f:c->aA):aA:=match l with|[a]=>f a|_=>Un
@[elab_as_elim]theorem i1{c:Type}{M:ai c->Prop}{l:ai c}{f}(h:m1 l f=D1)(b:∀a,f a=D1->M [a]):M l:=by cases l with|nil=>exact no h|cons a r=>cases r with|nil=>exact b _ h|cons=>exact no h
noncomputable def m2{d:Type}(l:ai d)(f:d->d->aA):aA:=match l with|[a,b]=>f a b|_=>Un
@[elab_as_elim]theorem i2{d:Type}{M:ai d->Prop}{l:ai d}{f}(h:m2 l f=D1)(c:∀a b,f a b=D1->M [a,b]):M l:=by cases l with|nil=>exact no h|cons a r=>cases r with|nil=>exact no h|cons b r=>cases r with|nil=>exact c _ _ h|cons=>exact no h
noncomputable def DA{c:Type}(l:ai c)(f:c->ai c->aA):aA:=match l with|a::r=>f a r|_=>Un
@[elab_as_elim]theorem Nl{c:Type}{M:ai c->Prop}{l:ai c}{f}(h:DA l f=D1)(b:∀a r,f a r=D1->M (a::r)):M l:=by cases l with|nil=>exact no h|cons a r=>exact b _ _ h
noncomputable def m0{c:Type}(l:ai c)(b:aA):aA:=match l with|[]=>b|_=>Un
@[elab_as_elim]theorem i0{c:Type}{M:ai c->Prop}{l:ai c}{b}(h:m0 l b=D1)(a:b=D1->M []):M l:=by cases l with|nil=>exact a h|cons=>exact no h
noncomputable def Ga(a:dt):aA:=!jv a λb c k Y=>m0 c (m0 k (xO b))
noncomputable def mS{d:Type}(b:aw d)(f:d->aA):aA:=match b with|some a=>f a|none=>Un
@[elab_as_elim]theorem iS{d:Type}{M:aw d->Prop}{b:aw d}{f}(h:mS b f=D1)(c:∀a,f a=D1->M (Bc a)):M b:=by cases b with|none=>exact no h|some a=>exact c _ h
noncomputable def mN{f:Type}(c:aw f)(b:aA):aA:=match c with|none=>b|some _=>Un
@[elab_as_elim]theorem iN{f:Type}{M:aw f->Prop}{c:aw f}{b}(h:mN c b=D1)(d:b=D1->M VG):M c:=by cases c with|none=>exact d h|some a=>exact no h
noncomputable def bI{i d:Type}(f:i->d->aA)(l:ai i):ai d->aA:=match l with|[]=>λr=>m0 r D1|a::l=>λr=>DA r λb r=>f a b&&bI f l r
@[elab_as_elim]theorem zu{i d:Type}{M:ai d->Prop}{f:i->d->aA}{r:ai d}(h:bI f [] r=D1)(c:M []):M r:=i0 h λY=>c
@[elab_as_elim]theorem vH{i d:Type}{M:ai d->Prop}{f:i->d->aA}{a:i}{l:ai i}{r:ai d}(h:bI f (a::l) r=D1)(c:∀b r,f a b=D1->bI f l r=D1->M (b::r)):M r:=Nl h λb r h=>c b r (iA h).1 (iA h).2
theorem U8{M:ai m->ai p->Prop}(h:bI f l r=D1)(c:M [] [])(k:∀{a l b r},f a b=D1->bI f l r=D1->M l r->M (a::l) (b::r)):M l r:=by induction l generalizing r with|nil=>exact zu h c|cons a l i=>exact vH h λb r j d=>k j d (i d)
noncomputable def qy{d h:Type}(f:d->h->aA)(c:aw d)(r:aw h):aA:=match c with|none=>mN r D1|some a=>mS r λb=>f a b
noncomputable def BY(l:ai Wi)(f:Str->dt->aA):aA:=m1 l λk=>mS k.arg λy=>f y k.value
@[elab_as_elim]theorem NK{M:ai Wi->Prop}{l:ai Wi}{f}(h:BY l f=D1)(a:∀y v p,f y v=D1->M [⟨Bc y,v,p⟩]):M l:=i1 h λ⟨_,_,_⟩h=>iS (M:=λb=>M [⟨b,_,_⟩]) h λY h=>a _ _ _ h
noncomputable def LJ(l:ai MK)(f:dt->dt->ai dt->aA):aA:=m1 l λb=>decide (b.is_async=0)&&f b.target b.iter b.ifs
@[elab_as_elim]theorem N3{M:ai MK->Prop}{l:ai MK}{f}(h:LJ l f=D1)(c:∀t i s,f t i s=D1->M [⟨t,i,s,0⟩]):M l:=i1 h λ⟨t,i,s,a⟩h=>(show a=0 from hQ (iA h).1)▸c t i s (iA h).2
noncomputable def PF(l:ai MK)(f:dt->dt->dt->dt->ai dt->aA):aA:=m2 l λg k=>decide (g.is_async=0)&&(decide (k.is_async=0)&&m0 g.ifs (f g.target g.iter k.target k.iter k.ifs))
@[elab_as_elim]theorem Qj{M:ai MK->Prop}{l:ai MK}{f}(h:PF l f=D1)(z:∀t i t2 i2 s,f t i t2 i2 s=D1->M [⟨t,i,[],0⟩,⟨t2,i2,s,0⟩]):M l:=i2 h λ⟨t,i,s,a⟩⟨t2,i2,A,b⟩h=>(show a=0 from hQ (iA h).1)▸(show b=0 from hQ (iA (iA h).2).1)▸i0 (M:=λs=>M [⟨t,i,s,0⟩,⟨t2,i2,A,0⟩]) (iA (iA h).2).2 λh=>z t i t2 i2 A h
noncomputable def B1(y:dt):aA:=wH y λa v Y=>decide (a=.USub)&&oy v λk Y Y=>xt k λj=>decide (j=1)
@[elab_as_elim]theorem PR{M:dt->Prop}{y:dt}(h:B1 y=D1)(b:∀c p d,M (.UnaryOp .USub (.Constant (.int 1) c p) d)):M y:=wj h λa Y d h=>hQ (iA h).1▸pB (iA h).2 λY c p h=>zW h λj h=>hQ h▸b c p d
noncomputable def Mq(y:dt)(f:E0->dt->uz->Pos->aA):aA:=if h:y.ctorIdx=4 then aqh (motive_1:=λY=>aA) y h f else Un
@[elab_as_elim]theorem TP{M:dt->Prop}{y:dt}{f}(h:Mq y f=D1)(a:∀d b s p,f d b s p=D1->M (.Lambda d b s p)):M y:=if c:y.ctorIdx=4 then aqh y c a h else fc c h
noncomputable def mH(y:Do)(f:aw dt->aw Str->ai hI->aA):aA:=match y with|.ExceptHandler t a b _=>f t a b
@[elab_as_elim]theorem iH{M:Do->Prop}{y:Do}{f}(h:mH y f=D1)(c:∀t a b p,f t a b=D1->M (.ExceptHandler t a b p)):M y:=by cases y;exact c _ _ _ _ h
noncomputable def ia(c:TC):ak->cO->dt->aA|0,_,_=>Un|f+1,t,p=>match t with|.nm i=>eA p λa Y=>c.bN i a&&(c.sc.names.lookup a==Bc .local||c.sc.names.lookup a==Bc .cell)|.tp l=>pN p λb Y Y=>bI (ia c f) l b
noncomputable def Fd(y:dt):aA:=pN y λY Y Y=>D1
noncomputable def mQ:It->dt->aA|.gq _,t=>Fd t|_,_=>D1
noncomputable def Bm:ai Str->aA|[]=>D1|a::r=>!r.contains a&&Bm r
noncomputable def xJ(c:TC)(sc:uz)(own cap:ai Str):aA:=sc.kind==.function&&!own.isEmpty&&Bm (own++cap)&&own.all (λx=>sc.names.lookup x==Bc .local&&!(x==("__debug__":Str))&&!(x==("__classdict__":Str)))&&cap.all (λx=>sc.names.lookup x==Bc .free&&(c.sc.names.lookup x==Bc .cell||c.sc.names.lookup x==Bc .free))&&sc.names.all (λp=>match p.2 with|.local=>sc.names.lookup p.1==Bc .local|.free=>cap.contains p.1&&sc.names.lookup p.1==Bc .free|.globalImplicit=>D1|_=>Un)
noncomputable def cOk(d:D)(k:y9):aA:=d.casesOn (motive_1:=λY=>aA) (LX k) (λb=>J4 k λa=>a==b) (λi=>xt k λj=>decide (j=i)) (λs=>H4 k λc=>c.cps.toList==s) (λs=>O6 k λb=>b.map Ge==s) (λY=>Un) (λY=>Un) (λY Y=>Un) (λY=>Un) λY=>Un
noncomputable def vw(ps:E0)(body:dt)(sc:uz):aA:=m0 ps.posonlyargs (m1 ps.args λp=>mN ps.vararg (m0 ps.kwonlyargs (m0 ps.kw_defaults (mN ps.kwarg (m0 ps.defaults (kZ body λv s Y=>eA v λx Y=>oy s λk Y Y=>xt k λj=>decide (j=0)&&x==p.arg&&sc.kind==.function&&!sc.isCoroutine&&!sc.isGenerator&&sc.names.lookup x==Bc .local&&sc.names.all (λq=>q.2 !=.cell&&q.2 !=.free)&&!(x==("__debug__":Str))&&!(x==("__classdict__":Str))))))))
noncomputable def EO(r:E->dt->aA)(c:TC)(F:It)(B:dt):aA:=match F with|.ex a=>r a B|.gq a=>jv B λg es A Y=>eA g λx Y=>m1 es λe=>m0 A (x==("enumerate":Str)&&c.sc.names.lookup x==Bc .globalImplicit&&r a e)|.bM a=>jv B λg es A Y=>eA g λx Y=>m1 es λe=>BY A λy v=>Mq v λG C H p=>x==("sorted":Str)&&y==("key":Str)&&c.sc.names.lookup x==Bc .globalImplicit&&c.lam&&vw G C H&&js p.line c.jk.line&&js p.col c.jk.col&&ys 0 c.lv&&r a e|.fp VG b=>jv B λg es A Y=>eA g λx Y=>m1 es λe=>m0 A (x==("range":Str)&&c.sc.names.lookup x==Bc .globalImplicit&&r b e)|.fp (Bc a) b=>jv B λg es A Y=>eA g λx Y=>m2 es λe h=>m0 A (x==("range":Str)&&c.sc.names.lookup x==Bc .globalImplicit&&r a e&&r b h)
noncomputable def aN(c:TC)(f:ak)(e:E)(A:dt):aA:=match f with|0=>Un|f+1=>match e with|.l i=>eA A λx Y=>c.bN i x|.c d=>oy A λk Y Y=>cOk d k|.aO k=>eA A λx Y=>c.qO k x|.bw a k=>oU A λv x Y=>xO v&&c.fk k&&x==c.nm k&&aN c f a v|.sub a b=>kZ A λv s Y=>aN c f a v&&aN c f b s|.jC i b=>kZ A λv s Y=>eA v λx Y=>c.bN i x&&aN c f b s|.cU a lo hi=>kZ A λv s Y=>CR s λl u t Y=>mN t (aN c f a v&&qy (aN c f) lo l&&qy (aN c f) hi u)|.rev a=>kZ A λv s Y=>CR s λl u t Y=>mN l (mN u (mS t λz=>B1 z&&(xO v&&aN c f a v)))|.b op a b=>BX A λl o r Y=>decide (o=op)&&aN c f a l&&aN c f b r|.neg a=>wH A λo v Y=>decide (o=.USub)&&aN c f a v|.nt a=>wH A λo v Y=>decide (o=.Not)&&aN c f a v|.p a ops bs=>zS A λl os rs Y=>decide (os=ops)&&js ops.length bs.length&&aN c f a l&&bI (aN c f) bs rs|.isNil i B=>zS A λl os rs Y=>eA l λx Y=>m1 os λo=>m1 rs λr=>vJ r λes Y=>m0 es (c.bN i x&&decide (o=if B then .NotEq else .Eq))|.jB a B=>zS A λl os rs Y=>m1 os λo=>m1 rs λr=>EL r λks vs Y=>m0 ks (m0 vs (aN c f a l&&decide (o=if B then .NotEq else .Eq)))|.bj op l=>LF A λo vs Y=>decide (o=op)&&bI (aN c f) l vs|.ite t a b=>Kw A λx y z Y=>aN c f t x&&aN c f a y&&aN c f b z|.a l=>vJ A λes Y=>qA l.length 1000&&bI (aN c f) l es|.nest=>vJ A λes Y=>m1 es λe=>vJ e λfs Y=>m0 fs D1|.u l=>pN A λes Y Y=>qA l.length 1000&&bI (aN c f) l es|.i7 ks vs=>EL A λG H Y=>qA ks.length 15&&bI (λk o=>qy (aN c f) (Bc k) o) ks G&&bI (aN c f) vs H|.call k l=>jv A λg es kw Y=>eA g λx Y=>m0 kw ((c.hn||k==c.gz)&&c.gk k&&c.qO k x&&bI (aN c f) l es)|.T3 k n a=>jv A λg es kw Y=>eA g λx Y=>m0 es (BY kw λy v=>c.hn&&c.gk k&&c.qO k x&&y==c.nm n&&aN c f a v)|.cH a k l=>jv A λg es kw ps=>oU g λo x ap=>m0 kw (c.hn&&Ga o&&(ap.endLine==ps.line)&&decide (es.length<20)&&x==c.nm k&&aN c f a o&&bI (aN c f) l es)|.ie i=>jv A λh es kw Y=>eA h λg Y=>m1 es λe=>eA e λx Y=>m0 kw (c.qO c.oV g&&c.bN i x)|.told i=>oU A λo g Y=>eA o λx Y=>c.bN i x&&g==c.nm c.om|.yc i=>jv A λh es kw ps=>oU h λo g ap=>eA o λx Y=>m0 es (m0 kw ((ap.endLine==ps.line)&&c.bN i x&&g==("pop":Str)))|.comp elt tg it ifs nl caps=>EH A λe C sc Y=>LJ C λt F fs=>let cap:=caps.filterMap (c.ns[.]?);let c2:TC:={c with sc:=sc,ns:=nl.map c.nm++cap,lv:=c.lv-1,lam:=Un};c.hn&&ys 0 c.lv&&(cap.length==caps.length)&&xJ c sc (nl.map c.nm) cap&&mQ it t&&EO (aN c f) c it F&&ia c2 f tg t&&bI (aN c2 f) ifs fs&&aN c2 f elt e|.sD elt tg it fQ fu ifs nl caps=>EH A λe C sc Y=>PF C λt F t2 I fs=>let cap:=caps.filterMap (c.ns[.]?);let c2:TC:={c with sc:=sc,ns:=nl.map c.nm++cap,lv:=c.lv-1,lam:=Un};c.hn&&ys 0 c.lv&&(cap.length==caps.length)&&xJ c sc (nl.map c.nm) cap&&aN c f it F&&ia c2 f tg t&&ia c2 f fQ t2&&aN c2 f fu I&&bI (aN c2 f) ifs fs&&aN c2 f elt e
theorem Z2(h:aN c (f+1) (.comp elt tg it ifs nl caps) (.ListComp e [⟨t,bH,fs,0⟩] sc pos)=D1):(c.hn&&ys 0 c.lv&&((caps.filterMap (c.ns[.]?)).length==caps.length)&&xJ c sc (nl.map c.nm) (caps.filterMap (c.ns[.]?))&&mQ it t&&EO (aN c f) c it bH&&ia {c with sc:=sc,ns:=nl.map c.nm++caps.filterMap (c.ns[.]?),lv:=c.lv-1,lam:=Un} f tg t&&bI (aN {c with sc:=sc,ns:=nl.map c.nm++caps.filterMap (c.ns[.]?),lv:=c.lv-1,lam:=Un} f) ifs fs&&aN {c with sc:=sc,ns:=nl.map c.nm++caps.filterMap (c.ns[.]?),lv:=c.lv-1,lam:=Un} f elt e)=D1:=h
noncomputable abbrev aN.ph(c:TC)(f:ak)(i:It)(p:dt):aA:=EO (aN c f) c i p
noncomputable def sq(y:dt):aA:=ys 7 y.ctorIdx&&ys y.ctorIdx 11
def FA(a:E):aA:=js a.ix 1
noncomputable def vo(c:TC)(i:ak)(t:dt):aA:=eA t λa Y=>c.bN i a&&(c.sc.names.lookup a==Bc .local||c.sc.names.lookup a==Bc .cell)
noncomputable def E1:ai ak->aA|[]=>D1|a::r=>!r.contains a&&E1 r
noncomputable def uW(c:TC)(i:ak)(a:dt):aA:=eA a λb Y=>c.bN i b
noncomputable def FH(c:TC)(k:ak)(a:dt):aA:=BX a λl b r Y=>eA l λd Y=>decide (b=.Sub)&&((oy r λf Y Y=>xt f λj=>decide (j=1))&&c.bN k d)
@[elab_as_elim]theorem H9{M:dt->Prop}{c:TC}{k:ak}{a:dt}(h:FH c k a=D1)(i:∀d p f r u,c.bN k d=D1->M (.BinOp (.Name d p) .Sub (.Constant (.int 1) u f) r)):M a:=Fl h λl b r p h=>dD h λd t h=>hQ (iA h).1▸pB (iA (iA h).2).1 λf m v s=>zW s λj s=>hQ s▸i d t v p m (iA (iA h).2).2
def hJ(c:TC)(f:ak)(s:S)(C:hI):aA:=match f with|0=>Un|f+1=>match s with|.g i a=>tc C λK v Y=>m1 K λt=>eA t λx Y=>c.bN i x&&(c.sc.names.lookup x==Bc .local||c.sc.names.lookup x==Bc .cell)&&(FA a||!sq v)&&aN c f a v|.de M l=>tc C λG v Y=>m1 G λu=>pN u λK Y Y=>pN v λes Y Y=>c.hn&&bI (vo c) M K&&E1 M&&qA l.length 1000&&js M.length l.length&&(es.all (foldedForSure 8)||!es.all (constantsAlone 8))&&bI (aN c f) l es|.i5 N a=>tc C λG v Y=>m1 G λu=>pN u λK Y Y=>c.hn&&!Fd v&&!sq v&&bI (ia c f) N K&&aN c f a v|.dU a k b=>tc C λG v Y=>m1 G λu=>oU u λo x Y=>c.hn&&xO o&&c.fk k&&x==c.nm k&&!sq v&&aN c f a o&&aN c f b v|.dF a b d=>tc C λG v Y=>m1 G λu=>kZ u λo i Y=>c.hn&&!sq v&&aN c f a o&&aN c f b i&&aN c f d v|.pK i k=>tc C λG v Y=>m1 G λu=>pN u λl Y Y=>m2 l λA B=>kZ A λU V Y=>kZ B λW b2 Y=>pN v λr Y Y=>m2 r λD F=>kZ D λX b3 Y=>kZ F λZ b4 Y=>c.hn&&uW c i U&&FH c k V&&uW c i W&&uW c k b2&&uW c i X&&uW c k b3&&uW c i Z&&FH c k b4|.app i a=>vQ C λe Y=>jv e λh es H L=>oU h λo g ap=>eA o λx Y=>m1 es λv=>m0 H (c.hn&&(ap.endLine==L.line)&&c.bN i x&&g==("append":Str)&&aN c f a v)|.ext i a=>vQ C λe Y=>jv e λh es H L=>oU h λo g ap=>eA o λx Y=>m1 es λv=>m0 H (c.hn&&(ap.endLine==L.line)&&c.bN i x&&g==("extend":Str)&&aN c f a v)|.mX i j=>vQ C λe Y=>jv e λh es H L=>oU h λo g ap=>kZ o λu w Y=>eA u λx Y=>B1 w&&(m1 es λv=>eA v λy Y=>m0 H (c.hn&&(ap.endLine==L.line)&&c.bN i x&&g==("append":Str)&&c.bN j y))|.mF a=>vQ C λv Y=>!sq v&&aN c f a v|.iff t a b=>Kt C λO I J Y=>aN c f t O&&bI (hJ c f) a I&&bI (hJ c f) b J|.jP t b=>JW C λO I J Y=>m0 J (aN c f t O&&bI (hJ c f) b I)|.bA N Q b=>C2 C λt P I J Y=>m0 J (c.hn&&mQ Q t&&ia c f N t&&aN.ph c f Q P&&bI (hJ c f) b I)|.vN a=>C2 C λY P Y J Y=>m0 J (c.hn&&aN c f a P)|.ret a=>Ft C λo Y=>mS o λv=>aN c f a v|.xD i=>Ft C λo Y=>mS o λv=>eA v λx Y=>c.bN i x|.pW k a=>PQ C λe u Y=>mS e λd=>mN u (jv d λg es H Y=>eA g λx Y=>m1 es λv=>m0 H (c.hn&&k==c.ju&&c.qO k x&&aN c f a v))|.oh b k m h=>KW C λI p oe fb Y=>m1 p λq=>mH q λty n hb=>mS ty λw=>eA w λx Y=>DA hb λh0 hr=>m0 oe (m0 fb (c.hn&&k==c.ju&&c.qO k x&&qy (λi y=>c.bN i y&&c.sc.names.lookup y==Bc .local) m n&&bI (hJ c f) b I&&bI (hJ {c with hn:=Un} f) h (h0::hr)))|.av=>D1
section
def FX(C:Cx)(h:ff):Prop:=∀a b,C.h₀.get? a=Bc b->h.get? a=Bc b
def jj(C:Cx)(a:Str)(v:Yj):Prop:=∃m b,C.h₀.Ns Hr m/\C.h₀.Ns Zn b/\(m a=Bc v\/(m a=VG/\b a=Bc v))
structure bq(C:Cx)(env:gn)(c:TC)(af:ai Pl):Prop where
kind:env.scope.kind=.function
glob:env.globals=Hr
blt:env.builtins=Zn
kd:∀x k,c.sc.names.lookup x=Bc k->k≠.free->env.kindOf x=Bc k
kf:∀x,c.sc.names.lookup x=Bc .free->env.kindOf x=Bc .free\/env.kindOf x=Bc .cell
names:af.map Pl.name=c.ns
oW:∀x c',Pl.cell x c' D1∈af->c.sc.names.lookup x=Bc .free
dN:∀x∈c.ns,(x==("__debug__":Str))=Un/\(x==("__classdict__":Str))=Un
nm:c.nm=C.nm
gk:c.gk=C.gk
fk:c.fk=C.fk
kl:c.oV=C.oV
kt:c.om=C.om
vg:c.gz=C.gz
kb:c.ju=C.ju
lam:c.lam=D1->env.code=.ref C.yG/\env.qual++"<lambda>"=C.mU
lp:c.jk=C.jk
structure bx(C:Cx)(A:ip)(n:ak)(hn:aA):Prop where
hd:hn=D1->A.handled=VG
dp:A.depth+3*n+3<Nk
un:A.units+20*n+100<Bz
fr:A.frames=Bc C.fr
theorem bx.less(r:bx C A n b)(h:m<=n)(k:c=D1->b=D1):bx C A m c:=⟨λa=>r.hd (k a),by haveI :=r.dp;exact vM,by haveI :=r.un;exact vM,r.fr⟩
def hM(C:Cx)(w:gn)(K:Ro)(F:ai Pl)(cs:ai CA)(s:a8)(c:Slot)(u:St)(Q:Yj->a8->Prop):Prop:=∀L B H M v b,Inv C w L F B u H->Go C K L cs B s.heap H->cy w F s.heap H->dh C.w.params C.bad B (Sb L H) H c b (Bc v)->(∀a∈b,L a=Bc .f/\s.heap.objs.size<=a)->b.Nodup->Q v {s with heap:=H,toks:=M}
def nF(C:Cx)(w:gn)(K:Ro)(F:ai Pl)(cs:ai CA)(s:a8)(d:D)(u:St)(Q:Yj->a8->Prop):Prop:=∀L B H M v,Inv C w L F B u H->Go C K L cs B s.heap H->cy w F s.heap H->Rd C.w.params B (Sb L H) d v->Q v {s with heap:=H,toks:=M}
def JI(C:Cx)(w:gn)(K:Ro)(F:ai Pl)(cs:ai CA)(s:a8)(l:ai D)(u:St)(Q:ai Yj->a8->Prop):Prop:=∀L B H M v,Inv C w L F B u H->Go C K L cs B s.heap H->cy w F s.heap H->aC C.w.params B (Sb L H) l v->Q v {s with heap:=H,toks:=M}
def mC(C:Cx)(w:gn)(K:Ro)(F:ai Pl)(cs:ai CA)(s:a8)(b:aA)(u:St)(Q:aA->a8->Prop):Prop:=∀L B H M,Inv C w L F B u H->Go C K L cs B s.heap H->cy w F s.heap H->Q b {s with heap:=H,toks:=M}
section
variable{C:Cx}{w:gn}{K L:Ro}{F:ai Pl}{cs B:ai CA}{s:a8}{H:ff}{M:ak}{u:St}
theorem hM.on(k:hM C w K F cs s sl u Q)(b:Go C K L cs B s.heap H)(v:cy w F s.heap H):hM C w L F B {s with heap:=H,toks:=M} sl u Q:=λY Y Y Y Y Y I f h c d i=>k _ _ _ _ _ _ I (b.trans f) (v.trans h) c (λa m=>⟨(d a m).1,gY b.sz (d a m).2⟩) i
theorem nF.on(k:nF C w K F cs s d u Q)(a:Go C K L cs B s.heap H)(v:cy w F s.heap H):nF C w L F B {s with heap:=H,toks:=M} d u Q:=λY Y Y Y Y I c f b=>k _ _ _ _ _ I (a.trans c) (v.trans f) b
theorem mC.on(k:mC C w K F cs s b u Q)(a:Go C K L cs B s.heap H)(v:cy w F s.heap H):mC C w L F B {s with heap:=H,toks:=M} b u Q:=λY Y Y Y I c d=>k _ _ _ _ I (a.trans c) (v.trans d)
theorem hM.sh(k:hM C w K F cs s (.sh d) u Q):nF C w K F cs s d u Q:=λY Y Y Y Y I a v b=>k _ _ _ _ _ [] I a v (.sh b) nM .nil
end
variable(C:Cx)(N:Env)(n:ak)(J:T->St->R)
def n6:Prop:=∀(c:TC)(f:ak)(a:E)(p:dt),aN c f a p=D1->∀t b u,J (.x a) t=.ok (.o b) u->∀A w K F cs s Q X,bx C A (n+c.lv) c.hn->bq C w c F->Inv C w K F cs t s.heap->hM C w K F cs s b u Q->da (eg C.prog C.w) A (jM p w) Q X s
def bG:Prop:=∀(c:TC)(f:ak)(a:E)(p:dt),aN c f a p=D1->∀t d u,J (.e a) t=.ok (.o (.sh d)) u->∀A w K F cs s Q X,bx C A (n+c.lv) c.hn->bq C w c F->Inv C w K F cs t s.heap->nF C w K F cs s d u Q->da (eg C.prog C.w) A (jM p w) Q X s
def gF:Prop:=∀(c:TC)(f:ak)(a:E)(p:dt),aN c f a p=D1->∀t b u,J (.t a) t=.ok (.o (.sh (.bool b))) u->∀A w K F cs s Q X,bx C A (n+c.lv) c.hn->bq C w c F->Inv C w K F cs t s.heap->mC C w K F cs s b u Q->da (eg C.prog C.w) A (GZ p w (jM p w)) Q X s
def du(n:ak)(h:aA)(f:Yj)(b:ai D)(c:ai Cell)(i:Slot)(k:ai Cell):Prop:=∀A K cs(s:a8)vs env Q X,bx C A n h->Inv C env K [] cs ⟨[],c⟩ s.heap->(∀a r,K a=Bc r->r=.f\/∃j,r=.cell j)->aC C.w.params cs (Sb K s.heap) b vs->(∀L B H M v d,Inv C env L [] B ⟨[],k⟩ H->Go C K L cs B s.heap H->(∀a r,L a=Bc r->r=.f\/∃j,r=.cell j)->dh C.w.params C.bad B (Sb L H) H i d (Bc v)->(∀a∈d,L a=Bc .f/\s.heap.objs.size<=a)->d.Nodup->Q v {s with heap:=H,toks:=M})->da (eg C.prog C.w) A (call f vs) Q X s
def uE(n:ak)(h:aA)(f:Yj)(i:Str)(b:D)(c:ai Cell)(k:Slot)(l:ai Cell):Prop:=∀A K cs(s:a8)v env Q X,bx C A n h->Inv C env K [] cs ⟨[],c⟩ s.heap->(∀a r,K a=Bc r->r=.f\/∃j,r=.cell j)->Rd C.w.params cs (Sb K s.heap) b v->(∀L B H M v d,Inv C env L [] B ⟨[],l⟩ H->Go C K L cs B s.heap H->(∀a r,L a=Bc r->r=.f\/∃j,r=.cell j)->dh C.w.params C.bad B (Sb L H) H k d (Bc v)->(∀a∈d,L a=Bc .f/\s.heap.objs.size<=a)->d.Nodup->Q v {s with heap:=H,toks:=M})->da (eg C.prog C.w) A (call f [] [(i,v)]) Q X s
def eD(f:Yj):Prop:=∀h,FX C h->∃k,(k=Keeper.frame\/k=Keeper.machine\/k=Keeper.boundFrame)/\zZ (eg C.prog C.w) h (keeperOf f) k
def LM:Prop:=∀{A:ip}{w:gn}{c:TC}{F:ai Pl}{K:Ro}{cs:ai CA}{t:St}{s:a8}{a:E0}{b:dt}{d:uz}{p:Pos}{l h:ai D}{v:Yj}{Q X:Yj->a8->Prop},bx C A 1 D1->bq C w c F->c.lam=D1->vw a b d=D1->p.line=c.jk.line->p.col=c.jk.col->Inv C w K F cs t s.heap->HF l=Bc h->Rd C.w.params cs (Sb K s.heap) (.list l) v->(∀H M i,Inv C w K F cs t H->Go C K K cs cs s.heap H->cy w F s.heap H->Rd C.w.params cs (Sb K H) (.list h) i->Q i {s with heap:=H,toks:=M})->da (eg C.prog C.w) A (jM (.Lambda a b d p) w) (λf j=>FX C j.heap/\da (eg C.prog C.w) A (call (.builtin "sorted") [v] [(("key":Str),f)]) Q X j) X s
structure dz:Prop where
dI:C.K.In C.h₀
sm:∃o,C.h₀.get? Gd=Bc o
ga:∀c a,C.cls c=Bc a->l5 C.K (.ref a) "__getattribute__"=Bc (Bc (.builtin "object.__getattribute__"))
gh:∀c a,C.cls c=Bc a->l5 C.K (.ref a) "__getattr__"=Bc VG
sa:∀c a,C.cls c=Bc a->l5 C.K (.ref a) "__setattr__"=Bc (Bc (.builtin "object.__setattr__"))
hd:∀c a,C.cls c=Bc a->(GW C.K a).any (·.hasDict)=D1
pl:∀c a,C.cls c=Bc a->xL C.K a=D1
fd:∀c a k,C.cls c=Bc a->C.fk k=D1->l5 C.K (.ref a) (C.nm k)=Bc VG
len:jj C (C.nm C.oV) (.builtin "len")
gq:jj C "enumerate" (.type "enumerate")
fp:jj C "range" (.type "range")
bM:jj C "sorted" (.builtin "sorted")N8:LM C
structure kY:Prop where
gW:dz C
call:∀k args cells sl bg,N.call k args cells=.ok sl bg->∃f,C.fv k=Bc f/\eD C f/\du C n (k !=C.gz) f args cells sl bg
nC:∀k f,C.fv k=Bc f->C.gk k=D1->jj C (C.nm k) f
rJ:∀k,C.gk k=D1->∃f,C.fv k=Bc f/\eD C f
glob:∀k d,N.glob k=Bc d->∃v,jj C (C.nm k) v/\Rd C.w.params [] (λa o=>C.h₀.get? a=Bc o) d v
dN:∀k,(C.nm k==("__debug__":Str))=Un
cH:∀c m i,N.cH c m=Bc i->∀a,C.cls c=Bc a->∃f,C.fv i=Bc (.ref f)/\l5 C.K (.ref a) (C.nm m)=Bc (Bc (.ref f))/\Mb C.K (.ref f)=Bc (.type "function")/\∀k,C.fk k=D1->C.nm k≠C.nm m
get:C.nm N.get=("get":Str)T3:∀k m d cells sl bg,N.call k [d] cells=.ok sl bg->N.kw k m=D1->∃f,C.fv k=Bc f/\eD C f/\uE C n D1 f (C.nm m) d cells sl bg
section
variable{C N n J}
section
variable{P:R->Prop}{G:Prop}
theorem bO{r:R}(n:¬P .fail)(h:P (r.qW f))(k:∀s t,r=.ok (.o s) t->P (f s t)->G):G:=yd (M:=λb=>r=b->G) n h (λp t h a=>Hg (M:=λp=>r=.ok p t->G) n h (λs h a=>k s t a h) a) rfl
theorem bV{r:R}(n:¬P .fail)(h:P (r.aT f))(k:∀d t,r=.ok (.o (.sh d)) t->P (f d t)->G):G:=bO n h λs t a h=>tY (M:=λs=>r=.ok (.o s) t->G) n h (λd h a=>k d t a h) a
theorem bB{r:R}(n:¬P .fail)(h:P (r.bindB f))(k:∀d t,r=.ok (.o (.sh (.bool d))) t->P (f d t)->G):G:=bV n h λs t a h=>Kb (M:=λs=>r=.ok (.o (.sh s)) t->G) n h (λd h a=>k d t a h) a
theorem bL{r:R}(n:¬P .fail)(h:P (r.bindL f))(k:∀d t,r=.ok (.ds d) t->P (f d t)->G):G:=yd (M:=λb=>r=b->G) n h (λp t h a=>GA (M:=λp=>r=.ok p t->G) n h (λs h a=>k s t a h) a) rfl
theorem Ig{r:R}(n:¬P .fail)(h:P (r.qF f))(k:∀d t,r=.ok (.os d) t->P (f d t)->G):G:=yd (M:=λb=>r=b->G) n h (λp t h a=>YF (M:=λp=>r=.ok p t->G) n h (λs h a=>k s t a h) a) rfl
theorem bX{r:R}(n:¬P .fail)(h:P (r.xm f))(a:∀d t,r=.exc d t->P (.exc d t)->G)(k:∀p t,r=.ok p t->P (f p t)->G):G:=R.casesOn (motive:=λc=>P (c.xm f)->r=c->G) r (λp t h b=>k p t b h) (λd t h b=>a d t b h) (λh=>aL h n) h rfl
theorem zM{r:R}(n:¬P .fail)(h:P (r.iK f))(a:∀d t,r=.exc d t->P (.exc d t)->G)(k:∀s t,r=.ok (.o s) t->P (f s t)->G):G:=bX n h a λp t b h=>Hg (M:=λp=>r=.ok p t->G) n h (λs h b=>k s t b h) b
theorem De{r:R}(n:¬P .fail)(h:P (r.kA f))(a:∀d t,r=.exc d t->P (.exc d t)->G)(k:∀s t,r=.ok (.o (.sh s)) t->P (f s t)->G):G:=zM n h a λs t b h=>tY (M:=λs=>r=.ok (.o s) t->G) n h (λd h b=>k d t b h) b
theorem KI{r:R}(n:¬P .fail)(h:P (r.mr f))(a:∀d t,r=.exc d t->P (.exc d t)->G)(k:∀s t,r=.ok (.ds s) t->P (f s t)->G):G:=bX n h a λp t b h=>GA (M:=λp=>r=.ok p t->G) n h (λs h b=>k s t b h) b
end
theorem fE{t:St}:¬R.fail=.ok p t:=nofun
theorem AJ{a:Prop}{t:St}(h:R.exc d u=.ok p t):a:=nomatch h
section
variable{p:bp}{u:St}
theorem dW{r:R}(h:r.aT f=.ok p u):∃d t,r=.ok (.o (.sh d)) t/\f d t=.ok p u:=bV (P:=(.=.ok p u)) fE h λd t a b=>dm d t a b
theorem Cf{r:R}(h:r.kA f=.ok p u):∃d t,r=.ok (.o (.sh d)) t/\f d t=.ok p u:=De (P:=(.=.ok p u)) fE h (λY Y Y=>AJ) λd t a b=>dm d t a b
theorem qg{r:R}(h:r.bindB f=.ok p u):∃b t,r=.ok (.o (.sh (.bool b))) t/\f b t=.ok p u:=bB (P:=(.=.ok p u)) fE h λd t a b=>dm d t a b
theorem Za{r:R}(h:r.qW f=.ok p u):∃b t,r=.ok (.o b) t/\f b t=.ok p u:=bO (P:=(.=.ok p u)) fE h λd t a b=>dm d t a b
theorem Rn{r:R}(h:r.iK f=.ok p u):∃b t,r=.ok (.o b) t/\f b t=.ok p u:=zM (P:=(.=.ok p u)) fE h (λY Y Y=>AJ) λd t a b=>dm d t a b
theorem mY{r:R}(h:r.bindL f=.ok p u):∃b t,r=.ok (.ds b) t/\f b t=.ok p u:=bL (P:=(.=.ok p u)) fE h λd t a b=>dm d t a b
theorem Nj{r:R}(h:r.mr f=.ok p u):∃b t,r=.ok (.ds b) t/\f b t=.ok p u:=KI (P:=(.=.ok p u)) fE h (λY Y Y=>AJ) λd t a b=>dm d t a b
theorem U7{r:R}(h:r.qF f=.ok p u):∃l s,r=.ok (.os l) s/\f l s=.ok p u:=Ig (P:=(.=.ok p u)) fE h λd t a b=>dm d t a b
theorem qh{t:St}(h:vD d t=.ok p u):p=.o (.sh d)/\u=t:=by cases h;exact⟨rfl,rfl⟩
end
section
variable{P:R->Prop}(y:¬P .fail)
include y
theorem jO{f:c->R}(h:P (rO b f)):∃a,b=Bc a/\P (f a):=gC (M:=λb=>∃a,b=Bc a/\P (f a)) y h λa h=>aF a rfl h
theorem OJ(h:P (bk b r)):b=D1/\P (r):=gt b (λh=>aL h y) (λh=>⟨rfl,h⟩) h
theorem jI(h:P (rI d f)):∃a,d=.int a/\P (f a):=lW (M:=λd=>∃a,d=.int a/\P (f a)) y h λa h=>aF a rfl h
theorem jL(h:P (rL d f)):∃a,d=.list a/\P (f a):=ux (M:=λd=>∃a,d=.list a/\P (f a)) y h λa h=>aF a rfl h
theorem jT(h:P (rT d f)):∃a,d=.u a/\P (f a):=Bo (M:=λd=>∃a,d=.u a/\P (f a)) y h λa h=>aF a rfl h
theorem jS(h:P (rS d f)):∃a,d=.str a/\P (f a):=A1 (M:=λd=>∃a,d=.str a/\P (f a)) y h λa h=>aF a rfl h
theorem jN(h:P (rN d r)):d=.none/\P (r):=EW (M:=λd=>d=.none/\P (r)) y h λh=>⟨rfl,h⟩
theorem LL(h:P (jZ d f)):∃a,d=.ref a/\P (f a):=DR (M:=λd=>∃a,d=.ref a/\P (f a)) y h λa h=>aF a rfl h
theorem J2(h:P (ni d f)):∃a b c,d=Bc (.inst a b c)/\P (f a b c):=gC (M:=λd=>∃a b c,d=Bc (.inst a b c)/\P (f a b c)) y h λc h=>Uy (M:=λi=>∃a b c,Bc i=Bc (.inst a b c)/\P (f a b c)) y h λa b c h=>wm a b c rfl h
theorem Kp(h:P (jV d f)):∃a b,d=Bc (.dict a b)/\P (f a b):=gC (M:=λd=>∃a b,d=Bc (.dict a b)/\P (f a b)) y h λc h=>My (M:=λi=>∃a b,Bc i=Bc (.dict a b)/\P (f a b)) y h λa b h=>dm a b rfl h
theorem Ih(h:P (gm b f)):∃a,b=Bc (.o a)/\P (f a):=gC (M:=λb=>∃a,b=Bc (.o a)/\P (f a)) y h λc h=>G6 (M:=λd=>∃a,Bc d=Bc (.o a)/\P (f a)) y h λa h=>aF a rfl h
theorem ac3(h:P (wR b f)):∃a,b=Bc (.bS a)/\P (f a):=gC (M:=λb=>∃a,b=Bc (.bS a)/\P (f a)) y h λc h=>Wt (M:=λd=>∃a,Bc d=Bc (.bS a)/\P (f a)) y h λa h=>aF a rfl h
theorem ZX(h:P (DB b f)):∃a,b=Bc (.exc a)/\P (f a):=gC (M:=λb=>∃a,b=Bc (.exc a)/\P (f a)) y h λc h=>Y5 (M:=λd=>∃a,Bc d=Bc (.exc a)/\P (f a)) y h λa h=>aF a rfl h
theorem aaY(h:P (FW b f)):∃a,b=Bc (.sh (.int a))/\P (f a):=gC (M:=λb=>∃a,b=Bc (.sh (.int a))/\P (f a)) y h λc h=>tY (M:=λi=>∃a,Bc i=Bc (.sh (.int a))/\P (f a)) y h λd h=>lW (M:=λd=>∃a,Bc (Slot.sh d)=Bc (.sh (.int a))/\P (f a)) y h λa h=>aF a rfl h
end
section
variable{p:bp}{t:St}
theorem kO{f:b->R}(h:rO o f=.ok p t):∃a,o=Bc a/\f a=.ok p t:=jO (P:=(.=.ok p t)) fE h
theorem ki(h:bk b r=.ok p t):b=D1/\r=.ok p t:=OJ (P:=(.=.ok p t)) fE h
theorem kI(h:rI d f=.ok p t):∃a,d=.int a/\f a=.ok p t:=jI (P:=(.=.ok p t)) fE h
theorem kL(h:rL d f=.ok p t):∃a,d=.list a/\f a=.ok p t:=jL (P:=(.=.ok p t)) fE h
theorem kT(h:rT d f=.ok p t):∃a,d=.u a/\f a=.ok p t:=jT (P:=(.=.ok p t)) fE h
theorem kS(h:rS d f=.ok p t):∃a,d=.str a/\f a=.ok p t:=jS (P:=(.=.ok p t)) fE h
theorem kN(h:rN d r=.ok p t):d=.none/\r=.ok p t:=jN (P:=(.=.ok p t)) fE h
theorem ym(h:jZ d f=.ok p t):∃a,d=.ref a/\f a=.ok p t:=LL (P:=(.=.ok p t)) fE h
theorem HQ(h:ni o f=.ok p t):∃a b c,o=Bc (.inst a b c)/\f a b c=.ok p t:=J2 (P:=(.=.ok p t)) fE h
theorem C4(h:jV o f=.ok p t):∃a b,o=Bc (.dict a b)/\f a b=.ok p t:=Kp (P:=(.=.ok p t)) fE h
theorem yq(h:gm o f=.ok p t):∃a,o=Bc (.o a)/\f a=.ok p t:=Ih (P:=(.=.ok p t)) fE h
theorem RR(h:DB o f=.ok p t):∃a,o=Bc (.exc a)/\f a=.ok p t:=ZX (P:=(.=.ok p t)) fE h
theorem Po(h:oD o t=.ok p u):∃d,o=Bc d/\p=.o (.sh d)/\u=t:=aj (kO h) λd a h=>aF d a (qh h)
theorem gR(h:vD d t=.ok (.o sl) u):sl=.sh d/\u=t:=by cases h;exact⟨rfl,rfl⟩
theorem AR(h:oD o t=.ok (.o sl) u):∃d,o=Bc d/\sl=.sh d/\u=t:=aj (kO h) λd a h=>aF d a (gR h)
theorem adg(h:oS o t=.ok p u):∃d,o=Bc d/\p=.o d/\u=t:=aj (kO h) λd a h=>aF d a (by cases h;exact⟨rfl,rfl⟩)
theorem Nn(h:oS o t=.ok (.o sl) u):o=Bc sl/\u=t:=cJ (adg h) λd a b r=>⟨aa a (aa (bp.o.inj b) rfl),r⟩
end
theorem BP{r:RC}(h:r.to l=.ok (.o sl) u):∃c,r=.ok sl c/\u=⟨l,c⟩:=by cases r with|ok s c=>obtain⟨a,b⟩:=R.ok.inj h;exact aF c (aa (bp.o.inj a) rfl) b.symm|exc d c=>exact AJ h|fail=>exact aL h fE
theorem bx.U2(r:bx C A n b):A.depth<Nk:=Lx (gY (zI _ _) (zI _ _)) r.dp
theorem bx.kH(r:bx C A n b):A.units+100<Bz:=Lx (s5 (zI _ _) _) r.un
end
end
section
section
variable{P:ei}{cs:ai CA}{t:Ro}{h:ff}
theorem ab6(b:dM P cs (Sb t h) h l f):(∀a∈f,a∈I)->aC P cs (Sb (t.less I) h) (l.map .list) (f.map .ref):=by induction b with|nil=>exactλY=>.nil|cons c r d i=>exactλk=>.cons (.list ⟨c,Ro.pL (k _ (.head _))⟩ (r.mono (.refl _) i8)) (i λa m=>k a (.tail _ m))
theorem Dh{i:ai a7}(b:dh P j cs (Sb t h) h s i k):fz s=Bc d->∃v,k=Bc v/\Rd P cs (Sb (t.less i) h) d v:=by induction b with|ae=>exact bh|sh r=>exactλc=>aF _ rfl (eF c▸r.mono (.refl _) i8)|o f r=>exactλc=>aF _ rfl (eF c▸.list ⟨f,Ro.pL (.head _)⟩ (r.mono (.refl _) i8))|exc=>exact bh|bS f r=>exactλc=>aF _ rfl (eF c▸.list ⟨f,Ro.pL (.head _)⟩ (ab6 r λa m=>.tail _ m))
end
section
variable{C:Cx}{u:gn}{t:Ro}{y:ai Pl}{cs:ai CA}{F:St}{h:ff}
theorem Inv.freeze(I:Inv C u t y cs F h)(O:F.l[i]?=Bc sl)(f:fz sl=Bc d):∃(p:Pl)(v:Yj)(P:Ro),y[i]?=Bc p/\dB u h p (Bc v)/\Rd C.w.params cs (Sb P h) d v/\Inv C u P y cs ⟨F.l.set i (.sh d),F.cells⟩ h/\Go C t P cs cs h h:=by
 have M:i<y.length:=aD I.dH ((List.getElem?_eq_some_iff.mp O).1)
 refine fN (I.vars i y[i] sl (by simp[M]) O) λH W v k r nd=>?_
 refine aj (Dh k f) λw kg X=>?_
 clear O
 subst kg
 have J:∀a l,t a=Bc l->l≠.o i->a∉H:=λa l f A m=>by rw[r a m]at f;cases f;exact A rfl
 have Z:∀a,t.less H a≠VG->t.less H a=t a:=λa f=>Ro.gL λm=>f (Ro.pL m)
 have B:Go C t (t.less H) cs cs h h:=XC (λa m l=>J a _ l wg m) λa m l=>J a _ l wB m
 refine⟨y[i],w,t.less H,by simp[M],v,X,⟨λa f=>I.lt a (by rw[<-Z a f];exact f),λa G f=>i8 a G (I.base a G f),I.tab.sb i8,(B.kp _ I.cM).1,by simp[I.dH],I.d9,λj p s K N=>?_,λj c p hc K=>?_,λa j f=>I.gG a j (aD (Z a (aa f (yf _))) f),I.names,λk m=>B.sc _ (I.locs k m),λk c b m=>?_,I.je,I.fW,λf m=>(I.eS f m).step I.tab (λa l Y=>B.kp a l) λa l=>⟨.inr (B.sc a l),id⟩⟩,B⟩
 .by_cases Q:j=i
  .clear r J
   subst Q
   haveI hl:j<F.l.length:=aa I.dH M
   rw[UQ hl]at N
   refine aD (eF N) ?_
   haveI :p=y[j]:=by simpa[M]using K.symm
   clear K;refine aa this (hY ([]) (Bc w) v (.sh X) nM .nil)
  .rw[Uz (ng Q)]at N;refine fN (I.vars j p s K N) λya W w' U L V=>hY ya W w' (U.keep (.refl _) i8 λY Y Y f=>f) (λa m=>aa (Ro.gL (J a _ (L a m) (by simpa using Q))) (L a m)) V
 .refine bD (I.cells j c p hc K) λU L V=>cV (U.keep (.refl _) i8 λY Y Y f=>f) (λa m=>aa (Ro.gL (J a _ (L a m) BG)) (L a m)) V
 .rcases I.eT k c b m with l|l
  .exact .inl ⟨l.1,B.sc _ l.2⟩
  .exact .inr ⟨l.1,(B.kp _ l.2).1⟩
theorem Inv.tok(I:Inv C u t y cs F h):FX C h:=λa b c=>(I.base a b c).1
end
variable(C:Cx)(N:Env)(n:ak)(B:T->St->R)
def XG(C:Cx)(n:ak)(c:TC)(p:dt)(F:St)(a:Slot)(b:St):Prop:=∀A u t y cs(s:a8)Q X,bx C A (n+c.lv) c.hn->bq C u c y->Inv C u t y cs F s.heap->hM C u t y cs s a b Q->da (eg C.prog C.w) A (jM p u) Q X s
def dy(a:E):Prop:=∀(c:TC)(f:ak)(p:dt),aN c (f+1) a p=D1->∀F s b,jD N B a F=.ok (.o s) b->XG C n c p F s b
section
variable{C N n B}
theorem wY(j:env.scope.kind=.function)(k:(p.name==("__classdict__":Str))=Un)(f:dB env s.heap p (Bc v))(h:Q v s):da M A (loadName env p.name) Q X s:=by cases p with|l n=>obtain⟨a,m,i,r⟩:=f;exact wpAny_loadName_local j a i r h|cell n c d=>
refine bD f λa b i=>?_
rcases a with a|a
.exact wpAny_loadName_cell j a b i h
.exact wpAny_loadName_free j a b i h k
theorem zc(k:bq C env c y)(a:c.bN i x=D1)(h:y[i]?=Bc p):p.name=x/\(x==("__debug__":Str))=Un/\(x==("__classdict__":Str))=Un:=by unfold TC.bN at a;haveI d:=beq_iff_eq.mp a;rw[<-k.names,y8,h]at d;haveI b:p.name=x:=eF d;refine⟨b,k.dN x ?_⟩;exact aD k.names (aD b (C! (mD h)))
theorem aay(i:ak):dy C N n B (.l i):=by intro c f V h W Y Z j;refine dD h λa l m=>?_;clear h;rename _=D1=>h;refine aj (kO j) λd r j=>aj (dA r) λs0 t u=>aU (gR j) λw F=>?_;subst w F;intro A G ρ af cs s Q X rm k I H;refine vt (I.freeze t u) λp v J K L M O b=>bD (zc k h K) λP U y=>an ?_ U;rw[<-P]at y⊢;exact wY k.kind y L (H J cs s.heap s.toks v [] O b (.refl _ _ _) (.sh M) nM .nil)
end
end
section
variable{C:Cx}{N:Env}{n:ak}{F:T->St->R}
variable{p:gn}{w:Ro}{B:ai Pl}{cs:ai CA}{G:St}{s:a8}{Q:Yj->a8->Prop}
theorem hM.val(a:hM C p w B cs s (.sh d) G Q)(I:Inv C p w B cs G s.heap)(r:Rd C.w.params cs (Sb w s.heap) d v):Q v {s with toks:=tk}:=a w cs s.heap tk v [] I (.refl _ _ _ _) (.refl _ _ _) (.sh r) nM .nil
theorem hM.grown(f:hM C p w B cs s (.sh d) G Q)(I:Inv C p w B cs G s.heap)(k:∀a b,s.heap.get? a=Bc b->h.get? a=Bc b)(c:s.heap.objs.size<=h.objs.size)(r:Rd C.w.params cs (Sb w h) d v):Q v {s with heap:=h,toks:=tk}:=f w cs h tk v [] (I.grow k c) (iz w cs k c) (iT I k c) (.sh r) nM .nil
theorem uX(I:Inv C p w B cs G s.heap)(h:s.heap.objs.size<=a):w a=VG:=by cases b:w a with|none=>rfl|some r=>exact aL (I.lt a (aa b (yf _))) (Nat.not_lt.mpr h)
theorem hM.fresh(j:hM C p w B cs s (.o l) G Q)(I:Inv C p w B cs G s.heap)(k:∀a b,s.heap.get? a=Bc b->h.get? a=Bc b)(d:s.heap.objs.size<=h.objs.size)(f:s.heap.objs.size<=a)(i:h.get? a=Bc (bc v m))(r:aC C.w.params cs (Sb w s.heap) l v):Q (.ref a) {s with heap:=h,toks:=tk}:=by have c:=oP (C:=C) (cs:=cs) (as:=[a]) (r:=.f) k d (by simpa using f) I.lt;exact j (w.plus [a] .f) cs h tk (.ref a) [a] (I.qV k d (by simpa using⟨f,ib i⟩)) c (iT I k d) (.o i (r.mono (.refl _) c.st)) (by simpa using⟨Ro.fo (.head _),f⟩) iU
theorem cn(h:ff)(b:Obj):∀a d,h.get? a=Bc d->(h.push b).get? a=Bc d:=λY Y c=>sy b c
theorem dY(h:ff)(a:Obj):h.objs.size<=(h.push a).objs.size:=by rw[l7];exact tm _
theorem x_c(d:D):dy C N n F (.c d):=by intro c f t a G v y m;refine pB a λk H r h=>?_;clear a;obtain⟨rfl,rfl⟩:=gR m;clear m;intro A p w B cs s Q X J K I l;cases d with|none=>refine aa (aaf h) ?_;have :=l.val (tk:=s.toks) I .none;exactλY Y Y=>this|bool b=>exact VP h λj a=>by have :=l.val (tk:=s.toks) I (.bool b);refine aa (beq_iff_eq.mp a) (λY Y Y=>this)|int i=>exact zW h λj a=>aa (hQ a) (Lr (l.val I (.int _ _)))|str u=>exact Xa h λj a=>Uk (l.val I (beq_iff_eq.mp a▸.str _ _))|bytes u=>exact aek h λj a=>by have :=beq_iff_eq.mp a;subst this;have :=l.val (tk:=s.toks+1) (v:=.bytes j.toArray s.toks) I (.bytes j.toArray _);exactλY Y Y=>this|_=>exact no h
theorem qX(r:∀k,(C.nm k==("__debug__":Str))=Un)(h:bq C p c B)(I:Inv C p w B cs G s.heap)(j:c.qO k x=D1)(t:jj C (C.nm k) v)(d:Q v s):da M A (jM (.Name x u) p) Q X s:=by
 unfold TC.qO at j
 obtain⟨y,H⟩:=Bool.and_eq_true_iff.mp j
 have J:x=C.nm k:=aD h.nm (beq_iff_eq.mp y)
 subst J
 have K:=h.kd _ _ (beq_iff_eq.mp H) (by simp)
 refine cps λP l=>?_
 obtain⟨V,W,m,L,i⟩:=t
 refine l ?_;clear l P
 have b:∀a f,C.h₀.get? a=Bc f->s.heap.get? a=Bc f:=I.tok
 refine aq0 h.kind K ?_ (r k)
 rcases i with i|⟨O,U⟩
 .exact aqe (aa h.glob (m.keeps b)) i d
 .exact aqb (aa h.glob (m.keeps b)) O (aa h.blt (L.keeps b)) U d
theorem UE(l:kY C N n)(k:ak):dy C N n F (.aO k):=by intro c f M j G O P m;refine dD j λb r t=>?_;clear j;rename _=D1=>j;obtain⟨d,u,y,rfl⟩:=Po m;intro A p w B cs s Q X U H I J;cases y;obtain⟨v,K,L⟩:=l.glob k d u;refine qX l.dN H I j K (J.val I (L.mono (λY Y h=>by simp at h) λa i h=>I.base a i h))
theorem WC(m:bG C n F)(a:E):dy C N n F (.neg a):=by intro c f W j G Y Z r;refine wj j λu v y h=>?_;clear j;obtain⟨H,j⟩:=iA h;clear h;obtain rfl:u=.USub:=hQ H;obtain⟨d,k,J,l⟩:=dW r;intro A p w B cs s Q X K L I M;refine Fa (m c f a v j G d k J A p w B cs s _ _ K L I ?_);intro ah O h' tk v' P b U V;obtain⟨i,rfl,l⟩:=kI l;obtain⟨rfl,rfl⟩:=gR l;obtain⟨t,rfl⟩:=V.ofInt;exact F! ((M.on b U).val P (.int _ _))
theorem Rx(k:bG C n F)(a:E):dy C N n F (.nt a):=by intro c f V i G W Y l;refine wj i λm v r h=>?_;clear i;obtain⟨t,i⟩:=iA h;clear h;obtain rfl:m=.Not:=hQ t;obtain⟨d,j,u,y⟩:=qg l;intro A p w B cs s Q X H J I K;refine Fa (k c f a v i G _ j u A p w B cs s _ _ H J I ?_);intro Z L h' M v' O b P U;cases U.ofBool;obtain⟨rfl,rfl⟩:=gR y;exact not_of (C8 ((K.on (M:=M) b P).val O (.bool _)))
theorem abA(L:bG C n F)(Y:gF C n F)(t a b:E):dy C N n F (.ite t a b):=by intro c f py m G sl ag Z;refine abW m λh y i pos h_1=>?_;clear m;rename _=D1=>m;simp only[ji]at m;refine cps λP k=>?_;obtain⟨⟨t1,t2⟩,t3⟩:=m;obtain⟨d,l,h1,M⟩:=qg Z;refine k ?_;clear k P;intro A p w B cs s Q X u v I O;show da _ A (do if<-GZ h p (jM h p)then jM y p else jM i p) Q X s;refine ct (Y c f t h t1 G d l h1 A p w B cs s _ _ u v I ?_);intro U r h' tk V j W;cases d with|true=>refine cps λP k=>?_;obtain⟨d,H,J,K⟩:=dW M;refine k ?_;clear k P;obtain⟨rfl,rfl⟩:=gR K;exact L c f a y t2 l d _ J A p U B r _ _ _ u v V (O.on j W).sh|false=>refine cps λP k=>?_;obtain⟨d,H,J,K⟩:=dW M;refine k ?_;clear k P;obtain⟨rfl,rfl⟩:=gR K;exact L c f b i t3 l d _ J A p U B r _ _ _ u v V (O.on j W).sh
end
section
variable{P:ei}{cs:ai CA}{S:a7->Obj->Prop}{l:ai D}{G:ai Yj}
theorem aC.len(r:aC P cs S l G):G.length=l.length:=r.ind rfl λY Y Y Y Y Y i=>gO Aj i
theorem aC.append(r:aC P cs S l G)(b:aC P cs S c d):aC P cs S (l++c) (G++d):=r.ind b λY Y Y Y a Y i=>.cons a i
theorem aC.get{i:ak}(r:aC P cs S l G)(b:l[i]?=Bc d):∃v,G[i]?=Bc v/\Rd P cs S d v:=r.ind (λY h=>bh h) (λY Y Y Y a Y c i=>match i with|0=>λb=>aF _ rfl (eF b▸a)|i+1=>c i) i b
theorem aC.drop(c:ak)(r:aC P cs S l G):aC P cs S (l.drop c) (G.drop c):=r.ind (λc=>aa Z' (aa Z' .nil)) (λY Y Y Y a b i c=>M? c (.cons a b) i) c
theorem aC.take(c:ak)(r:aC P cs S l G):aC P cs S (l.take c) (G.take c):=r.ind (λc=>aa Z? (aa Z? .nil)) (λY Y Y Y a b i c=>M? c .nil λc=>.cons a (i c)) c
theorem aC.reverse(r:aC P cs S l G):aC P cs S l.reverse G.reverse:=r.ind .nil λY Y Y Y a Y i=>aa KE (aa KE (i.append (.cons a .nil)))
theorem aC.rep(r:aC P cs S l G)(a:ak):aC P cs S (tI a l).flatten (tI a G).flatten:=by induction a with|zero=>exact .nil|succ a i=>exact r.append i
end
section
variable{V:Type}{f:D->aw V}{l:ai D}{r:ai V}
theorem AL{M:ai D->ai V->Prop}(c:M [] [])(i:∀d a l r,f d=Bc a->nU f l=Bc r->M l r->M (d::l) (a::r)):∀{l r},nU f l=Bc r->M l r:=by intro l;induction l with|nil=>exactλh=>eF h▸c|cons d l j=>exactλh=>aj (dA h) λa k h=>aj (nI h) λr b h=>h▸i d a l r k b (j b)
theorem EI(h:nU f l=Bc r):r.length=l.length:=AL (f:=f) (M:=λl r=>r.length=l.length) rfl (λY Y Y Y Y Y i=>gO Aj i) h
theorem T4(h:nU f l=Bc r){i:ak}(b:l[i]?=Bc d):∃a,r[i]?=Bc a/\f d=Bc a:=AL (M:=λl r=>∀i,l[i]?=Bc d->∃a,r[i]?=Bc a/\f d=Bc a) (λY h=>bh h) (λd a l r j Y k i=>match i with|0=>λb=>aF a rfl (eF b▸j)|i+1=>k i) h i b
@[elab_as_elim]theorem vF{P:ei}{cs:ai CA}{S:a7->Obj->Prop}{M:ai Yj->ai V->Prop}{G:ai Yj}(c:aC P cs S l G)(h:nU f l=Bc r)(m:M [] [])(p:∀d v a G r,Rd P cs S d v->f d=Bc a->M G r->M (v::G) (a::r)):M G r:=AL (M:=λl r=>∀G,aC P cs S l G->M G r) (λY c=>c.OY m) (λd a l r j Y k Y c=>c.nY λv G s t=>p d v a G r s j (k G t)) h G c
theorem BJ(h:iG d VG Bc=Bc i):d=.int i:=lW (P:=(.=Bc i)) (M:=λd=>d=.int i) (a:=VG) nofun h λY a=>gO D.int (eF a)
theorem QW(h:sU d VG Bc=Bc i):d=.bool i:=Kb (P:=(.=Bc i)) (M:=λd=>d=.bool i) (a:=VG) nofun h λY a=>gO D.bool (eF a)
end
theorem jX(h:n<=100000):n<=Ab:=aa l3 (gY h (by decide))
theorem NA{G:ai Yj}(a:G.length=n)(h:n<=100000):G.toArray.size<=Ab:=aa lT (aa a (jX h))
theorem fS{l:ai V}(h:aM l=D1):l.length<=100000:=mc h
theorem LU(h:wy a=D1):-(2^63)<a/\a<2^63:=by have h:a.natAbs<2^63:=hQ h;exact⟨Int.neg_lt_of_neg_lt (I! (Int.natAbs_neg a▸U!) (Int.ofNat_lt.mpr h)),I! U! (Int.ofNat_lt.mpr h)⟩
theorem NI(G:ai Yj):∀(a:ak)(b:ai Yj),M' (λc d=>c++d) b.toArray (tI a G.toArray)=(b++(tI a G).flatten).toArray
|0,b=>by simp|a+1,b=>by
 refine aa ari (aa φ ?_)
 haveI :b.toArray++G.toArray=(b++G).toArray:=by simp
 refine aa this ?_;rw[NI G a];simp[ari]
section
variable{C:Cx}{N:Env}{n:ak}{U:T->St->R}
variable{B:gn}{J:Ro}{K:ai Pl}{cs:ai CA}{O:St}{s:a8}{Q:Yj->a8->Prop}
theorem YE{a:Yj->a8->Prop}(c:s.heap.get? l=Bc (bc G k))(t:0<=x)(i:x<1000)(f:G.length<=1000)(h:Q (.ref s.heap.objs.size) {s with heap:=s.heap.push (bc (tI x.toNat G).flatten 0)}):da (eg prog w) A (wT .Mult (.ref l) (.int x u)) Q a s:=by
 haveI d:G.toArray.size*x.toNat<=2^24:=by haveI :G.toArray.size*x.toNat<=1000*1000:=γ f (Int.toNat_le.mpr (co i));exact gY this (by decide)
 refine wpAny_binaryOp_repeat_ref rfl ⟨_,c,rfl⟩ (λj=>typeIs_int j x u) noFill_list_mul F.fills_int_mul F.slot_int_rmul repeat_list F.slot_int_index.lookup (Zy F.slot_int_rmul (typeIs_int s x u) F.entry_int_rmul (F.args_int_rmul_2 _ _) (int___rmul___int_list x u l G.toArray k) ⟨c,rfl,⟨_,c,rfl⟩,Zy F.slot_list_mul ⟨_,c,rfl⟩ F.entry_list_mul (F.args_list_mul_2 _ _) (AutoListH.list___mul___list_int_3 l G.toArray k x u (by simp[av8];lia) (Nat.not_lt.mpr (gY d (by decide))) (by simp[G!,Ab]at d⊢;exact q0)) ⟨c,?_⟩⟩)
 haveI b:M' (λm p=>m++p) #[] (tI (if G.toArray.isEmpty=D1 then 0 else x.toNat) G.toArray)=(tI x.toNat G).flatten.toArray:=by clear f d c h;cases G with|nil=>simp|cons v r=>simpa using NI (v::r) x.toNat []
 exact aa b h
theorem PX{a:V}(h:ER d f g=Bc a):(∃i,d=.int i/\f i=Bc a)\/∃i,d=.list i/\g i=Bc a:=by cases d<;>first|exact bh h|exact .inl ⟨_,rfl,h⟩|exact .inr (aF _ rfl h)
section
variable{H:Me}{L:Slot}{a b:Yj}{A:ip}{X:Yj->a8->Prop}{i j:a0}
abbrev zv(C:Cx)(B:gn)(J:Ro)(K:ai Pl)(cs:ai CA)(O:St)(s:a8)(H:Me)(v w:D):Prop:=∀{L:Slot}{a b:Yj}{A:ip}{Q X:Yj->a8->Prop},dE H v w=Bc L->Inv C B J K cs O s.heap->Rd C.w.params cs (Sb J s.heap) v a->Rd C.w.params cs (Sb J s.heap) w b->hM C B J K cs s L O Q->da (eg C.prog C.w) A (wT H a b) Q X s
theorem AE{d:Yj->a8->Prop}(f:dE H (.int i) (.int j)=Bc (.sh (.int c)))(k:∀v p,Q (.int c v) {s with toks:=p}):da (eg prog w) A (wT H (.int i t) (.int j u)) Q d s:=by cases H with|Add=>cases eF f;exact av4 (k _ _)|Sub=>cases eF f;exact F? (k _ _)|Mult=>obtain⟨h,f⟩:=bZ f;cases f;have r:=LU h;exact auw (k _ _) (.of_right (intBits_le_64 acC acH))|Mod=>obtain⟨h,f⟩:=bZ f;cases f;have :=hQ h;exact auy SC (k _ _)|FloorDiv=>obtain⟨h,f⟩:=bZ f;cases f;obtain⟨l,m⟩:=iA h;have l:=hQ l;have m:=hQ m;exact av3 SC (k _ _) (.inl (PyProof.noPylong_small (Int.ofNat_lt.mp (I! (Int.le_of_eq (Int.natAbs_of_nonneg (co l))) m))))|_=>exact bh f
theorem zA{d:Yj->a8->Prop}(f:dE H (.int i) (.int j)=Bc (.sh (.int c)))(h:∀v k,Q (.int c v) {s with toks:=k}):da (eg prog w) A (jM (.Constant (.int j) n p) B) (λb l=>da (eg prog w) A (wT H (.int i t) b) Q d l) d s:=Lr (AE f λv k=>h v k)
theorem Zj(d:dE H (.int i) (.int j)=Bc L):∃c,L=.sh (.int c):=by cases H with|Add=>exact⟨_,(eF d).symm⟩|Sub=>exact⟨_,(eF d).symm⟩|Mult=>exact⟨_,(bZ d).2.symm⟩|Mod=>exact⟨_,(bZ d).2.symm⟩|FloorDiv=>exact⟨_,(bZ d).2.symm⟩|_=>exact bh d
theorem xM(i j:a0):zv C B J K cs O s H (.int i) (.int j):=λ{L a b A Q X}d I r f h=>by obtain⟨t,rfl⟩:=r.ofInt;obtain⟨u,rfl⟩:=f.ofInt;obtain⟨c,rfl⟩:=Zj d;exact AE d λv k=>h.val I (.int _ _)
theorem ZU(l k:ai D):zv C B J K cs O s .Add (.list l) (.list k):=λ{L a b A Q X}c I r f w=>by obtain⟨h,rfl⟩:=bZ c;obtain⟨p,t⟩:=iA h;obtain⟨d,v,m,rfl,F,r⟩:=r.ofList;obtain⟨y,u,n,rfl,G,f⟩:=f.ofList;have p:=fS p;haveI t:=fS t;haveI M:=r.len;haveI P:=f.len;refine PySem.P.add_list F.1 G.1 ?_ (by simp only[lT,l3];exact sH);refine w.fresh (m:=0) I (cn _ _) (dY _ _) (ir _) ?_ (r.append f);exact aa (show v.toArray++u.toArray=(v++u).toArray by simp) (kK _ rfl)
theorem aa7(l:ai D)(j:a0):zv C B J K cs O s .Mult (.list l) (.int j):=λ{L a b A Q X}c I r k p=>by obtain⟨h,rfl⟩:=bZ c;obtain⟨h,f⟩:=iA h;obtain⟨t,v⟩:=iA h;obtain⟨d,y,m,rfl,w,r⟩:=r.ofList;obtain⟨u,rfl⟩:=k.ofInt;haveI f:=mc f;haveI F:=r.len;refine YE w.1 (hQ t) (hQ v) AQ (p.fresh I (cn _ _) (dY _ _) (ir _) (kK _ rfl) (r.rep _))
theorem UG:zv C B J K cs O s H v w:=λ{L a b A Q X}c=>by
 have t:∀{f:a0->a0->aw Slot},(mI v λi=>mI w λj=>f i j)=Bc L->∃i j,v=.int i/\w=.int j:=λh=>by refine aj (iI h) λi d h=>aj (iI h) λj k h=>dm i j d k
 cases H with|Add=>
rcases PX c with⟨i,rfl,h⟩|⟨i,rfl,h⟩
.obtain⟨j,rfl,h⟩:=iI h;exact xM i j c
.obtain⟨j,rfl,h⟩:=iL h;exact ZU i j c|Mult=>
rcases PX c with⟨i,rfl,h⟩|⟨i,rfl,h⟩
.obtain⟨j,rfl,h⟩:=iI h;exact xM i j c
.obtain⟨j,rfl,h⟩:=iI h;exact aa7 i j c|Sub=>obtain⟨i,j,rfl,rfl⟩:=t c;exact xM i j c|FloorDiv=>obtain⟨i,j,rfl,rfl⟩:=t c;exact xM i j c|Mod=>obtain⟨i,j,rfl,rfl⟩:=t c;exact xM i j c|_=>exact bh c
end
theorem ij(k:bG C n U)(H:Me)(a b:E):dy C N n U (.b H a b):=by intro c f py i O sl ag t;refine Fl i λl d r u v=>?_;clear i;rename _=D1=>i;simp only[ji,bl]at i;obtain⟨⟨rfl,w⟩,y⟩:=i;refine aS (dW t) λF st1 G L=>aS (dW L) λM st2 P V=>?_;obtain⟨h,rfl⟩:=Nn V;intro A B J K cs s Q X m p I W;refine Hs (k c f a l w O F st1 G A B J K cs s _ _ m p I ?_);intro Y Z bo aQ v1 I1 g1 k1 r1;refine k c f b r y st1 M _ P A B Y K Z _ _ _ m p I1 ?_;intro aI ax eZ bF v2 I2 j k2 r2;exact UG h I2 (r1.mono j.cs j.st) r2 (W.on (g1.trans j) (k1.trans k2))
end
section
set_option genInjectivity false
set_option genSizeOf false
structure KD(C:Cx)(J K:Type)[e9 J][e9 K]where
f:D->aw J
g:J->D
fg:∀{d k},f d=Bc k->d=g k
e:J->K
inj:∀a b,e a=e b->a=b
knd:KeyKind C.prog C.w K
C3:∀{cs S v k},Rd C.w.params cs S (g k) v->knd.is (e k) v=D1
EM:∀{cs S v k},knd.is (e k) v=D1->Rd C.w.params cs S (g k) v
Fo:∀{k}n,pM C.w.params (g k) n↔n=knd.hash (e k)
section
variable{C:Cx}{J K:Type}[e9 J][e9 K](κ:KD C J K){cs:ai CA}{S:a7->Obj->Prop}{d d':D}{v:Yj}{k:J}
theorem KD.rd(h:κ.f d=Bc k)(r:Rd C.w.params cs S d v):κ.knd.is (κ.e k) v=D1:=κ.C3 (κ.fg h▸r)
theorem KD.di(h:κ.f d=Bc k)(r:κ.knd.is (κ.e k) v=D1):Rd C.w.params cs S d v:=κ.fg h▸κ.EM r
theorem KD.hash(h:κ.f d=Bc k)(a:a0):pM C.w.params d a↔a=κ.knd.hash (κ.e k):=κ.fg h▸κ.Fo a
theorem KD.same(h:κ.f d=Bc k)(a:κ.f d'=Bc k):d=d':=(κ.fg h).trans (κ.fg a).symm
end
def dS(C:Cx):KD C (ai ak) Str where f:=dJ;g:=.str;fg:=λ{d k}h=>A1 (P:=(.=Bc k)) (a:=VG) (M:=λd=>d=.str k) nofun h λi e=>gO D.str (eF e);e l:=⟨l.toArray⟩;inj a b h:=gO (λs:Str=>s.cps.toList) h;knd:=strKind C.prog C.w;C3:=λr=>aS r.ofStr λs t A B=>B▸A▸strKind_is _ _ _ _;EM:=λ{cs S v k}r=>(ar0 r).elim λt e=>e▸Rd.str (P:=C.w.params) (cs:=cs) (S:=S) ⟨k.toArray⟩ t;Fo:=λY=>WP
def Hb(C:Cx):KD C a0 a0 where f:=yK;g:=.int;fg:=λ{d k}h=>lW (P:=(.=Bc k)) (a:=VG) (M:=λd=>d=.int k) nofun h λi e=>gO D.int (eF e);e l:=l;inj a b h:=h;knd:=Gb C.prog C.w;C3:=λr=>r.ofInt.elim λt e=>e▸intKind_is _ _ _ _;EM:=λ{cs S v k}r=>(Yj.isInt_shape r).elim λt e=>e▸Rd.int k t;Fo:=λY=>WP
section
variable{C:Cx}{J K:Type}[e9 J][e9 K](κ:KD C J K){cs:ai CA}{S:a7->Obj->Prop}
inductive KV(cs:ai CA)(S:a7->Obj->Prop):ai D->ai D->ai (K×Yj)->Prop|nil:KV cs S [] [] []|cons{d w:D}{k:J}{v:Yj}{ks ws:ai D}{aP:ai (K×Yj)}:κ.f d=Bc k->Rd C.w.params cs S w v->KV cs S ks ws aP->KV cs S (d::ks) (w::ws) ((κ.e k,v)::aP)
variable{κ}
theorem some_of{c:Type}{b:aw c}(h:b.isSome=D1):∃a,b=Bc a:=by cases b<;>first|exact no h|exact⟨_,rfl⟩
theorem cL.kv:∀{t:ai D}{i:ai kJ},cL C.w.params cs S u t i->fF κ.f u=D1->∃l,KV κ cs S u t l/\Pairs κ.knd i l/\KeysOf κ.knd i.toArray:=by induction u with|nil=>exactλr Y=>aa r.jf.1 (aa r.jf.2 (dX ([]) .nil .nil (λd m=>aL (List.mem_toArray.mp m) lR)))|cons k u B=>intro t i r;refine r.nY λv t d i r F G s A=>eE (some_of (iA A).1) λj w=>cJ (B s (iA A).2) λl H I L=>dX ((κ.e j,d.val)::l) (.cons w G H) (.cons (κ.rd w r) rfl I) (λN m=>(hZ.mp (List.mem_toArray.mp m)).elim (λf=>f▸(aF _ (κ.rd w r) ((κ.hash w _).mp F))) λm=>L N (List.mem_toArray.mpr m))
@[elab_as_elim]theorem Ze{M:ai kJ->Prop}{y:K×Yj}{l:ai (K×Yj)}{i:ai kJ}(p:Pairs κ.knd i (y::l))(h:∀d i,κ.knd.is y.1 d.key=D1->d.val=y.2->Pairs κ.knd i l->M (d::i)):M i:=by cases p with|cons a b c=>exact h _ _ a b c
theorem KV.back(k:KV κ cs S f v i):∀{b:ai kJ},Pairs κ.knd b i->KeysOf κ.knd b.toArray->cL C.w.params cs S f v b:=by induction k with|nil=>intro b p _;cases p;exact .nil|cons h B k j=>intro b p;refine Ze p λa b c l p d=>aj (d _ (List.mem_toArray.mpr (.head _))) λu r s=>.cons (κ.di h c) ((κ.hash h _).mpr (s.trans (gO κ.knd.hash (κ.knd.inj _ _ _ c r).symm))) (l▸B) (j p λt m=>d t (List.mem_toArray.mpr (.tail _ (List.mem_toArray.mp m))))
theorem O1{a:ai (K×Yj)}:Mc ((b,v)::a) k=if b=k then Bc v else Mc a k:=by unfold Mc;refine aa (v?) ?_;by_cases h:b=k<;>simp[h]
theorem KV.look(j:KV κ cs S m p l):∀{k:J}{a:aw D},gT κ.f k m p=Bc a->match a with|some d=>∃v,Mc l (κ.e k)=Bc v/\Rd C.w.params cs S d v|none=>Mc l (κ.e k)=VG:=by induction j with|nil=>exactλh=>eF h▸rfl|cons s r j t=>
intro k a h
refine aj (dA h) λb u h=>?_
have c:=eF (u.symm.trans s)
refine aa O1 ?_
by_cases f:b=k
.rw[eI f]at h;exact aa (eI (gO κ.e (c.symm.trans f))) (aD ((bZ h).2) (aF _ rfl r))
.rw[ej f]at h;exact aa (ej λi=>f (c.trans (κ.inj _ _ i))) (t h)
theorem GB:∀{f:ai D}{c:aw D},gT κ.f k i f=Bc c->fF κ.f i=D1:=by induction i with|nil=>intro _ _ _;rfl|cons a r j=>intro f c h;cases f with|nil=>exact bh h|cons v s=>
refine aj (dA h) λb l h=>?_
show((κ.f a).isSome&&fF κ.f r)=D1
refine aa l ?_
by_cases d:b=k
.rw[eI d]at h;exact(bZ h).1
.rw[ej d]at h;exact j h
theorem Nx:∀{i:ai D}{c:ai D×ai D},putK κ.f k x w j i=Bc c->fF κ.f j=D1:=by induction j with|nil=>intro _ _ _;rfl|cons a r l=>intro i c h;cases i with|nil=>exact bh h|cons v s=>
refine aj (dA h) λb m h=>?_
show((κ.f a).isSome&&fF κ.f r)=D1
refine aa m ?_
by_cases d:b=k
.rw[eI d]at h;exact(bZ h).1
.rw[ej d]at h;exact(nI h).elim λf h=>l h.1
theorem KV.len(k:KV κ cs S a v b):b.length=a.length:=by induction k with|nil=>rfl|cons _ _ _ i=>exact gO Aj i
theorem KV.mem(b:KV κ cs S c v f)(h:κ.f d=Bc k):κ.e k∈f.map (·.1)↔d∈c:=by induction b with|nil=>exact⟨(λm=>nomatch m),(λm=>nomatch m)⟩|cons a _ r i=>
refine aa l6 ?_
rw[hZ,hZ,i]
constructor
.rintro(q|q)
 .rw[κ.inj _ _ q]at h;exact .inl (κ.same h a)
 .exact .inr q
.rintro(rfl|q)
 .exact .inl (gO κ.e (eF (h.symm.trans a)))
 .exact .inr q
theorem KV.nodup(k:KV κ cs S a v b):a.Nodup->(b.map (·.1)).Nodup:=by induction k with|nil=>exactλY=>.nil|cons h _ r i=>intro c;obtain⟨d,f⟩:=List.nodup_cons.mp c;exact List.nodup_cons.mpr ⟨λm=>d ((r.mem h).mp m),i f⟩
theorem Wc{a:ai (K×Yj)}(c:¬b=k):P8 ((b,u)::a) k v=(b,u)::P8 a k v:=by unfold P8;simp only[qE,c,J?,Ij,l6,hE,Lq];split<;>rfl
theorem WB{a:ai (K×Yj)}(b:k∉a.map (·.1)):P8 ((k,u)::a) k v=(k,v)::a:=by unfold P8;simp only[qE,decide_true,SI,oO,l6];exact aa (map_store_of_not_mem a _ v b) rfl
theorem KV.put(s:κ.f x=Bc k)(t:Rd C.w.params cs S w v)(i:KV κ cs S r A B):∀{p:ai D×ai D},r.Nodup->putK κ.f k x w r A=Bc p->KV κ cs S p.1 p.2 (P8 B (κ.e k) v)/\p.1.Nodup/\(∀d,d∈p.1->d∈r\/d=x):=by induction i with|nil=>exactλY h=>eF h▸⟨.cons s t .nil,List.nodup_cons.mpr ⟨lR,.nil⟩,λd m=>.inr (hX.mp m)⟩|cons j F i G=>
intro p l h
refine aj (dA h) λb u h=>?_
have a:=eF (j.symm.trans u)
by_cases c:b=k
.rw[eI c]at h;exact aD ((bZ h).2) (aD (a.trans c) (aa (WB λm=>(List.nodup_cons.mp l).1 ((i.mem j).mp m)) ⟨.cons j t i,l,λd m=>.inl m⟩))
.rw[ej c]at h;refine aj (nI h) λM H h=>bD (G (List.nodup_cons.mp l).2 H) λI L y=>aD h (aa (Wc λf=>c (a.symm.trans (κ.inj _ _ f))) ⟨.cons j F I,List.nodup_cons.mpr ⟨λm=>(y _ m).elim (List.nodup_cons.mp l).1 λf=>c (eF (u.symm.trans (f▸s))),L⟩,λd m=>(hZ.mp m).elim (λf=>.inl (f▸.head _)) λm=>(y d m).imp (.tail _) id⟩)
end
section
variable{C:Cx}{J K:Type}[e9 J][e9 K]{κ:KD C J K}{cs:ai CA}{S:a7->Obj->Prop}{h:ff}{a:a7}{es:ai kJ}{n:ak}{ks vs:ai D}
theorem C1(c:h.get? a=Bc (bP es n))(r:cL C.w.params cs S ks vs es)(d:fF κ.f ks=D1):∃b,KV κ cs S ks vs b/\h.MapOf κ.knd a (Mc b):=by refine cJ (r.kv d) λb f i j=>⟨b,f,_,_,n,c,(cV rfl rfl rfl),rfl,j,λk=>aD (i.find k) (by simp[findBy])⟩
theorem En(d:h.get? a=Bc (bP es n))(r:cL C.w.params cs S ks vs es)(f:fF κ.f ks=D1)(i:ks.Nodup):∃b,KV κ cs S ks vs b/\h.DictOf κ.knd a b:=by refine cJ (r.kv f) λb c j k=>⟨b,c,_,_,n,d,(cV rfl rfl rfl),rfl,k,j,c.nodup i⟩
theorem zV(f:s.heap.get? a=Bc (bP es n))(r:cL C.w.params cs S ks vs es)(c:gT κ.f k ks vs=Bc (Bc d))(i:κ.f x=Bc k)(j:Rd C.w.params cs S x u)(b:∀v,Rd C.w.params cs S d v->Q v {s with toks:=s.toks+1}):da (eg C.prog C.w) A (QH (.ref a) u) Q X s:=by refine aj (C1 f r (GB c)) λw l m=>aj (l.look c) λv p t=>wpAny_getItem_of (κ.rd i j) m p (b v t)
end
end
theorem Ar{a:k}(h:dP l i=Bc a):-(2^63)<i/\i<2^63/\∃j,DU i l.length=Bc j/\l[j]?=Bc a:=by
 unfold dP at h
 split at h
 .rename_i c
  refine aU (LU c) λd f=>?_;cases b:DU i l.length with|none=>rw[b]at h;cases h|some j=>rw[b]at h;exact⟨d,f,j,rfl,h⟩
 .exact nomatch h
theorem K2(h:DU i a=Bc j):(0<=i/\i.toNat=j/\j<a)\/(i<0/\-(a:a0)<=i/\(i+a).toNat=j/\j<a):=by
 unfold DU at h
 by_cases c:i<0
 .simp only[c,oO]at h
  split at h
  .rename_i b;simp only[ji,bl,pu]at b h;exact .inr ⟨c,Int.le_of_sub_nonneg ((Int.sub_neg i a).symm▸b.1),h,h▸(aoo b.1).mpr b.2⟩
  .exact nomatch h
 .simp only[c,hE]at h
  split at h
  .rename_i b
   simp only[ji,bl,pu]at b h;exact .inl ⟨b.1,h,h▸(aoo b.1).mpr b.2⟩
  .exact nomatch h
section
variable{J:uV}{w:jw}{A:ip}{E:Yj->a8->Prop}{s:a8}
theorem yn(d:s.heap.get? a=Bc (bc v n))(f:dP v i=Bc x)(h:Q x s):da (eg J w) A (QH (.ref a) (.int i t)) Q E s:=by
 refine cps λP k=>?_
 obtain⟨p,l,j,m,b⟩:=Ar f
 refine k ?_;clear k P
 have c:s.heap.IsList a v.toArray:=⟨_,d,rfl,n,rfl⟩
 rcases K2 m with⟨g0,g1,_⟩|⟨g0,g1,g2,_⟩
 .exact wpAny_getItem_list c g0 l (aa g1 (by simpa using b)) h
 .exact wpAny_getItem_list_neg c g0 (g1) (co ‹_›) (by simp only[lT];rw[g2];simpa using b) h
end
theorem Gl{S:a7->Obj->Prop}(r:aC P cs S l b)(h:dP l i=Bc d):∃v,dP b i=Bc v/\Rd P cs S d v:=by
 refine cps λc k=>?_
 obtain⟨t,u,j,f,m⟩:=Ar h
 refine aj (r.get m) λv a p=>k ?_;clear k c
 refine aF v ?_ p
 unfold dP at h⊢
 split at h
 .rename_i s;exact aa (eI s) (aa r.len (aa f a))
 .exact nomatch h
theorem aaj(s:dt)(d i:Yj):∃f,subscripted s Un d i=operate f (QH d i):=by cases s with|Slice a b c p=>cases c<;>exact⟨_,rfl⟩|_=>exact⟨_,rfl⟩
theorem iJ{a:Yj->a8->Prop}{b d:e8}(f:s.TypeIs o b)(j:ac (.type b) "__getitem__"=pure (Bc (.builtin d)))(k:da (eg J w) A (QH o i) Q a s):da (eg J w) A (EQ v c o i) Q a s:=by refine eE (aaj c o i) λl h=>tail_any f j k h
section
variable{C:Cx}{N:Env}{n:ak}{K:T->St->R}
variable{F:gn}{B:Ro}{H:ai Pl}{cs:ai CA}{G:St}{s:a8}{Q X:Yj->a8->Prop}{A:ip}
theorem Q2(J:knd=Gb C.prog C.w)(r:aC C.w.params cs (Sb B s.heap) l I)(h:fV l=Bc is):PySem.ItemsAre knd is I:=vF r h .nil λd v a I r rd L M=>.cons ((show Rd C.w.params cs (Sb B s.heap) (.int a) v from BJ L▸rd).qr λt=>J▸intKind_is _ _ _ _) M
theorem Gn(h:s.heap.get? a=Bc (eH vs m))(r:aC C.w.params cs (Sb B s.heap) l vs)(e:fV l=Bc is):(Lm (Gb C.prog C.w)).is s.heap is a:=(qj _ _ m h rfl rfl (by simpa using Q2 rfl r e))
theorem aaO(h:lM d=Bc j):∃l,d=.u l/\fV l=Bc j:=by cases d<;>first|exact bh h|exact aF _ rfl h
theorem Ie(c:lM k=Bc j)(r:Rd C.w.params cs (Sb B s.heap) k e.key)(d:pM C.w.params k e.hash):∃a,e=b? (Lm (Gb C.prog C.w)) (j,a,e.val)/\(Lm (Gb C.prog C.w)).is s.heap j a:=by obtain⟨v,i,w⟩:=e;refine aj (aaO c) λl p h=>?_;subst p;refine mJ r.oR λa y m b t u=>?_;haveI b:i=.ref a:=b;haveI f:=d j c;simp only at f;clear r d;subst b f;exact aF a rfl (Gn t.1 u h)
theorem QB:∀{i:ai D}{d:ai kJ},cL C.w.params cs (Sb B s.heap) k i d->fF lM k=D1->∃f:ai (ai a0×a7×Yj),d=f.map (b? (Lm (Gb C.prog C.w)))/\(∀b∈f,(Lm (Gb C.prog C.w)).is s.heap b.1 b.2.1)/\f.map (λb=>Bc b.1)=k.map lM:=by induction k with|nil=>intro i d r _;obtain⟨_,rfl⟩:=r.jf;exact dX ([]) rfl nM rfl|cons W k t=>intro i d r l;refine xC r.iZ λw i c d u v y I Y h=>?_;clear r;subst v;refine cps λP m=>?_;obtain⟨J,l⟩:=iA l;refine eE (some_of J) λj p=>cJ (t h l) λf L M O=>aj (Ie p y I) λa U V=>m ?_;clear m P;exact dX ((j,a,c.val)::f) (aa L (aa l6 (aD U rfl))) (List.forall_mem_cons.mpr ⟨V,M⟩) (aa l6 (aa l6 (aa O (aa p rfl))))
theorem Yg:∀{t u:ai D}{v:ai kJ}{k:ai a0}{d:D},cL C.w.params cs (Sb B s.heap) t u v->gT lM k t u=Bc (Bc d)->(t.map lM).Nodup->∃f:ai (ai a0×a7×Yj),v=f.map (b? (Lm (Gb C.prog C.w)))/\(∀b∈f,(Lm (Gb C.prog C.w)).is s.heap b.1 b.2.1)/\f.map (λb=>Bc b.1)=t.map lM/\∃p,atKey f k=Bc p/\Rd C.w.params cs (Sb B s.heap) d p.2:=by intro t u v k d r;induction t generalizing u v with|nil=>intro h _;obtain⟨rfl,_⟩:=r.jf;exact bh (eF (show Bc VG=Bc (Bc d)from h))|cons k0 t V=>
intro i W
refine xC r.iZ λw u c v Y Z rk hh rv l=>?_
clear r
subst Y
refine aa Z (cps λP m=>aj (dA i) λj I i=>aj (Ie I rk hh) λa O U=>?_)
refine m ?_;clear m P
by_cases y:j=k
.rw[eI y]at i
 obtain⟨al,i⟩:=bZ i
 obtain rfl:=(eF i).symm
 refine cps λP m=>?_
 obtain⟨f,J,L,M⟩:=QB l al
 refine m ?_;clear m P;exact⟨(j,a,c.val)::f,aa J (aa l6 (aD O rfl)),List.forall_mem_cons.mpr ⟨U,L⟩,aa l6 (aa l6 (aa M (aa I rfl))),(a,c.val),by simp[atKey,y],rv⟩
.rw[ej y]at i
 refine cps λP m=>?_;obtain⟨f,J,L,M,p,h4,h5⟩:=V l i (List.nodup_cons.mp W).2;refine m ?_;clear m P;exact⟨(j,a,c.val)::f,aa J (aa l6 (aD O rfl)),List.forall_mem_cons.mpr ⟨U,L⟩,aa l6 (aa l6 (aa M (aa I rfl))),p,by simpa[atKey,y]using h4,h5⟩
theorem cellK(I:Inv C F B H cs G s.heap){i:ak}(h:cs[i]?=Bc p)(a:G.cells[i]?=Bc c):gE C cs (Sb B s.heap) s.heap c p:=(I.cells i c p a h).1
abbrev uZ(C:Cx)(B:Ro)(cs:ai CA)(s:a8)(v k d:D):Prop:=∀{c f:dt}{a b:Yj}{Q X:Yj->a8->Prop}{A:ip},A.units+2<Bz->Rd C.w.params cs (Sb B s.heap) v a->Rd C.w.params cs (Sb B s.heap) k b->(∀u t,Rd C.w.params cs (Sb B s.heap) d u->Q u {s with toks:=t})->da (eg C.prog C.w) A (EQ c f a b) Q X s
theorem QZ{a:b}(h:MV d f=Bc a):∃i,d=.str i/\f i=Bc a:=by cases d<;>first|exact bh h|exact aF _ rfl h
theorem WZ{a:b}(h:L6 d f g=Bc a):(∃i,d=.int i/\f i=Bc a)\/∃i,d=.u i/\g i=Bc a:=by cases d<;>first|exact bh h|exact .inl ⟨_,rfl,h⟩|exact .inr (aF _ rfl h)
theorem K5{a:b}(h:Dp c f=Bc a):∃k v,c=Bc (.dict k v)/\f k v=Bc a:=by cases c with|none=>exact bh h|some c=>cases c<;>first|exact bh h|exact dm _ _ rfl h
theorem Eg{f:Type}{b:aw (aw f)}{c:f}(h:b.bind id=Bc c):b=Bc (Bc c):=by refine aj (dA h) λa d h=>aa d (aa (show a=Bc c from h) rfl)
theorem Wv(b:dP l i=Bc d):uZ C B cs s (.list l) (.int i) d:=λp r h c=>by obtain⟨a,v,m,rfl,f,r⟩:=r.ofList;obtain⟨t,rfl⟩:=h.ofInt;refine aj (Gl r b) λu j k=>iJ ⟨_,f.1,rfl⟩ slot_list_getitem.lookup (yn f.1 j (c u s.toks k))
theorem Rf(b:dP l i=Bc d):uZ C B cs s (.u l) (.int i) d:=λJ r h c=>by obtain⟨a,L,m,rfl,f,r⟩:=r.oR;obtain⟨t,rfl⟩:=h.ofInt;refine cps λP k=>aj (Gl r b) λu p v=>?_;obtain⟨M,w,j,y,I⟩:=Ar p;refine k ?_;clear k P;exact iJ ⟨_,f.1,rfl⟩ VC.lookup (getItem_tuple ⟨_,f.1,rfl,_,rfl⟩ (co ‹_›) w (y) (by simpa using I) (c u s.toks v))
theorem Uw(p:aM l=D1)(r:0<=i)(u:dP l i=Bc m):uZ C B cs s (.bytes l) (.int i) (.int m):=λM v w a=>by
 obtain⟨t,rfl⟩:=w.ofInt
 refine aS v.ofBytes λb O c d=>?_
 subst c
 refine aa d ?_
 haveI I:=fS p
 refine cps λP k=>?_
 obtain⟨U,V,j,J,h⟩:=Ar u
 refine k ?_;clear k P
 rcases K2 J with⟨g0,g1,g2⟩|⟨g0,_⟩
 .haveI L:b=b.toList.toArray:=rfl
  refine aa L ?_
  simp only[fx]at g2 I
  refine iJ (Ml s _ _) FB.slot_bytes_getitem.lookup (getItem_bytes q0 g0 q62 ?_)
  haveI :(b.toList.getD i.toNat 0).toNat=m:=by rw[y8]at h;refine aa g1 (aa (aq2) ?_);cases f:b.toList[j]? with|none=>rw[f]at h;exact bh h|some y=>rw[f]at h;exact eF h
  exact aa this (a _ _ (.int _ _))
 .lia
theorem TK(h:gT yK i k w=Bc (Bc d)):uZ C B cs s (.dict k w) (.int i) d:=λl c j b=>by obtain⟨a,p,m,rfl,f,c⟩:=c.P9;obtain⟨t,rfl⟩:=j.ofInt;exact iJ ⟨_,f.1,rfl⟩ slot_dict_getitem.lookup (zV (κ:=Hb C) f.1 c h rfl (.int i t) λv r=>b v _ r)
theorem RB(k:(t.map lM).Nodup)(v:fV l=Bc w)(y:gT lM w t I=Bc (Bc d)):uZ C B cs s (.dict t I) (.u l) d:=λW r i c=>by
 obtain⟨a,Y,m,rfl,u,r⟩:=r.P9
 obtain⟨b,Z,mb,rfl,J,i⟩:=i.oR
 obtain⟨j,L,M,O,p,P,U⟩:=Yg r y k
 refine iJ ⟨_,u.1,rfl⟩ slot_dict_getitem.lookup (wpAny_getItem_heap (ζ xy) (Gn J.1 i v) ⟨_,_,_,u.1,(cV rfl rfl rfl),rfl,L,M,?_⟩ P (c _ _ U))
 haveI :(j.map (λf=>Bc f.1)).Nodup:=aa O k
 haveI V:j.map (λf=>Bc f.1)=(j.map (·.1)).map Bc:=by simp[Function.comp_def]
 rw[V]at this;exact aus Bc (λa b h c=>h (aa c rfl)) this
theorem Y2(I:Inv C F B H cs G s.heap)(i:G.cells[r]?=Bc (.dict k w))(j:gT dJ a k w=Bc (Bc d)):uZ C B cs s (.ref r) (.str a) d:=λy c f b=>by refine aj c.oK λp l m=>?_;clear c;subst m;refine aS f.ofStr λa t Z u=>?_;clear f;subst Z;subst u;cases cellK I l i with|dict h r J=>exact iJ ⟨_,h,rfl⟩ slot_dict_getitem.lookup (zV (κ:=dS C) h r j rfl (.str a t) λv r=>b v _ r)
theorem Xn(J:A.units+2<Bz)(I:Inv C F B H cs G s.heap)(e:jG G.cells v k=Bc d)(L:Rd C.w.params cs (Sb B s.heap) v a)(M:Rd C.w.params cs (Sb B s.heap) k b)(q:∀u P,Rd C.w.params cs (Sb B s.heap) d u->Q u {s with toks:=P}):da (eg C.prog C.w) A (EQ value slice a b) Q X s:=by cases v with
|list l=>obtain⟨i,rfl,e⟩:=iI e;exact Wv e J L M q|u l=>obtain⟨i,rfl,e⟩:=iI e;exact Rf e J L M q|bytes l=>
refine aj (iI e) λi U e=>?_
subst U
refine aj (dA e) λY h e=>?_
obtain⟨V,O⟩:=iA (bZ h).1
refine aj (dA e) λm W e=>?_;obtain rfl:=eF e;exact Uw V (hQ O) W J L M q|dict Z j=>
rcases WZ e with⟨i,rfl,e⟩|⟨l,rfl,e⟩
.exact TK (Eg e) J L M q
.refine aj (dA e) λY h e=>aj (dA e) λy O e=>RB (hQ (bZ h).1) O (Eg e) J L M q|ref r=>refine aj (QZ e) λx w e=>?_;subst w;refine aS (K5 e) λZ j h e=>Y2 I h (Eg e) J L M q|_=>exact bh e
theorem qo(l:bG C n K)(a b:E):dy C N n K (.sub a b):=by intro c f py h G m ag p;refine ku h λv m L M=>?_;clear h;rename _=D1=>h;simp only[ji]at h;obtain⟨O,P⟩:=h;refine aS (Cf p) λU st1 V t=>aS (dW t) λW st2 Y w=>cJ (AR w) λd3 d i Z=>?_;clear p w t;refine aa i (aD Z.symm ?_);intro A F B H cs s Q X j y I ok;refine DY (l c f a v O G U st1 V A F B H cs s _ _ j y I ?_);intro aG aH bo aQ v1 I1 g1 k1 r1;refine l c f b m P st1 W _ Y A F aG H aH _ _ _ j y I1 ?_;intro aI ax eZ bF v2 J k k2 r2;haveI un:=j.un;exact Xn (s:={s with heap:=eZ,toks:=bF}) nh J d (r1.mono k.cs k.st) r2 λu tk r=>(ok.on (g1.trans k) (k1.trans k2)).val J r
end
theorem aC.cU{S:a7->Obj->Prop}(r:aC P cs S l v)(a h:aw a0):aC P cs S (gu l a h) (gu v a h):=by unfold gu;exact aa r.len ((r.drop _).take _)
theorem acU(v:ai Yj)(l h:aw a0):slicePick v.toArray l h VG=(gu v l h).toArray:=by unfold slicePick;rw[sliceBounds_plain];simp only[sliceRange_one,pick_run,gu,lT]
section
variable{C:Cx}{N:Env}{n:ak}{H:T->St->R}
variable{y:gn}{B:Ro}{F:ai Pl}{cs:ai CA}{G:St}{s:a8}{Q X:Yj->a8->Prop}{A:ip}
theorem MU{a:d}{c:aw i}(h:qy f (Bc a) c=D1):∃b,c=Bc b/\f a b=D1:=by cases c with|none=>cases h|some b=>exact aF b rfl h
theorem PW(U:bG C n H){K:aw E}(t:qy (aN c f) K l=D1)(h:C6 H K G a=.ok p V):∃i m,a i m=.ok p V/\∀A y B F cs(s:a8)Q X,bx C A (n+c.lv) c.hn->bq C y c F->Inv C y B F cs G s.heap->(∀L w J O v,Inv C y L F w m J->Go C B L cs w s.heap J->cy y F s.heap J->IsPart v i->Q v {s with heap:=J,toks:=O})->da (eg C.prog C.w) A (evalPart l y) Q X s:=by
 cases K with
|none=>cases l with|some _=>cases t|none=>exact dm VG G h (λA y B F cs s Q X Y Y I k=>KT (k B cs s.heap s.toks _ I (.refl _ _ _ _) (.refl _ _ _) .none))
|some j=>obtain⟨b,rfl,t⟩:=MU t;refine cps λW P=>?_;obtain⟨d,m,Z,M⟩:=dW h;refine P ?_;clear P W;obtain⟨i,rfl,M⟩:=kI M;refine dm (Bc i) m M (λA y B F cs s Q X rm eo I k=>σ (U c f j b t G _ m Z A y B F cs s _ _ rm eo I ?_));intro L w J O v I' a vk r;obtain⟨u,rfl⟩:=r.ofInt;exact k _ _ _ _ _ I' a vk (.int _ _)
theorem acJ(k n:ak)(h:k<=n):G? VG (Bc (k:a0)) 1 (n:a0)=(0,(k:a0)):=by
 unfold G?
 have a:¬((1:a0)<0):=by lia
 have b:¬((k:a0)<0):=by lia
 simp only[a,b,hE];congr 1;lia
theorem Wn(k:ak):PP 0 (k:a0) 1=k:=by unfold PP;have h:(1:a0)>0:=P1 _;simp only[h,oO,Int.ediv_one];split<;>lia
theorem Y4{a:Yj->a8->Prop}{k:ak}{Q:a0×a0×ak->a8->Prop}(f:s.heap.IsSliceOf sl .none (.int k u) .none)(i:k<=n)(h:Q (0,1,k) s):da (eg p w) A (apg (.ref sl) (pure (n:a0))) Q a s:=by refine cps λP d=>?_;obtain⟨l,b,m,c⟩:=id f;refine d ?_;clear d P;unfold apg auv;refine ct (ct (Lo b c (x:=.none) rfl (ct (Lo b c (x:=.int k u) rfl (ct (Lo b c (x:=.none) rfl (gP ?_)))))));refine ct (slicePart_none ?_);show da _ _ (if((1:a0)==0)=D1 then _ else _) _ _ s;refine aa (ej (by decide)) ?_;refine ct (slicePart_none (ct (slicePart_int (ct (gP ?_)))));show da _ _ (match G? VG (Bc (k:a0)) 1 (n:a0)with|(lo,j)=>pure (lo,(1:a0),PP lo j 1)) _ _ s;refine aa (acJ k n i) ?_;show da _ _ (pure ((0:a0),(1:a0),PP 0 (k:a0) 1)) _ _ s;exact aa (Wn k) (gP h)
theorem aew(c:iO Yj)(k:ak):((k? k).filterMap λ(j:ak)=>c[((0:a0)+(j:a0)*1).toNat]?).toArray=(c.toList.take k).toArray:=by
 have a:(λ(j:ak)=>c[((0:a0)+(j:a0)*1).toNat]?)=(λb=>c[b]?)∘λb=>0+b:=by
  funext j
  have :((0:a0)+(j:a0)*1).toNat=0+j:=P3 _ _;simp only[Function.comp,this]
 refine aa a (aD List.filterMap_map ?_);rw[pick_run];simp
theorem Zx{a:Yj->a8->Prop}{k:ak}(b:IsTup s.heap t i)(d:s.heap.IsSliceOf sl .none (.int k u) .none)(j:k<i.size)(v:i.size<=Ab)(h:Q (.ref s.heap.objs.size) {s with heap:=s.heap.push {cls:=.type "tuple",data:=.seq (i.toList.take k).toArray}}):da (eg prog w) A (QH (.ref t) (.ref sl)) Q a s:=by
 have c:sizeOk (.seq (i.toList.take k).toArray):=by show(i.toList.take k).toArray.size<=Ab;refine aa lT (aa Gh (aa VS ?_));lia
 refine cps λP f=>?_
 obtain⟨l,m,p,I⟩:=id d
 refine f ?_;clear f P
 have Y:s.TypeIs (.ref sl) "slice":=(aF l m p)
 unfold QH
 try with_reducible refine wq ?_
 first|refine ct (gP ?_)|skip
 refine ct (Y! b.typeIs (by decide) ?_)
 refine ct (aru b.typeIs VC (Ix VC b.typeIs entry_tuple_getitem ?_ (args_tuple_getitem _ _)))
 show da _ _ (aut (.ref t)>>=_) _ _ s
 refine ct (tupleItemsOf_ b ?_)
 refine ct (k! Y ?_)
 refine aa (eI (by decide)) ?_
 refine ct (Y4 d (Ej j) ?_)
 have r:¬(((0:a0)==0&&(1:a0)==1&&k==i.size)=D1):=by
  have :(k==i.size)=Un:=by rw[hA];exact l4 ‹_›
  refine aa this ?_;simp
 show da _ _ (if((0:a0)==0&&(1:a0)==1&&k==i.size)=D1 then _ else _) _ _ s
 refine aa (ej r) (aa (aew i k) ?_);first|exact ct (pc (gP (aF _ rfl (gP h))) c)|exact ct (pc (ct (gP (gP ⟨_,rfl,gP h⟩))) c)|exact ct (ct (pc (gP (gP ⟨_,rfl,gP h⟩)) c))
abbrev zf(C:Cx)(y:gn)(B:Ro)(F:ai Pl)(cs:ai CA)(G:St)(s:a8)(v:D)(l h:aw a0)(b:Slot):Prop:=∀⦃value slice:dt⦄⦃a vl vu:Yj⦄⦃A:ip⦄⦃Q X:Yj->a8->Prop⦄,Inv C y B F cs G s.heap->Rd C.w.params cs (Sb B s.heap) v a->IsPart vl l->IsPart vu h->hM C y B F cs s b G Q->da (eg C.prog C.w) A (EQ value slice a (.ref s.heap.objs.size)) Q X {s with heap:=s.heap.push {cls:=.type "slice",data:=.fields #[vl,vu,.none]}}
theorem zj(h:ff)(b p:Obj):∀a c,h.get? a=Bc c->((h.push b).push p).get? a=Bc c:=λY Y d=>cn _ _ _ _ (cn _ _ _ _ d)
theorem Gw(h:ff)(a p:Obj):h.objs.size<=((h.push a).push p).objs.size:=gY (dY _ _) (dY _ _)
theorem D5(h:ff)(a:Obj):h.objs.size<=(h.push a).objs.size:=dY h a
theorem QJ{b:aw a0}(f:aM l=D1):zf C y B F cs G s (.list l) b h (.o (gu l b h)):=λv c a u w A Q X I r p i j=>by obtain⟨a,k,m,rfl,d,r⟩:=r.ofList;have J:=fS f;have t:O? s.heap a k.toArray:=⟨_,d.1,rfl,m,rfl⟩;refine iJ ⟨_,sy _ d.1,rfl⟩ slot_list_getitem.lookup (ar9 (t.push _) (Ok ..) p i .none (by simp) ?_ (aa l3 (aa lT (aa r.len q0))));rw[acU];exact j.fresh I (zj _ _ _) (Gw _ _ _) (D5 _ _) (kK _ rfl) (r.cU b h)
theorem aeq(h:k<l.length)(i:aM l=D1):zf C y B F cs G s (.u l) VG (Bc (.ofNat k)) (.sh (.u (l.take k))):=λv d a K L A Q X I r p j t=>by obtain⟨a,u,m,rfl,f,r⟩:=r.oR;have M:=fS i;cases p;cases j with|int _ w=>?_;have J:IsTup (s.heap.push {cls:=.type "slice",data:=.fields #[.none,.int (Rr k) w,.none]}) a u.toArray:=⟨_,sy _ f.1,rfl,m,rfl⟩;refine iJ ⟨_,sy _ f.1,rfl⟩ VC.lookup (Zx J (Ok ..) (aa lT (aa r.len h)) (aa l3 (aa lT (aa r.len q0))) ?_);exact t.grown I (zj _ _ _) (Gw _ _ _) (.u ⟨kK _ rfl,uX I (D5 _ _)⟩ ((r.take k).mono (.refl _) λa b c=>⟨zj _ _ _ _ _ c.1,c.2⟩))
theorem Yw{c:aw a0}(f:aM l=D1):zf C y B F cs G s (.bytes l) c h (.sh (.bytes (gu l c h))):=λv d a w J A Q X I r p i j=>by
 obtain⟨b,t,rfl,rfl⟩:=r.ofBytes
 have m:=fS f
 simp only[fx,VS]at m
 refine iJ (Ml _ _ _) FB.slot_bytes_getitem.lookup (getItem_meets (Ml _ _ _) (by decide) FB.slot_bytes_getitem FB.entry_bytes_getitem (FB.args_bytes_getitem_2 _ _) (KBc.meets_slice2 b t _ p i) (cV (Ok _ _ _ _) (gY (KBc.size_picked_le b c h) (aa l3 q0)) (λK k=>?_)))
 refine j.grown I (cn _ _) (dY _ _) ?_
 have u:gu (b.toList.map Ge) c h=(KBy.picked b c h).toList.map Ge:=by
  rw[KBc.picked_eq]
  unfold gu
  refine aD List.map_drop (aD Z! ?_);simp
 exact aa u (.bytes _ _)
theorem Y0{c:aw a0}(a:nR v c f=Bc sl):zf C y B F cs G s v c f sl:=by
 cases v with
|list l=>obtain⟨h,rfl⟩:=bZ a;exact QJ h
|bytes l=>obtain⟨h,rfl⟩:=bZ a;exact Yw h
|u l=>
refine cps λP j=>?_
obtain⟨i,m,a⟩:=dA a
obtain⟨k,d,a⟩:=dA a
refine j ?_;clear j P
obtain⟨h,rfl⟩:=bZ a;obtain⟨p,r⟩:=iA h;cases c with|some _=>exact bh m|none=>cases f with|none=>exact bh d|some b=>cases b with|ofNat n=>cases eF d;exact aeq (hQ p) r|negSucc n=>exact bh d
|_=>exact bh a
theorem TV(m:bG C n H)(a:E)(L M:aw E):dy C N n H (.cU a L M):=by intro c f py h G sl ag O;refine ku h λv sx P d=>?_;clear h;refine IP d λl u TM ps k=>?_;clear d;refine iN k λh=>?_;clear k;simp only[ji]at h;refine cps λU K=>?_;obtain⟨⟨V,W⟩,Y⟩:=h;obtain⟨Z,p,h1,cb⟩:=dW O;obtain⟨i,st2,h2,k2⟩:=PW m W cb;obtain⟨j,st3,h3,k3⟩:=PW m Y h2;refine K ?_;clear K U;obtain⟨b,rfl⟩:=Nn h3;intro A y B F cs s Q X r t I ok;refine DY (m c f a v V G Z p h1 A y B F cs s _ _ r t I ?_);intro aG aH bo aQ v1 I1 g1 F1 r1;refine wpAny_Slice (k2 _ _ _ _ _ _ _ _ r t I1 ?_);intro aI ax eZ bF v2 I2 w W8 p2;refine k3 _ _ _ _ _ _ _ _ r t I2 ?_;intro dC iQ vK fH v3 I3 J Uh p3;refine KT (Y0 b I3 ((r1.mono w.cs w.st).mono J.cs J.st) p2 p3 (ok.on ((g1.trans w).trans J) ((F1.trans W8).trans Uh)))
theorem adL(O:bG C n H)(a:E):dy C N n H (.rev a):=by intro c f py h G sl ag P;refine ku h λv sx U d=>?_;clear h;refine IP d λl u TM ps i=>?_;clear d;refine iN i λj=>?_;clear i;refine iN j λk=>?_;clear j;refine iS k λb p=>?_;clear k;obtain⟨w,h⟩:=iA p;clear p;refine PR w λY Y Y=>?_;simp only[ji]at h;refine cps λV J=>?_;obtain⟨t0,W⟩:=h;obtain⟨Z,t,h1,r⟩:=dW P;refine J ?_;clear J V;intro A y B F cs s Q X rm eo I ok;refine DY (O c f a v W G Z t h1 A y B F cs s _ _ rm eo I ?_);intro aG aH K aQ v1 I1 g1 F1 r1;obtain⟨l,rfl,r⟩:=kL r;obtain⟨hs,r⟩:=ki r;cases r;obtain⟨a,vs,m,rfl,L,M⟩:=r1.ofList;have w:=fS hs;refine wpAny_Slice (KT (KT (σ (Fa (Lr (F! ?_))))));have il:O? K a vs.toArray:=⟨_,L.1,rfl,m,rfl⟩;refine iJ (s:={s with heap:=_,toks:=_}) ⟨_,sy _ L.1,rfl⟩ slot_list_getitem.lookup (ar9 (il.push _) (Ok ..) .none .none (.int (-1) _) (by simp) ?_ (aa l3 (aa lT (aa M.len q0))));rw[krv_pick];exact(ok.on g1 F1).fresh (s:={s with heap:=K,toks:=aQ}) I1 (zj _ _ _) (Gw _ _ _) (D5 _ _) (kK _ rfl) M.reverse
end
abbrev Rs(a:dt):Prop:=∀(w:gn)(b:Yj),W? a w b=pure b
theorem I?(i:aN c f x h=D1):(∀r w,yy (h::r) w=(Un,jM h w)::yy r w)/\Rs h/\∀j,behindInMarks j h=Un:=by
 cases h with
|Starred v _=>cases f with|zero=>exact no i|succ f=>cases x<;>exact no i
|Set a b d=>cases f with|zero=>exact no i|succ f=>cases x<;>exact no i
|_=>exact⟨λY Y=>rfl,λY Y=>rfl,λY=>rfl⟩
theorem gZ(h:aN c f x a=D1)(r:ai dt)(w:gn):yy (a::r) w=(Un,jM a w)::yy r w:=(I? h).1 r w
theorem yw(h:aN c f x e=D1):Rs e:=(I? h).2.1
theorem sL(h:bI (aN c f) l es=D1):(E5 p (yy es env)).any (·.1)=Un:=by
 apply U8 h
 .rfl
 .intro a l b r h _ i;rw[gZ h];exact i
theorem uC{l:ai a}{m:ai b}(h:bI f l m=D1):l.length=m.length:=by
 apply U8 h
 .rfl
 .exactλY Y i=>gO (.+1) i
section
variable{C:Cx}{N:Env}{n:ak}{G:T->St->R}
variable{w:gn}{B J:Ro}{F:ai Pl}{cs O:ai CA}{H:St}{s:a8}{Q X:Yj->a8->Prop}{A:ip}{h K:ff}
theorem A6(L:bG C n G)(t:bI (aN c f) l v=D1):∀{H i j},dK G l H=.ok (.ds i) j->∀{A w B F cs}{s:a8}{Q:ai Yj->a8->Prop}{X},bx C A (n+c.lv) c.hn->bq C w c F->Inv C w B F cs H s.heap->JI C w B F cs s i j Q->da (eg C.prog C.w) A (spliced (E5 pos (yy v w))) Q X s:=by
 apply U8 t
 .intro H i j h A w B F cs s Q X r k I m;cases h;exact SF (m B cs s.heap s.toks [] I (.refl _ _ _ _) (.refl _ _ _) .nil)
 .intro a l b v t _ M H i j h A w B F cs s Q X r k I m
  refine aS (Cf h) λd p P y=>aS (mY y) λkC U V W=>?_;clear y;cases W;refine j! (L c f a b t H d p P A w B F cs s _ _ r k I ?_) (gZ t _ _);intro aG aH bo aQ v1 Y Z k1 r1;refine M V r k Y ?_;intro aI ax eZ bF v2 I2 u k2 r2;exact m aI ax eZ bF _ I2 (Z.trans u) (k1.trans k2) (.cons (r1.mono u.cs u.st) r2)
theorem yX(j:bG C n G)(t:bI (aN c f) l d=D1)(h:dK G l H=.ok (.ds ds) k){Q:Args->a8->Prop}(r:bx C A (n+c.lv) c.hn)(m:bq C w c F)(I:Inv C w B F cs H s.heap)(i:JI C w B F cs s ds k λv u=>Q ⟨v,[]⟩ u):da (eg C.prog C.w) A (evalArgs L D1 (E5 p (yy d w)) []) Q X s:=by cases l with
|nil=>cases d with|cons _ _=>cases t|nil=>cases h;exact evalArgs_nil3 (i B cs s.heap s.toks [] I (.refl _ _ _ _) (.refl _ _ _) .nil)
|cons a l=>cases d with|nil=>cases t|cons b d=>
haveI y:E5 p (yy (b::d) w)=(Un,jM b w)::E5 p (yy d w):=by rw[gZ (by exact(iA t).1)];rfl
haveI :=A6 (pos:=p) (X:=X) j t h r m I i;rw[y]at this⊢;exact Lw this
theorem CW:∀{H:St}{b:ai D}{c:St},dK G l H=.ok (.ds b) c->b.length=l.length:=by induction l with|nil=>intro _ _ _ h;cases h;rfl|cons a l i=>intro H b c h;refine aS (Cf h) λd j r f=>aS (mY f) λt k m p=>?_;clear f;cases p;exact gO (.+1) (i m)
theorem YB(i:bG C n G)(l:ai E):dy C N n G (.a l):=by intro c f V a H W Y b;refine ub a λZ p j=>?_;clear a;rename _=D1=>a;simp only[ji]at a;obtain⟨t,k⟩:=a;refine aS (mY b) λds m d u=>?_;intro A w B F cs s Q X v y I L;clear b;cases u;refine am (A6 i k d v y I ?_);intro aG aH bo aQ vs M P U r;haveI hz:=mc t;refine⟨aa r.len (aa (CW d) (aa l3 q0)),?_⟩;exact(L.on P U).fresh M (cn _ _) (dY _ _) (ir _) (kK _ rfl) r
theorem xk(t:bG C n G)(l:ai E):dy C N n G (.u l):=by intro c f py i H sl ag j;refine ri i λes k u v=>?_;clear i;rename _=D1=>i;simp only[ji]at i;obtain⟨y,L⟩:=i;refine aS (mY j) λds M m P=>?_;clear j;obtain⟨rfl,rfl⟩:=gR P;intro A w B F cs s Q X U V I W;refine g! (A6 t L m U V I ?_);intro aG aH bo aQ vs p Y Z r;haveI hz:=mc y;refine⟨aa r.len (aa (CW m) (aa l3 q0)),?_⟩;exact(W.on Y Z).grown p (cn _ _) (dY _ _) (.u ⟨kK _ rfl,uX p (ir _)⟩ (r.mono (.refl _) λa b d=>⟨cn _ _ _ _ d.1,d.2⟩))
theorem j0(I:Inv C w B F cs H h)(d:H.l[i]?=Bc (.o l)):∃p a f m,F[i]?=Bc p/\dB w h p (Bc (.ref a))/\h.get? a=Bc (bc f m)/\aC C.w.params cs (Sb B h) l f/\B a=Bc (.o i):=by have j:i<F.length:=aD I.dH ((List.getElem?_eq_some_iff.mp d).1);refine fN (I.vars i F[i] (.o l) (by simp[j]) d) λu y v b r k=>?_;clear k;cases b with|o c t=>exact HZ (F[i]) _ _ _ (by simp[j]) v c t (r _ (.head _))
theorem eJ(d:bq C w c F)(a:c.bN i x=D1)(f:F[i]?=Bc p)(j:dB w s.heap p (Bc v))(b:Q v s):da M A (jM (.Name x k) w) Q X s:=by refine bD (zc d a f) λl m y=>an ?_ m;rw[<-l]at y⊢;exact wY d.kind y j b
theorem yC(ih:bG C n G)(i:ak)(b:E):dy C N n G (.jC i b):=by intro c f py t H sl ag L;refine ku t λv y uM M=>?_;clear t;refine dD M λd uY t=>?_;clear M;simp only[ji]at t;refine cps λP_ U=>?_;obtain⟨t1,t2⟩:=t;refine aj (yq L) λl0 So L=>aS (dW L) λd2 st2 h2 r=>aj (yq r) λl hl r=>U ?_;clear U P_;refine aj (kI r) λk ZV r=>?_;clear L;subst ZV;refine cJ (AR r) λd3 j Sk U1=>?_;clear L r;refine aa Sk ?_;clear r;clear r;refine aD U1.symm ?_;intro A w B F cs s Q X rm V I ok;refine kW (j0 I So) λp a vs m P W e3 e4 e5=>DY (eJ V t1 P W ?_);refine ih c f b y t2 H _ _ h2 A w B F cs s _ _ rm V I ?_;intro aI ax eZ bF v2 Y g2 Z r2;refine kW (j0 Y hl) λp' a' cX m' f1 f2 f3 f4 f5=>?_;clear f5;obtain rfl:=eF (P.symm.trans f1);cases(Z p (mD P) _ W).uniq f2;obtain⟨_,rfl⟩:=r2.ofInt;refine aj (Gl f4 j) λu u1 u2=>iJ ⟨_,f3,rfl⟩ slot_list_getitem.lookup (yn f3 u1 ((ok.on g2 Z).val (s:={s with heap:=eZ,toks:=bF}) Y u2))
noncomputable def Ro.out(B:Ro):Ro:=λa=>match B a with|none=>VG|some (.cell j)=>Bc (.cell j)|some _=>Bc .f
theorem Ro.sV:B.out a=VG↔B a=VG:=by unfold Ro.out;cases B a with|none=>simp|some r=>cases r<;>simp
theorem Ro.Ag:B.out a=Bc (.cell j)↔B a=Bc (.cell j):=by unfold Ro.out;cases B a with|none=>simp|some r=>cases r<;>simp
theorem Ro.fZ(h:B a=Bc r)(n:∀j,r≠.cell j):B.out a=Bc .f:=by unfold Ro.out;refine aa h ?_;clear h;cases r with|cell j=>exact aL rfl (n j)|_=>rfl
theorem lh(b:Sb B h a o):Sb B.out h a o:=⟨b.1,Ro.sV.mpr b.2⟩
theorem mh(B:Ro):∀a r,B.out a=Bc r->r=.f\/∃j,r=.cell j:=by intro a r h;unfold Ro.out at h;cases c:B a with|none=>rw[c]at h;cases h|some b=>rw[c]at h;cases b<;>first|exact .inl (eF h).symm|exact .inr ⟨_,(eF h).symm⟩
theorem Inv.outer(v:gn)(I:Inv C w B F cs H h):Inv C v B.out [] cs ⟨[],H.cells⟩ h:=by
 refine⟨λa f=>I.lt a λk=>f (Ro.sV.mpr k),λa l f=>?_,I.tab.sb λY Y=>lh,Ro.fZ I.cM (by simp),rfl,I.d9,λi p s u=>by simp at u,λj c p L u=>?_,λa j f=>I.gG a j (Ro.Ag.mp f),.nil,λt m=>by simp at m,λt c b m=>by simp at m,λt y c b d m=>by simp at m,λt c b m=>by simp at m,λf m=>(I.eS f m).step I.tab (λa k Y=>⟨Ro.fZ k (by simp),λY=>.refl C h a⟩) λa k=>⟨.inl (Ro.fZ k MX),id⟩⟩
 .refine aU (I.base a l f) λM P=>⟨M,Ro.sV.mpr P⟩
 .refine bD (I.cells j c p L u) λt r U=>cV (t.keep (.refl _) (λY Y=>lh) λY Y Y f=>f) (λa m=>Ro.Ag.mpr (r a m)) U
theorem fA.exact(k:fA C h K a)(b:h.get? a=Bc o)(n:km C a):K.get? a=Bc o:=by refine aj (k o b) λf d c=>?_;rw[c n]at d;exact d
noncomputable def Ro.back(B J:Ro):Ro:=λa=>match B a with|none=>J a|some (.cell _)=>J a|some r=>Bc r
theorem Ro.hG(h:B a=Bc r)(n:∀j,r≠.cell j):B.back J a=Bc r:=by unfold Ro.back;refine aa h ?_;clear h;cases r with|cell j=>exact aL rfl (n j)|_=>rfl
theorem Ro.mG(h:B a=VG):B.back J a=J a:=by unfold Ro.back;rw[h]
theorem Ro.u6(h:B a=Bc (.cell j)):B.back J a=J a:=by unfold Ro.back;rw[h]
theorem Inv.back(I:Inv C w B F cs H h)(V:Inv C vV J [] O ⟨[],bg⟩ K)(g:Go C B.out J cs O h K)(ro:∀a r,J a=Bc r->r=.f\/∃j,r=.cell j):Inv C w (B.back J) F O ⟨H.l,bg⟩ K/\Go C B (B.back J) cs O h K/\cy w F h K/\(∀a o,Sb J K a o->Sb (B.back J) K a o):=by
 have sb:∀a o,Sb J K a o->Sb (B.back J) K a o:=λa o x=>⟨x.1,by cases q:B a with|none=>rw[Ro.mG q];exact x.2|some r=>
by_cases n:∀j,r≠.cell j
.have :=(g.kp a (Ro.fZ q n)).1;rw[x.2]at this;cases this
.obtain⟨j,rfl⟩:∃j,r=.cell j:=by cases r with|cell j=>exact⟨j,rfl⟩|_=>exact aL (λj=>by simp) n
 refine aa (Ro.u6 q) ?_;exact x.2⟩
 have W:∀a r,B a=Bc r->(∀j,r≠.cell j)->a≠C.tab->fA C h K a:=λa r q n t=>(g.kp a (Ro.fZ q n)).2 t
 haveI tl:∀x,Pl.l x∈F->w.locals≠C.tab:=λx m e=>by have :=I.locs x m;rw[e,I.cM]at this;cases this
 have l:cy w F h K:=λp m f x=>x.keep (λy e=>W _ _ (I.locs y (e▸m)) (by simp) (tl y (e▸m))) λy c b e=>by
  clear x
  subst e
  rcases I.eT y c b m with q|q
  .exact W _ _ q.2 (by simp) (I.fW y c b m).2
  .exact W _ _ q.2 (by simp) (I.fW y c b m).2
 haveI Dl:∀a j,B.back J a=Bc (.cell j)->J a=Bc (.cell j):=λa j e=>by cases q:B a with|none=>rwa[Ro.mG q]at e|some r=>cases r with|cell i=>rwa[Ro.u6 q]at e|_=>rw[Ro.hG q (by simp)]at e;cases e
 haveI M:∀a j,J a=Bc (.cell j)->B.back J a=Bc (.cell j):=λa j e=>by cases q:B a with|none=>rw[Ro.mG q];exact e|some r=>
  by_cases n:∀j,r≠.cell j
  .have :=(g.kp a (Ro.fZ q n)).1;rw[e]at this;cases this
  .obtain⟨i,rfl⟩:∃j,r=.cell j:=by cases r with|cell j=>exact⟨j,rfl⟩|_=>exact aL (λj=>by simp) n
   exact aa (Ro.u6 q) e
 have P:Go C B (B.back J) cs O h K:=⟨g.cs,λa o x=>sb a o (g.st a o (lh x)),λa e=>⟨Ro.hG e (by simp),λt=>W a _ e (by simp) t⟩,λa e=>Ro.hG e (by simp),g.sz⟩
 refine qL ⟨λa e=>?_,λa o e=>?_,V.tab.sb sb,Ro.hG I.cM (by simp),I.dH,V.d9,λi p s u hs=>?_,λj c p hc u=>?_,λa j e=>V.gG a j (Dl a j e),I.names,λx m=>Ro.hG (I.locs x m) (by simp),λx c b m=>?_,I.je,I.fW,λe m=>(I.eS e m).step I.tab (λa q Y=>P.kp a q) λa q=>⟨.inr (P.sc a q),λ⟨o,z1,z2⟩=>?_⟩⟩ P l sb
 .cases q:B a with|none=>rw[Ro.mG q]at e;exact V.lt a e|some r=>exact nB (I.lt a (aa q (yf _))) g.sz
 .refine aU (V.base a o e) λk Z=>sb a o ⟨k,Z⟩
 .refine fN (I.vars i p s u hs) λos f v x r d=>hY os f (l p (mD u) f v) ?_ (λa m=>Ro.hG (r a m) yN) d
  have ob:∀a∈os,∀o,h.get? a=Bc o->K.get? a=Bc o:=λa m o e=>
haveI n:km C a:=λZ m2 q=>by
 obtain⟨_,L,_,f1,f2,_⟩:=I.eS Z m2
 rw[f1]at q;cases q;rcases f2 with f2|f2<;>(rw[r a m]at f2;cases f2)
(W a _ (r a m) yN λt=>by have :=r a m;rw[t,I.cM]at this;cases this).exact e n;clear v r d hs;cases x with|ae=>exact .ae _|sh U=>exact .sh (U.mono g.cs P.st)|o e U=>exact .o (ob _ (.head _) _ e) (U.mono g.cs P.st)|exc k Z e3 e4 U=>exact .exc (P.st _ _ k) Z e3 (P.st _ _ e4) (U.mono g.cs P.st)|bS e U=>exact .bS (ob _ (.head _) _ e) (U.keep g.cs P.st λa m=>ob a (.tail _ m))
 .refine bD (V.cells j c p hc u) λx r d=>cV (x.keep (.refl _) sb λY Y Y e=>e) (λa m=>M a j (r a m)) d
 .rcases I.eT x c b m with q|q
  .exact .inl ⟨q.1,Ro.hG q.2 (by simp)⟩
  .exact .inr ⟨q.1,Ro.hG q.2 (by simp)⟩
 .refine aj (W a _ q (by simp) (λz=>by rw[z,I.cM]at q;cases q) o z1) λsl z3 Y=>?_;exact aF _ z3 z2
theorem dh.back{f:ai a7}{S:a7->Obj->Prop}(b:dh C.w.params C.bad cs S h sl f v)(k:∀a c,S a c->i a c):dh C.w.params C.bad cs i h sl f v:=b.keep (.refl _) k λY Y Y d=>d
theorem call_in(k:du C n l f d H.cells sl p)(t:bx C A n l)(I:Inv C w B F cs H s.heap)(r:aC C.w.params cs (Sb B s.heap) d j)(u:hM C w B F cs s sl ⟨H.l,p⟩ Q):da (eg C.prog C.w) A (call f j) Q X s:=by refine k A B.out cs s j w Q X t (I.outer w) (mh B) (r.mono (.refl _) λY Y=>lh) ?_;intro J O K tk v y L b M c i P;refine pF (I.back L b M) λU V W Z=>u _ _ _ _ _ y U V W (c.back Z) (λa m=>⟨?_,(i a m).2⟩) P;exact aa (Ro.mG (uX I (i a m).2)) ((i a m).1)
theorem x_call(V:bG C n G)(u:kY C N n)(k:ak)(l:ai E):dy C N n G (.call k l):=by
 intro c f py j H sl ag v
 refine jm j λa es kw W m=>?_;clear j
 refine dD m λb p r=>?_;clear m
 refine i0 r λj=>?_;clear r
 simp only[ji]at j
 obtain⟨⟨⟨y,Y⟩,Z⟩,L⟩:=j
 intro A w B F cs s Q X M t I ok
 haveI hh:(k !=C.gz)=D1->c.hn=D1:=λd=>by rw[t.vg]at y;cases i:c.hn with|true=>rfl|false=>rw[i]at y;simp_all
 refine aS (Nj v) λds st1 h1 P=>aj (BP P) λbg hc Rw=>?_
 clear v P
 subst Rw;refine cJ (u.call k ds _ _ _ hc) λfv f1 f2 f3=>?_;haveI gv:=u.nC k fv f1 (aD t.gk Y);refine Li rfl (qX u.dN t I Z gv ?_);refine AI (aa (sL L) rfl) f2 (yX V L h1 M t I ?_);intro aG aH bo aQ vs U g1 k1 r1;exact⟨U.tok,call_in f3 (M.less (zI _ _) hh) U r1 (ok.on g1 k1)⟩
end
mutual noncomputable def toP:D->PyData|.none=>.none|.bool b=>.bool b|.int i=>.int i|.str l=>.str ⟨l.toArray⟩|.list l=>.list (fD l)|.u l=>.tuple (fD l)|_=>.none noncomputable def fD:ai D->ai PyData|[]=>[]|d::l=>toP d::fD l end
section
variable{P:ei}{cs:ai CA}{S:a7->Obj->Prop}{h:ff}
theorem CO(j:∀d v,dat n d=D1->Rd P cs S d v->∃f,Ld h v (toP d) f):∀(l:ai D)(i:ai Yj),l.all (dat n)=D1->aC P cs S l i->∃f,ReadsAll h i (fD l) f:=by intro l;induction l with|nil=>intro i _ r;rw[r.jf];exact⟨_,.nil⟩|cons d l k=>intro i a r;refine dG r.iZ λb y m p s=>?_;clear r;refine aa m ?_;obtain⟨t,u⟩:=iA a;obtain⟨f,c⟩:=j d b t p;obtain⟨A,w⟩:=k y u s;exact sP _ (.cons c w)
theorem zh(B:∀a c,S a c->h.get? a=Bc c):∀(f:ak)(d:D)(v:Yj),dat f d=D1->Rd P cs S d v->∃w,Ld h v (toP d) w:=by
 have p:∀{f:ak}{d:D}{v:Yj},dat f d=D1->Rd P cs S d v->(∀l,d≠.list l)->(∀l,d≠.u l)->∃w,Ld h v (toP d) w:=by intro f d v j r F G;cases r with|none=>exact sP _ .none|bool b=>exact sP _ (.bool b)|int i t=>exact sP _ (.int i t)|str s t=>exact sP _ (Ld.str s t)|list=>exact aL rfl (F _)|u=>exact aL rfl (G _)|_=>cases f<;>exact no j
 intro f;induction f with
|zero=>intro d v j r;cases d<;>first|exact no j|exact p j r nofun nofun
|succ f C=>intro d v j r;cases d with|list l=>obtain⟨a,y,m,rfl,A,r⟩:=r.ofList;obtain⟨w,k⟩:=CO C l y j r;exact sP _ (.list (B _ _ A) rfl rfl k)|u l=>obtain⟨a,y,m,rfl,A,r⟩:=r.oR;obtain⟨w,k⟩:=CO C l y j r;exact sP _ (.tuple (B _ _ A) rfl rfl k)|_=>exact p j r nofun nofun
theorem E3(f:∀a b,S a b->h.get? a=Bc b)(c:ak)(d:l.all (dat c)=D1)(r:aC P cs S l v):∃i,ReadsAll h v (fD l) i:=CO (zh f c) l v d r
end
theorem FK(i:∀d,dat n d=D1->(toP d).canLay0=D1/\(toP d).depth<=n)(l:ai D)(a:l.all (dat n)=D1):A? (fD l)=D1/\IR (fD l)<=n:=by induction l with|nil=>exact⟨rfl,oZ _⟩|cons d l h=>obtain⟨b,c⟩:=iA a;obtain⟨f,j⟩:=i d b;obtain⟨k,m⟩:=h c;exact⟨by show(PyData.canLay0 (toP d)&&A? (fD l))=D1;rw[f,k];rfl,Nat.max_le.mpr ⟨j,m⟩⟩
theorem Jl(a:(s.all λc=>ys c 1114112)=D1):(toP (.str s)).canLay0=D1:=by show(s.toArray.all _)=D1;refine aa List.all_toArray ?_;rw[lg];intro b m;exact mM (anv (mc (lg.mp a b m)))
theorem ET:∀(a:ak)(d:D),dat a d=D1->(toP d).canLay0=D1/\(toP d).depth<=a:=by intro a;induction a with
|zero=>intro d b;cases d<;>first|exact⟨rfl,oZ _⟩|exact no b|exact⟨Jl b,oZ _⟩
|succ a i=>intro d b;cases d with|list l=>have :=FK i l b;exact⟨this.1,ul this.2⟩|u l=>have :=FK i l b;exact⟨this.1,ul this.2⟩|str s=>exact⟨Jl b,oZ _⟩|_=>first|exact⟨rfl,oZ _⟩|exact no b
theorem ac9(a:ak)(l:ai D)(b:l.all (dat a)=D1):A? (fD l)=D1/\IR (fD l)<=a:=FK (ET a) l b
theorem L5(a b:ai ak):((⟨a.toArray⟩:Str)==(⟨b.toArray⟩:Str))=decide (a=b):=by
 rw[Bool.eq_iff_iff,beq_iff_eq,bl]
 constructor
 .intro h;simpa using h
 .intro h;rw[h]
theorem TZ(i:∀a b,dat n a=D1->dat n b=D1->R8 (toP a) (toP b)=eqB a b):∀(a b:ai D),a.all (dat n)=D1->b.all (dat n)=D1->ω (fD a) (fD b)=mK a b:=by intro a;induction a with|nil=>intro b _ _;cases b<;>rfl|cons c a h=>intro b d f;cases b with|nil=>rfl|cons y b=>obtain⟨j,k⟩:=iA d;obtain⟨l,m⟩:=iA f;show(R8 (toP c) (toP y)&&ω (fD a) (fD b))=(eqB c y&&mK a b);exact aa (i c y j l) (aa (h b k m) rfl)
theorem xP:∀(c:ak)(a b:D),dat c a=D1->dat c b=D1->R8 (toP a) (toP b)=eqB a b:=by intro c;induction c with
|zero=>intro a b h d;cases a<;>first|exact no h|(cases b<;>first|rfl|exact no d|exact L5 _ _)
|succ c i=>intro a b h d;cases a<;>first|exact no h|(cases b<;>first|rfl|exact no d|exact L5 _ _|exact TZ i _ _ h d)
theorem PZ(b:ak)(c:D)(d:dat b c=D1):∀(l:ai D),l.all (dat b)=D1->((fD l).any λy=>R8 y (toP c))=l.any λy=>eqB y c|[],_=>rfl|a::r,h=>by simp only[Nf,ji]at h;simp only[fD,qE,xP b a c h.1 d,PZ b c d r h.2]
theorem qZ(h:dat 8 d=D1):SS (toP d)=D1:=by haveI :=ET 8 d h;unfold SS;refine aa this.1 ?_;rw[q?];exact mM (gY this.2 (by simp))
section
variable{C:Cx}{N:Env}{n:ak}{rec:T->St->R}
variable{F:gn}{B ah:Ro}{H:ai Pl}{cs cs':ai CA}{G:St}{s:a8}{Q X:Yj->a8->Prop}{A:ip}{h h':ff}
theorem yu(I:Inv C F B H cs G h)(f:∃b,C.h₀.get? Gd=Bc b)(c:B a=Bc r):(a==Gd)=Un:=by rw[hA];intro d;subst d;obtain⟨b,i⟩:=f;rw[(I.base _ b i).2]at c;exact nomatch c
theorem ZT{J K:Type}[e9 J][e9 K]{p:KD C J K}{k:J}{c:D}{u:Yj}{t w:ai D}{M:ai kJ}{m:ak}{a:a7}{b:aA}(P:s.heap.get? a=Bc (bP M m))(r:cL C.w.params cs (Sb B s.heap) t w M)(v:(gT p.f k t t).map (·.isSome)=Bc b)(U:p.f c=Bc k)(V:Rd C.w.params cs (Sb B s.heap) c u)(lo:(a==Gd)=Un):∃f,p.knd.is (p.e k) u=D1/\s.heap.MapOf p.knd a f/\(f (p.e k)).isSome=b:=by cases y:gT p.f k t t with|none=>rw[y]at v;cases v|some d=>
rw[y]at v
simp only[Option.map_some,pu]at v
refine aj (C1 P r (GB y)) λI W Y=>dX _ (p.rd U V) Y ?_
subst v
haveI L:∀{t w:ai D}{I:ai (K×Yj)}{d:aw D},KV p cs (Sb B s.heap) t w I->gT p.f k t t=Bc d->(Mc I (p.e k)).isSome=d.isSome:=by intro t w I d O;induction O generalizing d with|nil=>intro h;cases eF h;rfl|@cons _ _ j _ _ _ _ Z r0 O ih=>
 intro h
 refine aj (dA h) λb hb h=>?_
 obtain rfl:=eF (Z.symm.trans hb)
 refine aa O1 ?_
 by_cases i:j=k
 .rw[eI i]at h;refine aD ((bZ h).2) (aa (eI (gO p.e i)) ?_);rfl
 .rw[ej i]at h;exact aa (ej λl=>i (p.inj _ _ l)) (ih h)
exact L W y
theorem aaC(h:gX x y=Bc b):dat 8 x=D1/\dat 8 y=D1/\eqB x y=b:=⟨(iA (bZ h).1).1,(iA (bZ h).1).2,(bZ h).2⟩
theorem abf(h:memD x l=Bc b):dat 8 x=D1/\l.all (dat 8)=D1/\(l.any λy=>eqB y x)=b:=⟨(iA (bZ h).1).1,(iA (bZ h).1).2,(bZ h).2⟩
theorem tU:∀a b,Sb B h a b->h.get? a=Bc b:=λY Y c=>c.1
theorem HT(r:Rd C.w.params cs (Sb B h) d v)(a:CG d=Bc b):(v==.none)=b:=by cases r<;>first|exact bh a|exact eF a
theorem Pj(e:memD x l=Bc b)(Y:A.units+100<Bz)(r:aC C.w.params cs (Sb B s.heap) l vs)(V:Rd C.w.params cs (Sb B s.heap) x u)(I:s.heap.get? a=Bc (bc vs m)\/s.heap.get? a=Bc (eH vs m))(J:By)(K:J=.In\/J=.NotIn)(q:Q (.bool (if J=.In then b else !b)) s):da (eg C.prog C.w) A (YR J u (.ref a)) Q X s:=by
 refine bD (abf e) λP U W=>?_
 obtain⟨Z,r1⟩:=E3 tU 8 U r
 obtain⟨j,r2⟩:=zh tU 8 _ _ P V
 haveI l1:=ac9 8 l U
 haveI L:=ET 8 x P
 haveI M:A.units+1+min (IR (fD l)) (toP x).depth<Bz:=by haveI :=Nat.min_le_right (IR (fD l)) (toP x).depth;lia
 haveI O:=(PZ 8 x P l U).trans W
 rcases I with I|I<;>rcases K with K|K<;>subst K<;>simp only[oO,reduceCtorEq,hE]at q
 .exact SeqAt.in_list_reads (.list I rfl rfl (r1)) r2 l1.1 L.1 M (by rw[O];exact q)
 .exact SeqAt.notIn_list_reads (.list I rfl rfl (r1)) r2 l1.1 L.1 M (by rw[O];exact q)
 .exact SeqAt.in_tuple_reads (.tuple I rfl rfl (r1)) r2 l1.1 L.1 M (by rw[O];exact q)
 .exact SeqAt.notIn_tuple_reads (.tuple I rfl rfl (r1)) r2 l1.1 L.1 M (by rw[O];exact q)
abbrev zm(C:Cx)(B:Ro)(cs:ai CA)(s:a8)(c:By)(v w:D)(r:aA):Prop:=∀⦃a b:Yj⦄⦃A:ip⦄⦃Q X:Yj->a8->Prop⦄,A.units+100<Bz->Rd C.w.params cs (Sb B s.heap) v a->Rd C.w.params cs (Sb B s.heap) w b->(∀t,Q (.bool r) {s with toks:=t})->da (eg C.prog C.w) A (YR c a b) Q X s
theorem Jp{J K:Type}[e9 J][e9 K]{κ:KD C J K}{k:J}{c:D}{u:Yj}{j y:ai D}{p:ai kJ}{m:ak}{a:a7}{b:aA}(I:s.heap.get? a=Bc (bP p m))(r:cL C.w.params cs (Sb B s.heap) j y p)(L:(gT κ.f k j j).map (·.isSome)=Bc b)(M:κ.f c=Bc k)(O:Rd C.w.params cs (Sb B s.heap) c u)(l:(a==Gd)=Un)(i:By)(P:i=.In\/i=.NotIn)(d:∀U,Q (.bool (if i=.In then b else !b)) {s with toks:=U}):da (eg C.prog C.w) A (YR i u (.ref a)) Q X s:=by
 refine cJ (ZT I r L M O l) λf t v w=>?_
 rcases P with rfl|rfl
 .exact wpAny_in_of t l v (aa w (d _))
 .exact wpAny_notIn_of t l v (aa w (d _))
theorem IW(W:∃c,C.h₀.get? Gd=Bc c)(d:inD G.cells v w=Bc r)(I:Inv C F B H cs G s.heap)(k:By)(y:k=.In\/k=.NotIn):zm C B cs s k v w (if k=.In then r else !r):=λa b A Q X M J K f=>by
 cases w with
|list l=>obtain⟨a,O,m,rfl,L,t⟩:=K.ofList;exact Pj d M t J (.inl L.1) k y (f s.toks)
|u l=>obtain⟨a,O,m,rfl,L,t⟩:=K.oR;exact Pj d M t J (.inr L.1) k y (f s.toks)
|ref i=>
refine aj K.oK λp P Y=>?_
clear K;subst Y;refine aS (K5 d) λks O Z d=>bD (I.cells i _ p Z P) λca ro nd=>?_;clear nd P;cases ca with|dict U t hU=>haveI V:=yu I W (ro _ (.head _));cases v with|str j=>exact Jp (κ:=dS C) U t d rfl J V k y f|int j=>exact Jp (κ:=Hb C) U t d rfl J V k y f|_=>exact bh d
|_=>exact bh d
theorem NQ(a:gX v w=Bc b):zm C B cs s .Eq v w b/\zm C B cs s .NotEq v w (!b):=by
 refine bD (aaC a) λf i j=>?_
 constructor<;>intro c y A Q X p l m d<;>obtain⟨t,r⟩:=zh tU 8 _ _ f l<;>obtain⟨u,k⟩:=zh tU 8 _ _ i m
 .exact eq_dataH r k (qZ f) (qZ i) xy (aa (xP 8 v w f i) (aa j (d s.toks)))
 .exact ne_dataH r k (qZ f) (qZ i) xy (aa (xP 8 v w f i) (aa j (d s.toks)))
theorem KU(h:isNone d=D1):d=.none:=by cases d<;>first|rfl|exact no h
theorem uQ(K:∃c,C.h₀.get? Gd=Bc c)(d:lu G.cells L v w=Bc r)(I:Inv C F B H cs G s.heap):zm C B cs s L v w r:=by
 have t:∀{f:a0->a0->aA},(mI v λi=>mI w λj=>Bc (f i j))=Bc r->∃i j,v=.int i/\w=.int j/\f i j=r:=λh=>by refine aj (iI h) λi M h=>aj (iI h) λj p h=>gy i j M p (eF h)
 cases L with|Eq=>exact(NQ d).1|NotEq=>obtain⟨b,p,rfl⟩:=nI d;exact(NQ p).2|In=>exact IW K d I .In (.inl rfl)|NotIn=>obtain⟨b,p,rfl⟩:=nI d;exact IW K p I .NotIn (.inr rfl)|Is=>
refine cps λP u=>aj (dA d) λY J d=>u ?_;clear u P
clear t
refine aa (KU (bZ J).1) ?_;intro a b A Q X y l m k;exact aa m.AV (is_none (aa (HT l d) (k s.toks)))|IsNot=>refine cps λP u=>?_;clear t;refine aj (dA d) λY J d=>u ?_;clear u P;refine aa (KU (bZ J).1) (aj (nI d) λU p O=>?_);clear d;refine aD O ?_;intro a b A Q X y l m k;exact aa m.AV (isNot_none (aa (HT l p) (k s.toks)))|Lt=>obtain⟨i,j,rfl,rfl,rfl⟩:=t d;intro a b A Q X y l m k;obtain⟨_,rfl⟩:=l.ofInt;obtain⟨_,rfl⟩:=m.ofInt;exact apu (k s.toks)|LtE=>obtain⟨i,j,rfl,rfl,rfl⟩:=t d;intro a b A Q X y l m k;obtain⟨_,rfl⟩:=l.ofInt;obtain⟨_,rfl⟩:=m.ofInt;exact auz (k s.toks)|Gt=>obtain⟨i,j,rfl,rfl,rfl⟩:=t d;intro a b A Q X y l m k;obtain⟨_,rfl⟩:=l.ofInt;obtain⟨_,rfl⟩:=m.ofInt;exact av0 (k s.toks)|GtE=>obtain⟨i,j,rfl,rfl,rfl⟩:=t d;intro a b A Q X y l m k;obtain⟨_,rfl⟩:=l.ofInt;obtain⟨_,rfl⟩:=m.ofInt;exact av2 (k s.toks)
end
theorem EC(h:bI (aN c f) l es=D1):∀{ops:ai By},lastMarks ops es=Un:=by
 apply U8 h
 .intro ops;cases ops with|nil=>rfl|cons a r=>cases r<;>rfl
 .intro x l e es h _ A ops;cases ops with|nil=>rfl|cons op ops=>
cases ops with
|nil=>cases es with|nil=>exact(I? h).2.2 op|cons C es=>exact A (ops:=[])
|cons B ops=>exact A (ops:=B::ops)
section
variable{C:Cx}{N:Env}{n:ak}{w:T->St->R}
variable{j:gn}{G ah:Ro}{F:ai Pl}{cs H:ai CA}{B:St}{s:a8}{Q X:Yj->a8->Prop}{A:ip}{h h':ff}
theorem nF.kh(a:nF C j G F cs s (.bool b) B Q)(I:Inv C j G F cs B s.heap):Q (.bool b) {s with toks:=tk}:=a G cs s.heap tk _ I (.refl _ _ _ _) (.refl _ _ _) (.bool b)
theorem mC.kh{Q:aA->a8->Prop}(a:mC C j G F cs s b B Q)(I:Inv C j G F cs B s.heap):Q b {s with toks:=tk}:=a G cs s.heap tk I (.refl _ _ _ _) (.refl _ _ _)
def xn(C:Cx)(n:ak)(c:TC)(p:Pos)(left:D)(d:ai By)(f:ai dt)(B:St)(b:aA)(i:St):Prop:=∀{A j G F cs}{s:a8}{a:Yj}{X:Yj->a8->Prop},bx C A (n+c.lv) c.hn->bq C j c F->Inv C j G F cs B s.heap->Rd C.w.params cs (Sb G s.heap) left a->(∀Q,nF C j G F cs s (.bool b) i Q->da (eg C.prog C.w) A (compareChain p a d (Lh f j)) Q X s)/\(∀Q,mC C j G F cs s b i Q->da (eg C.prog C.w) A (testChain p a d (Lh f j)) Q X s)
theorem SM(y:dz C)(J:bG C n w)(t:aN c f e m=D1)(K:w (.e e) B=.ok (.o (.sh d)) k)(L:lu k.cells P left d=Bc b):xn C n c U left [P] [m] B b k:=λ{A j G F cs s a X}r M I O=>⟨λQ p=>by
refine chain_last (J c f e m t B d _ K A j G F cs s _ _ r M I ?_)
intro V W Y Z v1 l i u v;exact uQ y.sm L l r.kH (O.mono i.cs i.st) v λtk=>(p.on i u).kh l,λQ p=>by refine test_last (J c f e m t B d _ K A j G F cs s _ _ r M I ?_);intro V W Y Z v1 l i u v;exact uQ y.sm L l r.kH (O.mono i.cs i.st) v λtk=>C8 ((p.on i u).kh l)⟩
theorem YG(v:dz C)(y:bG C n w)(t:aN c f e l=D1)(J:w (.e e) B=.ok (.o (.sh d)) i)(K:lu i.cells O left d=Bc Un):xn C n c P left (O::uA::U) (l::e3::es) B Un i:=λ{A j G F cs s a X}r L I M=>⟨λQ m=>by
refine chain_link (y c f e l t B d _ J A j G F cs s _ _ r L I ?_)
intro V W Y Z v1 k b p u;exact uQ v.sm K k r.kH (M.mono b.cs b.st) u λtk=>C8 ((m.on b p).kh k),λQ m=>by refine test_link (y c f e l t B d _ J A j G F cs s _ _ r L I ?_);intro V W Y Z v1 k b p u;exact uQ v.sm K k r.kH (M.mono b.cs b.st) u λtk=>C8 ((m.on b p).kh k)⟩
theorem acz(O:dz C)(P:bG C n w)(t:aN c f e u=D1)(U:w (.e e) B=.ok (.o (.sh d)) k)(V:lu k.cells Z left d=Bc D1)(W:xn C n c v d (uA::y) (e3::es) k b ag):xn C n c v left (Z::uA::y) (u::e3::es) B b ag:=λ{A j G F cs s a X}r p I Y=>⟨λQ J=>by
refine chain_link (P c f e u t B d _ U A j G F cs s _ _ r p I ?_)
intro aG aH K aQ v1 l i L m;exact uQ O.sm V l r.kH (Y.mono i.cs i.st) m λM=>C8 ((W (s:={s with heap:=K,toks:=M}) r p l m).1 Q (J.on i L)),λQ J=>by refine test_link (P c f e u t B d _ U A j G F cs s _ _ r p I ?_);intro aG aH K aQ v1 l i L m;exact uQ O.sm V l r.kH (Y.mono i.cs i.st) m λM=>C8 ((W (s:={s with heap:=K,toks:=M}) r p l m).2 Q (J.on i L))⟩
theorem JT(u:dz C)(v:bG C n w):∀{m:ai E}{k:ai dt},bI (aN c f) m k=D1->i.length=m.length->∀{left B p r},og w i left m B=.ok p r->∃b,p=.o (.sh (.bool b))/\xn C n c pos left i k B b r:=by induction i with|nil=>intro m k _ _ left B p r h;cases h|cons Z i U=>intro m k t l left B p r h;cases m with|nil=>cases h|cons a m=>cases k with|nil=>exact no t|cons e1 k=>obtain⟨y,I⟩:=iA t;refine aS (dW h) λd V J O=>aj (kO O) λb K L=>?_;have M:=SX l;have P:=uC I;clear t l O h;cases i with|nil=>clear I;obtain rfl:=List.length_eq_zero_iff.mp M.symm;obtain rfl:=List.length_eq_zero_iff.mp P.symm;obtain⟨rfl,rfl⟩:=qh L;exact aF b rfl (SM u v y J K)|cons uA i=>cases k with|nil=>exact aL (M.trans P) (jp _)|cons e3 k=>cases b with|false=>obtain⟨rfl,rfl⟩:=qh L;exact aF Un rfl (YG u v y J K)|true=>refine aj (U I M L) λb W Y=>aF b W (acz u v y J K Y)
theorem uJ(K:dz C)(k:bG C n w)(a:E)(i:ai By)(L:ai E):dy C N n w (.p a i L):=by intro c f py d B sl ag m;refine vA d λl r t p M=>?_;clear d;rename _=D1=>d;simp only[ji,bl]at d;obtain⟨⟨⟨rfl,O⟩,P⟩,u⟩:=d;refine aS (dW m) λU st1 V v=>aj (JT K k (pos:=p) u (rx O) v) λb W Y=>?_;intro A j G F cs s Q X y J I Z;clear m v;obtain rfl:=bp.o.inj W;show da _ A (do compareChain p (<-jM l j) r (markedEach r t (Lh t j))) Q X s;refine aa (ο _ _ _ (EC u)) (ct (k c f a l P B U st1 V A j G F cs s _ _ y J I ?_));intro aG aH bo aQ v1 I1 g1 k1 r1;exact(Y y J I1 r1).1 _ (Z.on g1 k1).sh
def TG(C:Cx)(n:ak)(c:TC)(p:dt)(B:St)(b:aA)(a:St):Prop:=∀A j G F cs(s:a8)Q X,bx C A (n+c.lv) c.hn->bq C j c F->Inv C j G F cs B s.heap->mC C j G F cs s b a Q->da (eg C.prog C.w) A (GZ p j (jM p j)) Q X s
def xZ(C:Cx)(n:ak)(w:T->St->R)(d:E->St->R)(a:E):Prop:=∀(c:TC)(f:ak)(p:dt),aN c (f+1) a p=D1->∀B b i,d a B=.ok (.o (.sh (.bool b))) i->TG C n c p B b i
theorem fX(y:dz C)(k:bG C n w)(a:E)(i:ai By)(J:ai E):xZ C n w (jD N w) (.p a i J):=by intro c f py d B b ag K;refine vA d λl m r p L=>?_;clear d;rename _=D1=>d;simp only[ji,bl]at d;obtain⟨⟨⟨rfl,M⟩,O⟩,t⟩:=d;refine aS (dW K) λP st1 U V=>aj (JT y k (pos:=p) t (rx M) V) λb W Y=>?_;intro A j G F cs s Q X u v I Z;cases W;show da _ A (do testChain p (<-jM l j) m (markedEach m r (Lh r j))) Q X s;refine aa (ο _ _ _ (EC t)) (ct (k c f a l O B P st1 U A j G F cs s _ _ u v I ?_));intro aG aH bo aQ v1 I1 g1 k1 r1;exact(Y u v I1 r1).2 _ (Z.on g1 k1)
def TR(C:Cx)(n:ak)(c:TC)(p:Pos)(a:E2)(b:ai dt)(B:St)(d:D)(f:St):Prop:=∀{A j G F cs}{s:a8}{Q X},bx C A (n+c.lv) c.hn->bq C j c F->Inv C j G F cs B s.heap->nF C j G F cs s d f Q->da (eg C.prog C.w) A (boolOp p a (Lh b j)) Q X s
theorem adh{c:aA}(h:da M A (jM a j) (λv i=>∃b,v=.bool b/\da M A (match halt f b with|true=>pure v|false=>boolOp p f (Lh (k::es) j)) Q X i) X s):da M A (boolOp p f (Lh (a::k::es) j)) Q X s:=by refine ct (nL h ?_ λY Y d=>d);rintro v i⟨b,rfl,h⟩;refine ct (wz (ct (wq (C8 ?_))));cases f<;>cases b<;>exact h
theorem ac7(W:bG C n w):∀{k:ai dt},bI (aN c f) l k=D1->∀{B p J},AM w L l B=.ok p J->∃d,p=.o (.sh d)/\TR C n c pos L k B d J:=by induction l with|nil=>intro k _ B p J h;cases h|cons a l hO=>intro k t B p J h;cases k with|nil=>exact no t|cons i k=>obtain⟨Y,O⟩:=iA t;clear t;cases l with|nil=>refine aa (List.length_eq_zero_iff.mp (uC O).symm) (aS (dW h) λd K M v=>?_);clear h;obtain⟨rfl,rfl⟩:=qh v;exact aF d rfl (λ{A j G F cs s Q X}r m I u=>W c f a i Y B d _ M A j G F cs s _ _ r m I u)|cons y l=>cases k with|nil=>exact no O|cons e2 k=>
refine aS (qg h) λb K M v=>?_
haveI P:∃d,p=.o (.sh d)/\∀{A j G F cs}{s:a8}{Q X},bx C A (n+c.lv) c.hn->bq C j c F->Inv C j G F cs K s.heap->nF C j G F cs s d J Q->da (eg C.prog C.w) A (match halt L b with|true=>pure (.bool b)|false=>boolOp pos L (Lh (e2::k) j)) Q X s:=by clear M h;cases Z:halt L b with|true=>rw[Z]at v;obtain⟨rfl,rfl⟩:=qh v;exact aF _ rfl (λ{A j G F cs s Q X}r m I u=>gP (u.kh I))|false=>rw[Z]at v;refine aj (hO O v) λd U V=>aF d U (λ{A j G F cs s Q X}r m I u=>V r m I u)
refine aj P λd U V=>aF d U (λ{A j G F cs s Q X}r m I u=>adh (c:=b) (W c f a i Y B _ _ M A j G F cs s _ _ r m I ?_));intro aG aH bo aQ v1 I1 g1 k1 r1;exact aF b r1.ofBool (aa r1.ofBool (V r m I1 (u.on g1 k1)))
theorem W9(k:bG C n w)(m:E2)(l:ai E):dy C N n w (.bj m l):=by intro c f L b B M O i;refine Jt b λa P p r=>?_;clear b;rename _=D1=>b;simp only[ji,bl]at b;obtain⟨rfl,t⟩:=b;refine aj (ac7 k (pos:=p) t (show AM w a l B=_ from i)) λd u v=>?_;intro A j G F cs s Q X y J I K;clear i;obtain rfl:=bp.o.inj u;exact v y J I K.sh
def Kn(C:Cx)(n:ak)(c:TC)(a:E2)(d:ai dt)(B:St)(b:aA)(f:St):Prop:=∀{A j G F cs}{s:a8}{Q X},bx C A (n+c.lv) c.hn->bq C j c F->Inv C j G F cs B s.heap->mC C j G F cs s b f Q->da (eg C.prog C.w) A (allTrue a d j) Q X s
theorem aaZ(V:gF C n w):∀{i:ai dt},bI (aN c f) l i=D1->∀{B b p},Bb w k l B=.ok (.o (.sh (.bool b))) p->Kn C n c k i B b p:=by induction l with
|nil=>intro i t B b p h;cases i with|cons _ _=>exact no t|nil=>
intro A j G F cs s Q X u v I m
cases k<;>cases h
.exact wpAny_allTrue_And_nil (m.kh I)
.exact wpAny_allTrue_Or_nil (m.kh I)
|cons a l Z=>intro i t B b p h;cases i with|nil=>exact no t|cons d i=>
obtain⟨W,tb⟩:=iA t
obtain⟨r,y,P,J⟩:=qg h
haveI K:(halt k r=D1/\r=b/\p=y)\/(halt k r=Un/\Kn C n c k i y b p):=by clear P;cases Y:halt k r with|true=>rw[Y]at J;cases J;exact .inl ⟨rfl,rfl,rfl⟩|false=>rw[Y]at J;exact .inr ⟨rfl,Z tb J⟩
intro A j G F cs s Q X u v I m
clear J h;cases k with
|And=>
refine wpAny_allTrue_And_cons (V c f a d W B _ _ P A j G F cs s _ _ u v I ?_)
intro aG aH bo U L M O
rcases K with⟨hr,rfl,rfl⟩|⟨hr,go⟩
.cases r<;>first|exact(m.on (M:=U) M O).kh L|exact no hr
.cases r<;>first|exact go u v L (m.on M O)|exact no hr.symm
|Or=>
refine wpAny_allTrue_Or_cons (V c f a d W B _ _ P A j G F cs s _ _ u v I ?_)
intro aG aH bo U L M O
rcases K with⟨hr,rfl,rfl⟩|⟨hr,go⟩
.cases r<;>first|exact no hr|exact(m.on (M:=U) M O).kh L
.cases r<;>first|exact no hr.symm|exact go u v L (m.on M O)
theorem R3(i:gF C n w)(k:E2)(l:ai E):xZ C n w (stepT w) (.bj k l):=by intro c f J d B b K m;refine Jt d λa L p r=>?_;clear d;rename _=D1=>d;simp only[ji,bl]at d;obtain⟨rfl,t⟩:=d;intro A j G F cs s Q X u v I y;exact wpAny_isTrue_BoolOp (aaZ i t (show Bb w a l B=_ from m) u v I y)
theorem yM(p:gF C n w)(a:E):xZ C n w (stepT w) (.nt a):=by intro c f W l B b Y m;refine wj l λr v t k=>?_;clear l;refine aU (iA k) λu l=>?_;clear k;obtain rfl:r=.Not:=hQ u;refine aS (qg (show((w (.t a) B).bindB λb B=>vB (!b) B)=_ from m)) λd y J K=>?_;intro A j G F cs s Q X L M I O;clear m;cases K;refine wpAny_isTrue_Not (p c f a v l B _ _ J A j G F cs s _ _ L M I ?_);intro ah H h' P U i V;exact(O.on (M:=P) i V).kh U
theorem aah{S:a7->Obj->Prop}(p:C.fk k=D1):∀{i:ai ak}{l:ai D}{m:ai kJ}{d:D},eX C cs S i l m->lK k i l=Bc d->∃b,m.find? (·.key.isStr (C.nm k))=Bc b/\Rd C.w.params cs S d b.val:=by intro i l m d c;induction c with|nil=>exact bh|@cons n y t v i l m a I r u=>
intro h
replace h:(if n=k then Bc y else lK k i l)=Bc d:=h
refine aa (v?) ?_
by_cases b:n=k
.clear p u
 subst b
 rw[eI rfl]at h
 refine aD (eF h) ?_
 haveI :ci (.str (C.nm n) t) (C.nm n)=D1:=by simp[ci]
 exact aa this (aF _ rfl I)
.rw[ej b]at h
 haveI J:ci (.str (C.nm n) t) (C.nm k)=Un:=by
  show(C.nm n==C.nm k)=Un
  rw[hA];exactλf=>b (C.Cq _ _ a p f)
 exact aa J (u h)
theorem ac1{S:a7->Obj->Prop}(b:C.fk k=D1)(r:eX C cs S ns c es)(h:lK k ns c=Bc d):∃v,lookIn (C.nm k) (bP es m)=Bc (Bc v)/\Rd C.w.params cs S d v:=by refine aj (aah b r h) λa f i=>aF a.val ?_ i;unfold lookIn;dsimp only;exact aa f rfl
theorem Iz{S:a7->Obj->Prop}(a:pH d=Bc b)(r:Rd C.w.params cs S d v):b=d/\handedIn v=D1:=by
 refine⟨?_,?_⟩
 .clear r;cases d<;>first|exact(eF a).symm|exact bh a
 .cases r<;>first|rfl|exact bh a
section
set_option tactic.hygienic true
theorem yO(L:dz C)(ih:bG C n w)(a:E)(k:ak):dy C N n w (.bw a k):=by intro c f py J B sl ag Z;refine pP J λv d pos h_1=>?_;clear J;rename _=D1=>J;simp only[ji]at J;refine cps λP_ k_=>?_;obtain⟨⟨⟨t0,t1⟩,t2⟩,M⟩:=J;refine aS (dW Z) λd1 st1 h1 y=>k_ ?_;clear k_ P_;intro A j G F cs s Q X rm O I ok;haveI hx:d=C.nm k:=aD O.nm (beq_iff_eq.mp t2);have hk:C.fk k=D1:=aD O.fk t1;clear t2 Z;refine aa hx ?_;revert M;refine Sm t0 λnm np M=>?_;clear t0;refine aj (ym y) λi Su y=>?_;subst Su;refine so (HQ y) λcl ns vs hc y=>cJ (AR y) λd3 l T1 XY=>?_;clear y;subst T1;clear y;clear y;obtain rfl:=XY.symm;refine aj (dA l) λd0 hf l=>Attribute_name (ih c f a _ M B _ _ h1 A j G F cs s _ _ rm O I ?_);intro aG aH bo aQ v1 P g1 k1 r1;refine aj r1.oK λp fK U=>?_;clear r1;subst U;cases cellK (s:={s with heap:=bo,toks:=aQ}) P fK hc with|inst V ho hd rf=>rename_i a dx K es m;refine aj (ac1 (m:=m) hk rf hf) λu hu ru=>aU (Iz l ru) λY e2=>?_;clear hf l;subst Y;haveI dI:C.K.In bo:=λb r t=>P.tok b r (L.dI b r t);refine aj (any_some (L.hd _ _ V)) λcd FO jU=>get_value (od:=Bc (bP es m)) dI ⟨ho,rfl,rfl,hd⟩ (L.ga _ _ V) ?_ e2 ((ok.on g1 k1).val P ru);unfold WR;rw[FO,PA,L.fd _ _ _ V hk,PA];dsimp only[PA];unfold W.ownOf;refine aa jU (aa (eI rfl) ?_);dsimp only;exact aa hu rfl
end
end
section
variable{C:Cx}{f:gn}{d A:Ro}{t:ai Pl}{cs cs':ai CA}{u ag:St}{h l:ff}
theorem Inv.Fi{B:ai a7}(I:Inv C f d t cs u h)(g:Go C aR d bJ cs h₀ h)(t0:aR C.tab=Bc .f)(c0:∀x c b,Pl.cell x c b∈t->b=D1->aR c=Bc .f)(f0:F0 C aR)(P:t[i]?=Bc p)(hv:dB f h p (Bc v))(W:h.objs.size<=l.objs.size)(F:∀a o,h.get? a=Bc o->d a≠Bc (.o i)->l.get? a=Bc o)(B9:dh C.w.params C.bad cs (Sb d h) l sl B (Bc v))(G:∀a∈B,a<l.objs.size/\(d a=Bc (.o i)\/(d a=Bc .f/\aR a=VG)\/h.objs.size<=a))(nd:B.Nodup):Inv C f (d.give B i) t cs ⟨u.l.set i sl,u.cells⟩ l/\Go C aR (d.give B i) bJ cs h₀ l/\cy f t h l:=by
 have Cr:∀a,h.objs.size<=a->d a=VG:=λa e=>by cases q:d a with|none=>rfl|some r=>exact aL (I.lt a (aa q (yf _))) (Nat.not_lt.mpr e)
 have L:∀a r,d a=Bc r->r≠.o i->(r=.f->aR a≠VG)->a∉B:=λa r e n X m=>by
  rcases(G a m).2 with q|⟨q,q2⟩|q
  .clear X;rw[q]at e;cases e;exact n rfl
  .clear n;rw[q]at e;cases e;exact X rfl q2
  .rw[Cr a q]at e;cases e
 have Q:cy f t h l:=λq m U x=>x.keep (C:=C) (λy e=>.fh λo z=>F _ o z (by rw[I.locs y (e▸m)];simp)) λy c b e=>.fh λo z=>F _ o z (by subst e;rcases I.eT y c b m with k|k<;>(rw[k.2];simp))
 have sb:∀a o,Sb d h a o->Sb (d.give B i) l a o:=λa o x=>⟨F a o x.1 (by rw[x.2];simp),Ro.uq (λm=>by
rcases(G a m).2 with q|⟨q,_⟩|q
.rw[x.2]at q;cases q
.rw[x.2]at q;cases q
.exact aL (ib x.1) (Nat.not_lt.mpr q)) x.2⟩
 have M:∀a r,d a=Bc r->r≠.f->r≠.o i->d.give B i a=Bc r:=λa r e n Z=>by exact aa (Ro.mn (L a r e Z λq=>aL q n) (by rw[e];simpa using Z)) e
 have N:∀a,aR a=Bc .f->d.give B i a=Bc .f:=λa e=>by exact aa (Ro.mn (L a .f (g.kp a e).1 wg λY=>aa e (yf _)) (by rw[(g.kp a e).1];simp)) ((g.kp a e).1)
 have J:∀a,d a=Bc .sc->d.give B i a=Bc .sc:=λa e=>M a _ e JF wB
 refine cV ⟨λa e=>?_,λa o e=>?_,?_,N _ t0,?_,I.d9,λj q s H K=>?_,λj c q hc H=>?_,λa j e=>?_,I.names,λx m=>J _ (I.locs x m),λx c b m=>?_,I.je,I.fW,λe m=>(I.eS e m).step I.tab (λa q z=>⟨?_,λY=>.fh λo z=>F a o z (aa q (by simp))⟩) λa q=>⟨.inr (J a q),tD λo z=>F a o z (aa q (by simp))⟩⟩ ?_ Q
 .by_cases m:a∈B
  .exact(G a m).1
  .refine nB (I.lt a λq=>e ?_) W;exact Ro.uq m q
 .obtain⟨e1,e2⟩:=I.base a o e;exact sb a o ⟨e1,e2⟩
 .refine aj I.tab λvs e q=>aF vs (F _ _ e (aa I.cM (by simp))) (q.mono sb)
 .simp[I.dH]
 .by_cases O:j=i
  .clear J M G L N F
   subst O
   rw[P]at H;cases H
   haveI :s=sl:=by haveI hl:j<u.l.length:=aa I.dH ((List.getElem?_eq_some_iff.mp P).1);rw[UQ hl]at K;exact(eF K).symm
   clear K;refine aD this.symm (hY B (Bc v) (Q p (mD P) _ hv) (B9.keep (.refl _) sb λY Y Y e=>e) (λa m=>Ro.BA m) nd)
  .rw[Uz (ng O)]at K;refine fN (I.vars j q s H K) λya U w x r V=>hY ya U (Q q (mD H) U w) (x.keep (.refl _) sb λa m o z=>F a o z (aa (r a m) (by simpa using O))) (λa m=>M a _ (r a m) Bh (by simpa using O)) V
 .refine bD (I.cells j c q hc H) λx r V=>cV (x.keep (.refl _) sb λa m o z=>F a o z (aa (r a m) (by simp))) (λa m=>M a _ (r a m) GC BG) V
 .by_cases m:a∈B
  .rw[Ro.BA m]at e;cases e
  .by_cases n:d a=Bc (.o i)
   .rw[Ro.KO m n]at e;cases e
   .rw[Ro.mn m n]at e;exact I.gG a j e
 .rcases I.eT x c b m with q|q
  .exact .inl ⟨q.1,J _ q.2⟩
  .exact .inr ⟨q.1,N _ (c0 x c b m q.1)⟩
 .exact aa (Ro.mn (L a .f q wg λY=>f0 e m a z) (by rw[q];simp)) q
 .exact⟨g.cs,λa o x=>sb a o (g.st a o x),λa e=>⟨N a e,λn=>((g.kp a e).2 n).trans (.fh λo z=>F a o z (aa ((g.kp a e).1) (by simp)))⟩,λa e=>J a (g.sc a e),gY g.sz W⟩
theorem Inv.Bd(I:Inv C f d t cs u h)(O:cs[j]?=Bc p)(U:h.objs.size<=l.objs.size)(J:∀a v,h.get? a=Bc v->d a≠Bc (.cell j)->l.get? a=Bc v)(X:gE C cs (Sb d h) l c p):Inv C f d t cs ⟨u.l,u.cells.set j c⟩ l/\Go C d d cs cs h l/\cy f t h l:=by
 have V:cy f t h l:=λB m P F=>F.keep (C:=C) (λy G=>.fh λv H=>J _ v H (by rw[I.locs y (G▸m)];simp)) λy c b G=>.fh λv H=>J _ v H (by
clear F
subst G;rcases I.eT y c b m with k|k<;>(rw[k.2];simp))
 have K:∀a v,Sb d h a v->Sb d l a v:=λa v F=>⟨J a v F.1 (aa F.2 (by simp)),F.2⟩
 haveI W:j<u.cells.length:=aa I.d9 ((List.getElem?_eq_some_iff.mp O).1)
 refine cV ⟨λa G=>nB (I.lt a G) U,λa v G=>?_,?_,I.cM,I.dH,?_,λi B s L Z=>?_,λi c' B N L=>?_,I.gG,I.names,I.locs,I.eT,I.je,I.fW,λG m=>(I.eS G m).step I.tab (λa B Y=>⟨B,λY=>.fh λv H=>J a v H (aa B (by simp))⟩) λa B=>⟨.inr B,tD λv H=>J a v H (aa B (by simp))⟩⟩ ⟨.refl _,K,λa G=>⟨G,λY=>.fh λv H=>J a v H (aa G (by simp))⟩,λa G=>G,U⟩ V
 .refine aU (I.base a v G) λe1 e2=>K a v ⟨e1,e2⟩
 .refine aj I.tab λvs G B=>aF vs (J _ _ G (aa I.cM (by simp))) (B.mono K)
 .simp[I.d9]
 .refine fN (I.vars i B s L Z) λos P w F r M=>hY os P (V B (mD L) P w) (F.keep (.refl _) K λa m v H=>J a v H (aa (r a m) (by simp))) r M
 .by_cases Q:i=j
  .clear J
   subst Q
   rw[O]at L;cases L
   rw[UQ W]at N
   refine aD (eF N) (bD (I.cells i _ p (ma W) O) λF r M=>?_);exact cV (X.keep (.refl _) K λY Y Y G=>G) r M
  .rw[Uz (ng Q)]at N;refine bD (I.cells i c' B N L) λF r M=>cV (F.keep (.refl _) K λa m v H=>J a v H (aa (r a m) (by simpa using Q))) r M
theorem Inv.GY(I:Inv C f d t cs u h)(g:Go C aR d bJ cs h₀ h)(P:aR C.tab=Bc .f)(c0:∀x c b,Pl.cell x c b∈t->b=D1->aR c=Bc .f)(f0:F0 C aR)(B:∀a o,h.get? a=Bc o->a∉p.all->l.get? a=Bc o)(Q:h.objs.size<=l.objs.size)(J:∀a∈p.all,a<l.objs.size/\((d a=Bc .f/\aR a=VG)\/h.objs.size<=a))(K:p.all.Nodup)(Z:gE C (cs++[p]) (Sb d h) l c p):Inv C f (d.plus p.all (.cell cs.length)) t (cs++[p]) ⟨u.l,u.cells++[c]⟩ l/\Go C aR (d.plus p.all (.cell cs.length)) bJ (cs++[p]) h₀ l/\cy f t h l:=by
 have v:∀a,h.objs.size<=a->d a=VG:=λa e=>by cases q:d a with|none=>rfl|some r=>exact aL (I.lt a (aa q (yf _))) (Nat.not_lt.mpr e)
 have F:∀a r,d a=Bc r->(r=.f->aR a≠VG)->a∉p.all:=λa r e n m=>by
  rcases(J a m).2 with⟨q,q2⟩|q
  .rw[q]at e;cases e;exact n rfl q2
  .rw[v a q]at e;cases e
 have G:∀a r,d a=Bc r->(r=.f->aR a≠VG)->d.plus p.all (.cell cs.length) a=Bc r:=λa r e n=>aa (Ro.eP (F a r e n)) e
 have M:∀a,aR a=Bc .f->d.plus p.all (.cell cs.length) a=Bc .f:=λa e=>G a .f (g.kp a e).1 λY=>aa e (by simp)
 have N:∀a,aR a=Bc .f->a∉p.all:=λa e=>F a .f (g.kp a e).1 λY=>aa e (by simp)
 haveI cl:fU cs (cs++[p]):=.app _ _
 have sb:∀a o,Sb d h a o->Sb (d.plus p.all (.cell cs.length)) l a o:=λa o x=>by
  have m:a∉p.all:=λm=>by
   rcases(J a m).2 with⟨q,_⟩|q
   .rw[x.2]at q;cases q
   .exact aL (ib x.1) (Nat.not_lt.mpr q)
  exact⟨B a o x.1 m,aa (Ro.eP m) x.2⟩
 have U:cy f t h l:=λq m O x=>x.keep (C:=C) (λy e=>.fh λo z=>B _ o z (F _ .sc (I.locs y (e▸m)) rR)) λy c b e=>.fh λo z=>B _ o z (by
clear x
subst e
rcases I.eT y c b m with k|k
.exact F _ .sc k.2 rR
.exact N c (c0 y c b m k.1))
 refine cV ⟨λa e=>?_,λa o e=>sb a o (I.base a o e),?_,M _ P,I.dH,by simp[I.d9],λi q s H dj=>?_,λi V q L H=>?_,λa j e=>?_,I.names,λx m=>G _ _ (I.locs x m) rR,λx c b m=>?_,I.je,I.fW,λe m=>(I.eS e m).step I.tab (λa q z=>⟨G a _ q λY=>f0 e m a z,λY=>.fh λo z2=>B a o z2 (F a _ q λY=>f0 e m a z)⟩) λa q=>⟨.inr (G a _ q rR),tD λo z=>B a o z (F a _ q rR)⟩⟩ ?_ U
 .by_cases m:a∈p.all
  .exact(J a m).1
  .rw[Ro.eP m]at e;exact nB (I.lt a e) Q
 .refine aj I.tab λvs e q=>aF vs (B _ _ e (N _ P)) (q.mono sb)
 .refine fN (I.vars i q s H dj) λos O w x r K=>hY os O (U q (mD H) O w) (x.keep cl sb λa m o z=>B a o z (F a _ (r a m) Nd)) (λa m=>G a _ (r a m) Nd) K
 .by_cases W:i<cs.length
  .rw[Lv W]at H
   rw[Lv (by rw[I.d9];exact W)]at L;refine bD (I.cells i V q L H) λx r K=>cV (x.keep cl sb λa m o z=>B a o z (F a _ (r a m) Mx)) (λa m=>G a _ (r a m) Mx) K
  .haveI X:=(List.getElem?_eq_some_iff.mp H).1
   simp only[lk,aqu]at X
   haveI :i=cs.length:=q30
   clear X
   subst this
   simp only[apv,pu]at H
   subst H
   haveI yz:V=c:=by rw[<-I.d9]at L;simpa using L.symm
   clear L;refine aD yz.symm (cV (Z.keep (.refl _) sb λY Y Y e=>e) (λa m=>Ro.fo m) K)
 .by_cases m:a∈p.all
  .rw[Ro.fo m]at e;cases e;exact aF p (by simp) m
  .rw[Ro.eP m]at e;refine aj (I.gG a j e) λq e1 e2=>aF q (cl _ _ e1) e2
 .rcases I.eT x c b m with q|q
  .exact .inl ⟨q.1,G _ _ q.2 rR⟩
  .exact .inr ⟨q.1,M _ (c0 x c b m q.1)⟩
 .exact⟨g.cs.trans cl,λa o x=>sb a o (g.st a o x),λa e=>⟨M a e,λn=>((g.kp a e).2 n).trans (.fh λo z=>B a o z (N a e))⟩,λa e=>G a _ (g.sc a e) rR,gY g.sz Q⟩
theorem Inv.c0(I:Inv C f d t cs u h):∀a c b,Pl.cell a c b∈t->b=D1->d c=Bc .f:=λa c b m i=>by
 rcases I.eT a c b m with j|j
 .rw[j.1]at i;cases i
 .exact j.2
theorem Inv.Js(I:Inv C f d t cs u h)(k:∀a b,h.get? a=Bc b->l.get? a=Bc b)(s:h.objs.size<=l.objs.size)(j:∀a∈p.all,h.objs.size<=a/\a<l.objs.size)(r:p.all.Nodup)(w:gE C (cs++[p]) (Sb d h) l c p):Inv C f (d.plus p.all (.cell cs.length)) t (cs++[p]) ⟨u.l,u.cells++[c]⟩ l/\Go C d (d.plus p.all (.cell cs.length)) cs (cs++[p]) h l/\cy f t h l:=I.GY (.refl _ _ _ _) I.cM I.c0 I.f0 (λa b i Y=>k a b i) s (λa m=>⟨(j a m).2,.inr (j a m).1⟩) r w
theorem Inv.v5(I:Inv C f d t cs u h)(y:t[i]?=Bc p)(B:dB f h p (Bc (.ref a)))(s:d a=Bc (.o i))(v:MJ a h l)(w:l.get? a=Bc (bc F H))(G:aC C.w.params cs (Sb d h) l' F):∃A,Inv C f A t cs ⟨u.l.set i (.o l'),u.cells⟩ l/\Go C d A cs cs h l/\cy f t h l:=⟨_,I.Fi (.refl _ _ _ _) I.cM I.c0 I.f0 y B (mu v.1.symm) (λb c j k=>(v.2 b λr=>k (r▸s)).trans j) (.o w G) (λb m=>by haveI :b=a:=hX.mp m;clear m;refine aD this.symm ?_;exact⟨ib w,.inl s⟩) iU⟩
end
theorem MY(l:ai D):mK l []=l.isEmpty:=by cases l<;>rfl
theorem KZ(C:Cx)(i:e8):eD C (.builtin i):=λY Y=>aF .machine (.inr (.inl rfl)) (Tj rfl)
section
variable{C:Cx}{N:Env}{n:ak}{u:T->St->R}
variable{j:gn}{F H:Ro}{G:ai Pl}{cs cs':ai CA}{w:St}{s:a8}{X:Yj->a8->Prop}{A:ip}{h B:ff}
theorem JH(b:aA):(b !=D1)=!b:=by cases b<;>rfl
theorem Jm(b:aA):(b !=Un)=b:=by cases b<;>rfl
theorem uF(P:bq C j c G)(I:Inv C j F G cs w s.heap)(t:c.bN i x=D1)(U:w.l[i]?=Bc (.o l))(y:dat 8 (.list l)=D1)(hu:A.units+100<Bz)(d:∀V B,(∀a f,s.heap.get? a=Bc f->B.get? a=Bc f)->s.heap.objs.size<=B.objs.size->Q (.bool (l.isEmpty !=v)) {s with heap:=B,toks:=V}):da (eg C.prog C.w) A (jM (.Name x uY) j) (λa W=>da (eg C.prog C.w) A (jM (.List [] uM) j) (λb Y=>da (eg C.prog C.w) A (YR (if v then .NotEq else .Eq) a b) Q X Y) X W) X s:=by
 refine kW (j0 I U) λp a vs m Z e2 e3 e4 e5=>eJ P t Z e2 (am (SF ⟨aa l3 (by decide),?_⟩))
 haveI jc:l.all (dat 7)=D1:=y
 refine eE (E3 tU _ jc e4) λas ra=>?_
 haveI k:=cn s.heap (bc [] 0)
 haveI J:Ld (s.heap.push (bc [] 0)) (.ref a) (.list (fD l)) (a::as):=V! k (.list e3 rfl rfl (ra))
 haveI K:Ld (s.heap.push (bc [] 0)) (.ref s.heap.objs.size) (.list []) [s.heap.objs.size]:=.list (kK _ rfl) rfl rfl (by simpa using asj)
 haveI L:SS (.list (fD l))=D1:=qZ y
 haveI M:SS (.list [])=D1:=qZ (d:=.list []) rfl
 haveI O:R8 (.list (fD l)) (.list [])=l.isEmpty:=by exact(xP 8 (.list l) (.list []) y rfl).trans (MY l)
 haveI r:=d s.toks _ k (dY _ _);cases v with|true=>refine ne_dataH J K L M xy (aa O ?_);rw[JH]at r;exact r|false=>refine eq_dataH J K L M xy (aa O ?_);rw[Jm]at r;exact r
theorem nil_inv(h:jD N u (.isNil i c) w=.ok p d):∃l,w.l[i]?=Bc (.o l)/\dat 8 (.list l)=D1/\p=.o (.sh (.bool (l.isEmpty !=c)))/\d=w:=by refine aj (yq h) λl f h=>?_;obtain⟨k,h⟩:=ki h;obtain⟨a,b⟩:=qh h;exact zJ l f k a b
theorem ZY(i:ak)(y:aA):dy C N n u (.isNil i y):=by intro c f py d w sl ag J;refine vA d λl0 os rs K m=>?_;clear d;refine dD m λa p0 p=>?_;clear m;refine i1 p λb r=>?_;clear p;refine i1 r λr0 t=>?_;clear r;refine ub t λes q0 v=>?_;clear t;refine i0 v λd=>?_;clear v;simp only[ji,bl]at d;obtain⟨L,M⟩:=d;refine aa M (Bj (nil_inv J) λl O P U V=>?_);intro A j F G cs s Q X W Y I Z;clear J;cases U;subst V;exact wpAny_Compare1 (uF Y I L O P W.kH λtk B k sz=>Z.grown I k sz (.bool _)) rfl
theorem acE(i:ak)(J:aA):xZ C n u (jD N u) (.isNil i J):=by intro c f py m w b ag L;refine vA m λl0 os rs M p=>?_;clear m;refine dD p λa p0 r=>?_;clear p;refine i1 r λd t=>?_;clear r;refine i1 t λr0 v=>?_;clear t;refine ub v λes q0 y=>?_;clear v;refine i0 y λm=>?_;clear y;simp only[ji,bl]at m;obtain⟨O,P⟩:=m;refine aa P (Bj (nil_inv L) λl U V W Y=>?_);intro A j F G cs s Q X Z eo I ok;clear L;cases W;subst Y;exact B! (uF eo I O U V Z.kH λtk B k K=>C8 (ok F cs B tk (I.grow k K) (iz F cs k K) (iT I k K))) rfl
section
set_option tactic.hygienic true
theorem Hk(L:dz C){i:ak}(I:Inv C j F G cs w s.heap)(Z:cs[i]?=Bc p)(M:w.cells[i]?=Bc (.dict y vs))(O:fF dJ y=D1)(hu:A.units+100<Bz)(c:∀tk B,(∀a d,s.heap.get? a=Bc d->B.get? a=Bc d)->s.heap.objs.size<=B.objs.size->Q (.bool (y.isEmpty !=t)) {s with heap:=B,toks:=tk}):da (eg C.prog C.w) A (jM (.Dict [] [] pos) j) (λb lD=>da (eg C.prog C.w) A (YR (if t then .NotEq else .Eq) (.ref p.a) b) Q X lD) X s:=by refine bD (I.cells i _ p M Z) λca ro nd=>?_;cases ca with|dict ho rr hU=>
rename_i a es m
refine aj (En (κ:=dS C) ho rr O hU) λv J P=>S? ?_
haveI k:=cn s.heap (bP [] 0)
haveI U:=yu I L.sm (ro _ (.head _))
haveI V:(s.heap.objs.size==Gd)=Un:=by
 rw[hA]
 intro f
 refine eE L.sm λd hz=>?_
 haveI :=ib (I.base _ _ hz).1
 rw[f]at this;exact MR _ this
have K:(s.heap.push (bP [] 0)).DictOf (dS C).knd a v:=by refine so P λd nE ep h1 h2=>wm d nE ep (k _ _ h1) h2
haveI W:(s.heap.push (bP [] 0)).DictOf (dS C).knd s.heap.objs.size []:=(NN (bP [] 0) (#[]) 0 (kK _ rfl) ⟨rfl,rfl,rfl⟩ rfl (λf m=>by simp at m) .nil .nil)
haveI r:v.length=([]:ai (Str×Yj)).length->KeqHits A.in1 ({s with heap:=s.heap.push (bP [] 0)}:a8) [] v D1:=λf=>by clear J P K;cases v with|nil=>exact .nil|cons _ _=>simp at f
haveI Y:(v.length==([]:ai (Str×Yj)).length&&D1)=y.isEmpty:=by
 refine aa J.len ?_
 clear c J M O;cases y<;>rfl
haveI l:=c s.toks _ k (dY _ _);cases t with|true=>refine keq_ne U V K W q9 r (aa Y ?_);rw[JH]at l;exact l|false=>refine keq_eq U V K W q9 r (aa Y ?_);rw[Jm]at l;exact l
end
theorem PJ(h:jD N u (.jB a f) w=.ok p l):∃i k v,u (.e a) w=.ok (.o (.sh (.ref i))) l/\l.cells[i]?=Bc (.dict k v)/\fF dJ k=D1/\p=.o (.sh (.bool (k.isEmpty !=f))):=by refine aS (dW h) λd r t c=>aj (ym c) λi y c=>?_;subst y;refine cps λP m=>aS (C4 c) λk v I c=>?_;obtain⟨J,c⟩:=ki c;obtain⟨a,b⟩:=qh c;refine m ?_;clear m P;clear c;clear c h;refine aD b.symm (qj i k v t I J a)
theorem Xk(P:dz C)(U:bG C n u)(a:E)(J:aA):dy C N n u (.jB a J):=by intro c f py d w sl ag K;refine vA d λl os rs uM m=>?_;clear d;refine i1 m λb r=>?_;clear m;refine i1 r λr0 t=>?_;clear r;refine zR t λk0 v0 uY v=>?_;clear t;refine i0 v λy=>?_;clear v;refine i0 y λd=>?_;clear y;simp only[ji,bl]at d;obtain⟨V,W⟩:=d;subst W;refine wL (PJ K) λi ks vs Y Z hk hp=>?_;intro A j F G cs s Q X L eo I ok;clear K;obtain rfl:=bp.o.inj hp;refine wpAny_Compare1 (U c f a l V w _ _ Y A j F G cs s _ _ L eo I ?_) rfl;intro aG aH bo aQ v1 M g1 k1 O;refine aj O.oK λp fK Vg=>?_;clear O;subst Vg;exact Hk P M fK Z hk L.kH λtk B k sz=>(ok.on g1 k1).grown M k sz (.bool _)
theorem aes(Z:dz C)(ih:bG C n u)(a:E)(K:aA):xZ C n u (jD N u) (.jB a K):=by intro c f py m w b ag P;refine vA m λl os rs uM r=>?_;clear m;refine i1 r λd t=>?_;clear r;refine i1 t λr0 v=>?_;clear t;refine zR v λk0 v0 uY y=>?_;clear v;refine i0 y λJ=>?_;clear y;refine i0 J λm=>?_;clear J;simp only[ji,bl]at m;obtain⟨t1,t2⟩:=m;subst t2;refine wL (PJ P) λi ks vs h1 hc hk hp=>?_;intro A j F G cs s Q X U eo I ok;clear P;cases hp;refine B! (ih c f a l t1 w _ _ h1 A j F G cs s _ _ U eo I ?_) rfl;intro V W bo aQ v1 L g1 k1 Y;refine aj Y.oK λp fK M=>?_;clear Y;subst M;exact Hk Z L fK hc hk U.kH λtk B k O=>C8 ((ok.on g1 k1) V W B tk (L.grow k O) (iz V W k O) (iT L k O))
theorem TJ(L:kY C N n)(i:ak):dy C N n u (.ie i):=by intro c f py k w sl ag r;refine jm k λh0 es kw uM t=>?_;clear k;refine dD t λb TU v=>?_;clear t;refine i1 v λe0 y=>?_;clear v;refine dD y λd uY J=>?_;clear y;refine i0 J λk=>?_;clear J;simp only[ji]at k;obtain⟨O,P⟩:=k;refine aj (yq r) λl U r=>?_;obtain⟨V,r⟩:=ki r;obtain⟨rfl,rfl⟩:=gR r;haveI hz:=fS V;intro A j F G cs s Q X rm K I W;refine kW (j0 I U) λp a vs m Y Z e3 M e5=>Li rfl (qX L.dN K I O (aa K.kl L.gW.len) ?_);refine AI rfl (KZ C "len") (Lw (j! (eJ K P Y Z (SF ⟨I.tok,?_⟩)) rfl));refine api ⟨_,e3,rfl,m,rfl⟩ (aa lT (aa M.len uO)) (aa lT (aa M.len (W.val I (.int _ _))))
theorem IC{b:Type}{l:ai b}{a:b}(h:l.getLast?=Bc a):l=l.dropLast++[a]:=by obtain⟨y,rfl⟩:=List.getLast?_eq_some_iff.mp h;simp
theorem aC.dropLast{S:a7->Obj->Prop}(r:aC P cs S l v):aC P cs S l.dropLast v.dropLast:=by exact aa D? (aa D? (aa r.len (r.take _)))
theorem aC.last{S:a7->Obj->Prop}(r:aC P cs S l b)(a:l.getLast?=Bc d):∃v,b.getLast?=Bc v/\Rd P cs S d v:=by rw[WF]at a⊢;exact aa r.len (r.get a)
theorem acQ(i:ak):dy C N n u (.yc i):=by
 intro c f py L w sl ag K
 refine jm L λh0 es kw ps M=>?_;clear L
 refine pP M λk r ap O=>?_;clear M
 refine dD O λt TU P=>?_;clear O
 refine i0 P λU=>?_;clear P
 refine i0 U λL=>?_;clear U
 simp only[ji]at L
 obtain⟨⟨t0,t1⟩,t2⟩:=L
 haveI hg:=beq_iff_eq.mp t2
 clear t2
 refine aa hg (cps λP_ k_=>aj (yq K) λl hl K=>aj (kO K) λd GG K=>?_)
 obtain⟨gr,K⟩:=ki K
 refine k_ ?_;clear k_ P_
 obtain⟨rfl,rfl⟩:=gR K
 intro A j F G cs s Q X rm eo I ok
 refine kW (j0 I hl) λp a J m e1 e2 V W e5=>Call_method0 rfl t0 (eJ eo t1 e1 e2 ?_)
 refine pa ("list") ("list.pop") sB On aqc ⟨_,V,rfl⟩ (λb v=>by cases v;exact aF _ V rfl) ?_
 refine AI (P:=λY=>Cm) rfl (λY Y=>aF .machine (.inr (.inl rfl)) (Tj rfl)) (evalArgs_nil3 ⟨trivial,?_⟩)
 refine aj (W.last GG) λy Z ry=>?_
 haveI ev:=IC Z
 haveI hsz:J.length<=Ab:=aa W.len (aa l3 (by haveI :=fS gr;exact q0))
 haveI WY:J.toArray[J.toArray.size-1]?=Bc y:=by rw[WF]at Z;simpa using Z
 refine Zy On ⟨_,V,rfl⟩ aq5 (PySem.F.args_list_pop_1 _) (auo a J.toArray m y WY (hsz)) ⟨V,?_⟩
 haveI er:J.toArray.eraseIdxIfInBounds (J.toArray.size-1)=J.dropLast.toArray:=by
  haveI h1:J.toArray.size-1=J.dropLast.length:=by simp
  haveI h2:=kl_erase J.dropLast [] y;rw[<-ev,lH]at h2;exact aa h1 (aa h2 rfl)
 haveI ga:=Ln (f:=λxs=>xs.eraseIdxIfInBounds (J.toArray.size-1)) V;rw[er]at ga;refine cJ (I.v5 e1 e2 e5 (Ls ..) ga W.dropLast) λH I' g' k'=>ok H cs _ s.toks y [] I' g' k' (.sh (ry.mono (.refl _) g'.st)) nM .nil
end
theorem C5(h:Ga o=D1):attributeBase o name env w=w:=by
 cases o with
|Call a b k p=>cases a with
 |Name=>cases b with|cons=>rfl|nil=>cases k with|cons=>rfl|nil=>exact no h
 |_=>rfl
|_=>rfl
theorem Vi{c:Type}{l:ai (aA×c)}(h:l.any (·.1)=Un):l.all (!·.1)=D1:=by rw[lg];intro a m;rw[List.any_eq_false]at h;haveI :=h a m;cases b:a.1<;>simp_all
section
variable{C:Cx}{N:Env}{n:ak}{H:T->St->R}
variable{u:gn}{G L:Ro}{B:ai Pl}{cs F:ai CA}{w:St}{s:a8}{X:Yj->a8->Prop}{A:ip}{h J:ff}
theorem Uo(k:Ga o=D1)(m:(c.endLine==p.line)=D1)(r:(E5 p (yy es u)).any (·.1)=Un)(t:es.length<20)(a:da M A (jM o u) (λi j=>∀v,da M A (getMethod i name v) (λf l=>da M A (callWith p f.1 f.2 (E5 p (yy es u)) []) Q X l) X j) X s):da M A (jM (.Call (.Attribute o name c) es [] p) u) Q X s:=by
 rw[arm_eval_Call,C5 k]
 refine ct (nL a (λi j y=>?_) λY Y b=>b)
 refine ct (wz ?_)
 haveI d:methodCallForm (es.length+([]:ai Wi).length) (E5 p (yy es u)) (backToKw p (keywordEach [] u))=D1:=by unfold methodCallForm;exact aa (Vi r) (mM (nB t (by decide)))
 haveI I:methodCallPos D1 o u c p=pure p:=by unfold methodCallPos;simp[m]
 unfold methodCall;refine aa d (ct (wq (nL (y _) (λf l K=>?_) λY Y b=>b)));exact ct (bn I K)
section
set_option tactic.hygienic true
theorem YQ{S:a7->Obj->Prop}(l:∀k,C.fk k=D1->C.nm k≠name):∀{c:ai ak}{f:ai D}{b:ai kJ},eX C cs S c f b->lookIn name (bP b m)=Bc VG:=by
 haveI i:∀{c:ai ak}{f:ai D}{b:ai kJ},eX C cs S c f b->b.find? (·.key.isStr name)=VG/\b.any (·.refKey)=Un:=by intro c f b r;induction r with|nil=>exact⟨rfl,rfl⟩|cons a K r j=>
rename_i k d t v M O b
haveI p:ci (.str (C.nm k) t) name=Un:=by show(C.nm k==name)=Un;rw[hA];exact l k a
simp only[v?,qE,p,j.1,j.2,GE,true_and];rfl
 intro c f b r
 refine aU (i r) λy I=>?_;unfold lookIn;simp only[y,I,D9,hE]
end
theorem LH(h:um w r t=.ok (.o sl) O):∃v y,w.cells[r]?=Bc (.dict v y)/\O=w/\((∃c f,t=[.str c]/\gT dJ c v y=Bc f/\sl=.sh (f.getD .none))\/∃i j,t=[.u [.int i,.int j],.none]/\v=[]/\sl=.sh .none):=by refine aS (C4 h) λv y P h=>dm v y P ?_;cases t with|nil=>cases h|cons k t=>cases t with|nil=>refine aj (kS h) λc Q I=>aD Q.symm (aj (kO I) λf m p=>⟨(gR p).2,.inl (gy c f rfl m ((gR p).1))⟩)|cons d t=>cases t with|cons _ _=>cases h|nil=>obtain⟨U,I⟩:=ki h;refine aj (kT I) λl V p=>?_;clear I h;subst V;clear h;cases l with|nil=>cases p|cons a l=>cases l with|nil=>cases p|cons b l=>cases l with|cons _ _=>cases p|nil=>refine aj (kI p) λi W K=>?_;clear p;subst W;refine aj (kI K) λj Y Z=>?_;clear K;subst Y;obtain⟨rfl,M⟩:=kN Z;exact⟨(gR M).2,.inr (gy i j rfl (List.isEmpty_iff.mp U) ((gR M).1))⟩
theorem Xz(P:dz C)(I:Inv C u G B cs w s.heap)(U:cs[r]?=Bc p)(a:um w r ds=.ok (.o (.sh d)) V)(hu:A.units+100<Bz)(K:aC C.w.params cs (Sb G s.heap) ds W)(b:∀Y v,V=w->Rd C.w.params cs (Sb G s.heap) d v->Q v {s with toks:=Y}):da (eg C.prog C.w) A (call (.builtin "dict.get") (.ref p.a::W)) Q X s:=by
 refine dG (LH a) λks ws Z k hg=>bD (I.cells r _ p Z U) λca ro nd=>?_
 cases ca with|dict c M hU=>?_
 have O:=yu I P.sm (ro _ (.head _))
 rcases hg with⟨x,o,rfl,hd,hs⟩|⟨i,j,rfl,rfl,hs⟩
 .obtain rfl:=Slot.sh.inj hs
  refine dG K.iZ λvx vr l m t=>?_
  clear hs
  obtain rfl:=l.symm
  cases t.jf
  refine aj (C1 c M (GB (κ:=dS C) hd)) λaP kv mo=>?_
  haveI hx:(dS C).knd.is ((dS C).e x) vx=D1:=(dS C).rd rfl m
  haveI f:=kv.look hd
  clear hd a
  refine call_meetsIn F' ⟨_,c,rfl⟩ aq6 (PySem.F.args_dict_get_2 _ _) (meets_dict_get (dS C).knd _ hx O) (aF _ mo ?_);cases o with|none=>rw[f];exact b _ _ k .none|some d0=>obtain⟨v,f,rv⟩:=f;rw[f];exact b _ _ k rv
 .obtain rfl:=Slot.sh.inj hs
  refine dG K.iZ λv1 vr YH m t=>?_
  subst YH
  refine dG t.iZ λvd vn T2 r3 r4=>?_;subst T2;cases r4.jf;cases r3.AV;obtain⟨_,rfl⟩:=M.jf;refine mJ m.oR λat_ Gj m2 Ub sa ra=>?_;subst Ub;haveI y:=Gn (is:=[i,j]) sa.1 ra rfl;exact call_meetsIn F' ⟨_,c,rfl⟩ aq6 (PySem.F.args_dict_get_3 _ _ _) (meetsH_dict_get_default (Lm (Gb C.prog C.w)) _ _ O .none) ⟨ζ xy,[i,j],[],y,(NN _ _ _ c ⟨rfl,rfl,rfl⟩ rfl rfl (by simp) .nil),b _ _ k .none⟩
theorem aaJ(h:um w r ds=.ok (.o sl) b):∃d,sl=.sh d:=by obtain⟨_,_,_,_,⟨_,_,_,_,a⟩|⟨_,_,_,_,a⟩⟩:=LH h<;>exact⟨_,a⟩
section
set_option tactic.hygienic true
theorem yB(ih:bG C n H)(U:kY C N n)(a:E)(k:ak)(l:ai E):dy C N n H (.cH a k l):=by intro c f py Z w sl ag hr;refine jm Z λi es kw ps h_1=>?_;clear Z;refine pP h_1 λj t ap h_2=>?_;clear h_1;refine i0 h_2 λZ=>?_;clear h_2;simp only[ji,bl]at Z;refine cps λV P=>?_;obtain⟨⟨⟨⟨⟨⟨i6,t1⟩,t2⟩,t3⟩,t4⟩,t5⟩,t6⟩:=Z;refine P ?_;clear P V;intro A u G B cs s Q X rm eo I ok;haveI hx:t=C.nm k:=aD eo.nm (beq_iff_eq.mp t4);clear t4;refine aD hx.symm (aS (dW hr) λd1 st1 h1 O=>Uo t1 t2 (sL t6) t3 (ih c f a j t5 w d1 st1 h1 A u G B cs s _ _ rm eo I ?_));intro aG aH bo aQ v1 I1 g1 k1 r1 pl;replace O:=ym O;clear hr h1;obtain⟨r,rfl,O⟩:=O;refine aj r1.oK λp fK Tz=>?_;clear r1;subst Tz;cases hi:AD st1.cells[r]? with
|true=>rw[hi]at O;refine cps λV P=>so (HQ O) λcl ns vs hc O=>aj (kO O) λm hm O=>aS (Nj O) λds st2 h2 W=>P ?_;clear P V;refine aj (BP W) λbg Yx Zc=>?_;clear W O;obtain rfl:=Zc.symm;cases cellK (s:={s with heap:=bo,toks:=aQ}) I1 fK hc with|inst cZ ho hd rf=>
rename_i ca dx K nE mm
refine Bj (U.cH cl k m hm _ cZ) λfa f1 f2 f3 f4=>?_
haveI dI:C.K.In bo:=λb j y=>I1.tok b j (U.gW.dI b j y)
refine method_fn (od:=Bc (bP nE mm)) dI ⟨ho,rfl,rfl,hd⟩ (U.gW.ga _ _ cZ) (U.gW.gh _ _ cZ) f2 f3 (by unfold shadowIn;simp[YQ f4 rf]) ?_
refine cJ (U.call m _ _ _ _ Yx) λfv e1 e2 e3=>aa (eF (f1.symm.trans e1)) (AI (aa (sL t6) rfl) e2 (yX ih t6 h2 rm eo I1 ?_))
intro aI ax eZ bF Gj I2 g2 k2 r2;exact⟨I2.tok,call_in e3 (rm.less (zI _ _) λY=>i6) I2 (.cons (.ref (g2.cs _ _ fK)) r2) ((ok.on g1 k1).on g2 k2)⟩
|false=>
rw[hi]at O
refine cps λV P=>?_
obtain⟨ks,vs,hc,O⟩:=C4 O
obtain⟨hk,Mo⟩:=ki O
refine P ?_;clear P V
clear O
refine aa (rx hk) (cps λV P=>aS (mY Mo) λds st2 h2 W=>?_);refine P ?_;clear P V;clear Mo O;obtain⟨d,rfl⟩:=aaJ W;refine bD (I1.cells r _ p hc fK) λca ro nd=>?_;clear ro nd;cases ca with|dict ho rr hU=>refine aa U.get ?_;refine getMethod_builtin ⟨_,ho,rfl⟩ PySem.F.plainAttrs_dict F' PySem.F.type_dict_get (λb y=>by cases y;exact aF _ ho rfl) ?_;refine AI (P:=λY=>Cm) (aa (sL t6) rfl) (λY Y=>aF .machine (.inr (.inl rfl)) (Tj rfl)) (yX ih t6 h2 rm eo I1 ?_);intro aI ax eZ bF Gj I2 g2 k2 r2;refine⟨trivial,Xz U.gW I2 (g2.cs _ _ fK) W rm.kH r2 λtk v M rv=>?_⟩;clear W h2;subst M;exact((ok.on g1 k1).on g2 k2).val (s:={s with heap:=eZ,toks:=bF}) I2 rv
end
theorem Fv(ih:bG C n H)(P:kY C N n)(k m:ak)(a:E):dy C N n H (.T3 k m a):=by intro c f py j w sl ag Z;refine jm j λb es kw U l=>?_;clear j;refine dD l λi p r=>?_;clear l;refine i0 r λt=>?_;clear r;refine NK t λy v kp j=>?_;clear t;simp only[ji]at j;refine cps λP_ k_=>?_;obtain⟨⟨⟨⟨i6,t0⟩,t1⟩,t2⟩,t3⟩:=j;refine k_ ?_;clear k_ P_;intro A u G B cs s Q X rm M I ok;haveI hy:y=C.nm m:=aD M.nm (beq_iff_eq.mp t2);clear t2;refine aa hy (aS (dW Z) λd st1 h1 K=>?_);clear Z;obtain⟨V,K⟩:=ki K;refine aj (BP K) λbg hc Wy=>?_;clear K;clear K;subst Wy;refine cJ (P.T3 k m d _ _ _ hc V) λfv f1 f2 f3=>?_;haveI gv:=P.nC k fv f1 (aD M.gk t0);refine ct (qX P.dN M I t1 gv ?_);refine AI rfl f2 (evalArgs_kw2_nil rfl ?_);show da _ A (evalAll [do let v<-jM v u;Lg U;pure v]) _ X s;refine η (ct (ih c f a v t3 w d st1 h1 A u G B cs s _ _ rm M I ?_));intro aG aH bo aQ v1 O g1 k1 r1;refine ct (wz (gP (X? ⟨O.tok,?_⟩)));refine f3 A aG.out aH {s with heap:=bo,toks:=aQ} v1 u Q X (rm.less (zI _ _) λY=>i6) (O.outer u) (mh aG) (r1.mono (.refl _) λY Y=>lh) ?_;intro L F J tk v os I' b ro xx W nd;refine pF (O.back I' b ro) λi1 i2 i3 i4=>(ok.on g1 k1) _ _ _ _ _ os i1 i2 i3 (xx.back i4) (λa m=>⟨?_,(W a m).2⟩) nd;exact aa (Ro.mG (uX O (W a m).2)) ((W a m).1)
theorem aco(Y:bG C n H):∀{d:ai E}{i:ai (aw dt)}{p:ai dt},bI (λk a=>qy (aN c f) (Bc k) a) P i=D1->bI (aN c f) d p=D1->∀{w j K},Bf H P d w=.ok (.ds j) K->(kn j).length=i.length/\∀{A u G B cs}{s:a8}{Q:ai (Yj×Yj)->a8->Prop}{X},bx C A (n+c.lv) c.hn->bq C u c B->Inv C u G B cs w s.heap->(∀L F J tk l,Inv C u L B F K J->Go C G L cs F s.heap J->cy u B s.heap J->aC C.w.params F (Sb L J) (kn j) (l.map (·.1))->aC C.w.params F (Sb L J) (oA j) (l.map (·.2))->Q l {s with heap:=J,toks:=tk})->da (eg C.prog C.w) A (evalPairs (pairTrees i p u pos)) Q X s:=by induction P with
|nil=>intro d i p t m w j K h;cases d with|cons=>exact aL h fE|nil=>
refine zu t (zu m ?_)
cases h;exact⟨rfl,λM O I b=>ε (b _ _ _ _ [] I (.refl _ _ _ _) (.refl _ _ _) .nil .nil)⟩
|cons k P Z=>intro d i p t m w j K h;cases d with|nil=>exact aL h fE|cons v d=>refine vH t λok i U t=>vH m λve p tb m=>iS U λke U=>aS (dW h) λkd r h1 h2=>aS (dW h2) λvd V h3 h4=>aS (mY h4) λkC st3 h5 h6=>?_;cases h6;refine⟨gO Aj (Z t m h5).1,λ{A u G B cs s Q X}M O I b=>x? ?_⟩;refine Y c f k ke U w kd r h1 A u G B cs s _ _ M O I ?_;intro aG aH bo aQ v1 I1 g1 k1 r1;refine Y c f v ve tb r vd V h3 A u aG B aH _ _ _ M O I1 ?_;intro aI ax eZ bF v2 I2 W k2 r2;refine(Z t m h5).2 (s:={s with heap:=eZ,toks:=bF}) M O I2 ?_;intro dC iQ vK fH l I3 y k3 r3 r4;exact b dC iQ vK fH _ I3 ((g1.trans W).trans y) ((k1.trans k2).trans k3) (.cons ((r1.mono W.cs W.st).mono y.cs y.st) r3) (.cons (r2.mono y.cs y.st) r4)
theorem TL(h:EU (.str x) l=D1)(m:D.str x∈l):Eo:=by have h:(!decide (x=x))=D1:=lg.mp h _ m;rw[mM rfl]at h;exact no h
theorem adO:Gr l=D1->l.Nodup/\fF dJ l=D1:=by induction l with|nil=>exactλY=>⟨.nil,rfl⟩|cons a r i=>
intro h
have d:=iA (iA h).1
refine⟨List.nodup_cons.mpr ⟨?_,(i (iA h).2).1⟩,?_⟩
.refine A1 (P:=λb=>b.isSome=D1) (M:=λa=>EU a r=D1->a∉r) (f:=Bc) xa d.1 (λc Y h=>TL h) d.2
.show((dJ a).isSome&&fF dJ r)=D1;exact aa d.1 (aa ((i (iA h).2).2) rfl)
theorem aC.aeR{S:a7->Obj->Prop}(r:aC P cs S l []):l=[]:=by cases l with|nil=>rfl|cons d l=>exact dG r.iZ λa y b Y Y=>nomatch b
theorem aC.aeS{S:a7->Obj->Prop}(r:aC P cs S l (v::j)):∃d i,l=d::i/\Rd P cs S d v/\aC P cs S i j:=by cases l with|nil=>exact nomatch r.jf|cons d l=>exact dG r.iZ λc y f a b=>gy d l rfl ((JB f).1▸a) ((JB f).2▸b)
theorem JV{S:a7->Obj->Prop}:∀{k v:ai D},aC C.w.params cs S k (l.map (·.1))->aC C.w.params cs S v (l.map (·.2))->fF dJ k=D1->∃c,KV (dS C) cs S k v c/\Carries (dS C).knd l c:=by induction l with|nil=>exactλr b Y=>aa r.aeR (aa b.aeR (aF [] .nil trivial))|cons p l i=>intro k v r b;refine dG r.aeS λY Y a m t=>aa a (dG b.aeS λY Y a r b=>aa a ?_);exactλd=>(some_of (iA d).1).elim λj f=>aj (i t b (iA d).2) λc y I=>aF (((dS C).e j,p.2)::c) (.cons f r y) (cV ((dS C).rd f m) rfl I)
theorem Br(h:o.ExactDict)(d:o.data=.dict es a):o=bP es.toList a:=by obtain⟨i,j,K,y⟩:=o;obtain⟨b,c,f⟩:=h;subst b;subst c;subst f;subst d;rfl
theorem all_some:∀{d:ai (aw dt)},bI (λk a=>qy (aN c f) (Bc k) a) i d=D1->d.all (·.isSome)=D1:=by induction i with
|nil=>intro d t;cases d with|nil=>rfl|cons _ _=>exact no t
|cons k i l=>intro d t;cases d with|nil=>exact no t|cons a d=>refine aU (iA t) λj m=>aj (MU j) λb W Y=>?_;clear j t;subst W;show d.all (·.isSome)=D1;exact l m
theorem Tf:∀{a:ai E}{w:St}{d:ai D}{b:St},Bf H c a w=.ok (.ds d) b->c.length=a.length:=by
 induction c with
|nil=>intro a w d b h;cases a with|nil=>rfl|cons _ _=>cases h
|cons k c i=>intro a w d b h;cases a with|nil=>cases h|cons v a=>refine aS (dW h) λt f y j=>aS (dW j) λI l K m=>aS (mY m) λM p r O=>gO Aj (i r)
theorem acY(I:Inv C u G B cs w s.heap)(b:hM C u G B cs s (.sh (.ref w.cells.length)) ⟨w.l,w.cells++[.dict [] []]⟩ Q):da (eg C.prog C.w) A (jM (.Dict [] [] p) u) Q X s:=by refine S? ?_;obtain⟨c,d,k⟩:=I.Js (cn s.heap (bP [] 0)) (dY _ _) (λa m=>by refine aa (hX.mp m) ?_;exact⟨ir _,by rw[l7];exact zC _⟩) (by simp[CA.all]) (.dict (kK _ rfl) .nil .nil);exact b _ _ _ s.toks _ [] c d k (.sh (Rd.ref (p:=⟨s.heap.objs.size,VG⟩) (aa I.d9 (by simp)))) nM .nil
abbrev U4(C:Cx)(n:ak)(c:TC)(p:Pos)(a:ai (aw dt))(j:ai dt)(w:St)(d:ai D)(b:St):Prop:=∀{A u G B cs}{s:a8}{Q:ai (Yj×Yj)->a8->Prop}{X},bx C A (n+c.lv) c.hn->bq C u c B->Inv C u G B cs w s.heap->(∀L F J t l,Inv C u L B F b J->Go C G L cs F s.heap J->cy u B s.heap J->aC C.w.params F (Sb L J) (kn d) (l.map (·.1))->aC C.w.params F (Sb L J) (oA d) (l.map (·.2))->Q l {s with heap:=J,toks:=t})->da (eg C.prog C.w) A (evalPairs (pairTrees a j u p)) Q X s
theorem TS(go:U4 C n c t j P w ds i)(U:(kn ds).Nodup)(al:fF dJ (kn ds)=D1)(v:j.all (·.isSome)=D1)(k:j.length=P.length)(hk:j≠[])(hz:j.length<=15)(rm:bx C A (n+c.lv) c.hn)(eo:bq C u c B)(I:Inv C u G B cs w s.heap)(ok:hM C u G B cs s (.sh (.ref i.cells.length)) ⟨i.l,i.cells++[.dict (kn ds) (oA ds)]⟩ Q):da (eg C.prog C.w) A (jM (.Dict j P t) u) Q X s:=by
 refine O' (knd:=(dS C).knd) v k hk q0 ?_
 haveI y:=cn s.heap (bP [] 0)
 have p:∀a∈[s.heap.objs.size],s.heap.objs.size<=a/\a<(s.heap.push (bP [] 0)).objs.size:=λa m=>by haveI :a=s.heap.objs.size:=hX.mp m;clear m;subst this;exact⟨ir _,by rw[l7];exact zC _⟩
 haveI I1:=I.qV y (dY _ _) p
 haveI g1:=oP (C:=C) (cs:=cs) (as:=[s.heap.objs.size]) (r:=.f) y (dY s.heap (bP [] 0)) (λa m=>(p a m).1) I.lt
 refine go (s:={s with heap:=s.heap.push (bP [] 0)}) rm eo I1 ?_
 intro V K W bF l Z M k2 r3 r4
 haveI ra:(G.plus [s.heap.objs.size] .f) s.heap.objs.size=Bc .f:=Ro.fo (.head _)
 haveI nt:s.heap.objs.size≠C.tab:=λb=>by
  haveI :=I.lt C.tab (aa I.cM (yf _))
  rw[<-b]at this;exact MR _ this
 haveI ga:W.get? s.heap.objs.size=Bc (bP [] 0):=((M.kp _ ra).2 nt).exact (kK _ rfl) λb m d=>I.f0 b m _ d (uX I (ir _))
 refine aj (JV r3 r4 al) λr kv ca=>?_
 haveI md:merged [] r=r:=π r (kv.nodup U)
 refine dX r ca ⟨bP [] 0,#[],0,ga,(cV rfl rfl rfl),rfl,λb m=>by simp at m,.nil,.nil⟩ ?_
 intro J qH sb
 rw[md]at qH
 refine Bt qH λf nE ep q1 q2 q3 q4 q5 q6=>?_
 obtain rfl:=Br q2 q3
 haveI rr:cL C.w.params K (Sb V W) (kn ds) (oA ds) nE.toList:=kv.back q5 (q4)
 haveI rn:G s.heap.objs.size=VG:=uX I (ir _)
 haveI gg:=g1.trans M
 obtain⟨I3,g3,k3⟩:=Z.GY gg I.cM I.c0 I.f0 (λa f b m=>(sb.2 a (λd=>m (by subst d;simp[CA.all]))).trans b) (mu sb.1.symm) (λa m=>by
haveI :a=s.heap.objs.size:=by simpa[CA.all]using m
clear m
subst this;exact⟨ib q1,.inl ⟨(M.kp _ ra).1,rn⟩⟩) (by simp[CA.all]) (.dict q1 (rr.mono (.app _ _) λY Y b=>b) U);haveI O:cy u B s.heap (s.heap.push (bP [] 0)):=iT I y (dY _ _);refine ok _ _ _ _ _ [] I3 g3 ((O.trans k2).trans k3) (.sh ?_) nM .nil;haveI :=Rd.ref (P:=C.w.params) (cs:=K++[⟨s.heap.objs.size,VG⟩]) (S:=Sb (V.plus (CA.all ⟨s.heap.objs.size,VG⟩) (.cell K.length)) J) (i:=i.cells.length) (p:=⟨s.heap.objs.size,VG⟩) (aa Z.d9 (by simp));exact this
theorem ZI(V:bG C n H)(W Y:ai E):dy C N n H (.i7 W Y):=by intro c f py m w sl ag p;refine zR m λr jE Z a=>?_;clear m;refine aU (iA a) λt i=>?_;clear a;refine aU (iA t) λt d=>aS (mY p) λds st1 j b=>?_;clear p;refine aU (ki b) λv b=>?_;obtain⟨rfl,rfl⟩:=gR b;refine aU (adO v) λy K=>?_;haveI M:=mc t;haveI l:=uC d;haveI O:=uC i;have P:=Tf j;intro A u G B cs s Q X rm eo I U;clear t v b;cases r with|cons k r=>exact TS (aco V d i j).2 y K (all_some d) (l.symm.trans (P.trans O)) nofun (gY (mu l.symm) M) rm eo I U|nil=>clear i d t M b K;obtain rfl:=List.length_eq_zero_iff.mp l;clear y;obtain rfl:=List.length_eq_zero_iff.mp P.symm;refine aa (List.length_eq_zero_iff.mp O.symm) ?_;cases j;exact acY I U
end
theorem nH(h:ff)(a:a7)(f:Obj->Obj):(h.update a f).objs.size=h.objs.size:=(Ls (a:=a) (h:=h) (f:=f)).1
theorem D3(h:Runs M Γ p t fs s e a):s.heap.objs.size<=a.heap.objs.size:=by induction h<;>(try simp only[a8.setGen,l7,nH]at*)<;>lia
theorem Qn(h:Wakes M Γ p g r s res s'):s.heap.objs.size<=s'.heap.objs.size:=by
 unfold Wakes at h
 split at h
 .exact h.elim
 .split at h
  .obtain⟨C,A,B,_,_,rfl⟩:=h;exact(D3 B:(s.setGen g .running).heap.objs.size<=A.heap.objs.size)
  .exact aa h.2 (ir _)
  .exact aa h.2 (ir _)
 .obtain⟨C,A,B,_,_,rfl⟩:=h;exact(D3 B:(s.setGen g .running).heap.objs.size<=A.heap.objs.size)
 .rw[h.2];exact ir _
 .rw[h.2];exact ir _
theorem X5(M:Model)(Γ:Ctx)(b:ak)(t:Sem H):∀(Q:H->Pos->a8->Prop)(d:Yj->Pos->a8->Prop)(p:Pos)(s:a8),b<=s.heap.objs.size->Sem.wp M Γ t Q d p s->Sem.wp M Γ t (λa B A=>b<=A.heap.objs.size/\Q a B A) (λi B A=>b<=A.heap.objs.size/\d i B A) p s:=by induction t with|pure a=>exactλQ d p s w h=>⟨w,h⟩|raise i=>exactλQ d p s w h=>⟨w,h⟩|unsupported _=>exactλQ d p s Y h=>h|finish _=>exactλQ d p s Y h=>h|rule _ k y=>exactλQ d p s w h=>y () Q d p s w h|«at»B k y=>exactλQ d p s w h=>y () Q d B s w h|load a _ k y=>exactλQ d p s w j=>aj j λl I h=>aF l I (y l Q d p s w h)|update a _ f k y=>exactλQ d p s w h=>⟨h.1,y () Q d p _ (by show b<=(s.heap.update _ _).objs.size;rw[nH];exact w) h.2⟩|loadIfAlive a k y=>exactλQ d p s w h=>y _ Q d p s w h|point _ k y=>exactλQ d p s w h=>y () Q d p s w h|register _ _=>exactλQ d p s Y h=>h|alloc l k y=>exactλQ d p s w h=>y _ Q d p _ (by show b<=(s.heap.push _).objs.size;rw[l7];exact H! ‹_›) h|fresh k y=>exactλQ d p s w h=>y _ Q d p _ w h|ask k y=>exactλQ d p s w h=>y _ Q d p s w h|choose J m k y=>exactλQ d p s w h=>⟨h.1,y _ Q d p _ w h.2⟩|os u _ k y=>exactλQ d p s w h=>y _ Q d p _ w h|call c O _ _ k y=>exactλQ d p s w j=>aS j λr A F h=>dm r A F (y r Q d p A (gY w (D3 F)) h)|handled K k y=>exactλQ d p s w h=>y _ Q d p s w h|genState v k y=>exactλQ d p s w j=>aj j λL N h=>aF L N (y _ Q d p s w h)|newGen c k y=>exactλQ d p s w h=>y _ Q d p _ w h|resume v r _ k y=>exactλQ d p s w j=>aS j λC A G h=>dm C A G (y C Q d p A (gY w (Qn G)) h)|yield _ _ _ _=>exactλQ d p s Y h=>h|stack k y=>exactλQ d p s w h=>y _ Q d p s w h|fork _ _=>exactλQ d p s Y h=>h|thread k y=>exactλQ d p s w h=>y _ Q d p s w h|await _ _ _ _ _=>exactλQ d p s Y h=>h
theorem jd{Q:i->a8->Prop}{b:Yj->a8->Prop}(h:da M A t (λa f=>s.heap.objs.size<=f.heap.objs.size->Q a f) b s):da M A t Q b s:=nL (Q:=λa f=>s.heap.objs.size<=f.heap.objs.size/\(s.heap.objs.size<=f.heap.objs.size->Q a f)) (E:=λc f=>s.heap.objs.size<=f.heap.objs.size/\b c f) (λΓ p hΓ=>X5 M Γ s.heap.objs.size t _ _ p s (ir _) (h Γ p hΓ)) (λY Y d=>d.2 d.1) λY Y d=>d.2
structure Iter(C:Cx)(A:ip)(tg:dt)(it:Yj)(W:ai a7)(St:ai D->ai CA->(a7->Obj->Prop)->ff->Prop):Prop where
frame:∀{ds cs cs' S S' h h'},St ds cs S h->fU cs cs'->(∀a o,S a o->S' a o)->(∀a∈W,∀o,h.get? a=Bc o->h'.get? a=Bc o)->St ds cs' S' h'
next:∀{d ds cs ρ}{s:a8}{Q:Yj->a8->Prop}{E},(∀a∈W,ρ a=Bc .f)->(∀a,ρ a≠VG->a<s.heap.objs.size)->St (d::ds) cs (Sb ρ s.heap) s.heap->(∀v h' tk,(∀a o,a∉W->s.heap.get? a=Bc o->h'.get? a=Bc o)->s.heap.objs.size<=h'.objs.size->St ds cs (Sb ρ h') h'->Rd C.w.params cs (Sb ρ h') d v->Q v {s with heap:=h',toks:=tk})->da (eg C.prog C.w) A (Wf it) (λo s'=>∃v,o=Bc v/\da (eg C.prog C.w) A (GM tg it v) (λY qt=>Q v qt) E s') E s
done:∀{cs ρ}{s:a8}{Q:a8->Prop}{E},(∀a∈W,ρ a=Bc .f)->St [] cs (Sb ρ s.heap) s.heap->(∀h' tk,(∀a o,a∉W->s.heap.get? a=Bc o->h'.get? a=Bc o)->s.heap.objs.size<=h'.objs.size->Q {s with heap:=h',toks:=tk})->da (eg C.prog C.w) A (Wf it) (λo s'=>o=VG/\Q s') E s
self:∀{ds cs ρ}{s:a8}{Q:Yj->a8->Prop}{E},St ds cs (Sb ρ s.heap) s.heap->Q it s->da (eg C.prog C.w) A (G9 it) Q E s
theorem w9{b:e8}{c:Yj->a8->Prop}(i:s.heap.get? I=Bc o)(j:o.cls=.type b)(l:o.data=.fields h)(m:["enumerate","zip","dict_itemiterator","dict_reverseitemiterator","odict_iterator","itertools.zip_longest","itertools.pairwise"].contains b=Un)(d:Q () s):da M A (GM O (.ref I) v) Q c s:=by
 have k:∀a,da M A (do
let o<-load I
match o.cls,o.data with|.type f,.fields h=>if["enumerate","zip","dict_itemiterator","dict_reverseitemiterator","odict_iterator","itertools.zip_longest","itertools.pairwise"].contains f&&h[0]?==Bc (mB a)then rule "for.unpacks-the-owned-tuple"updateField I 0 .none|_,_=>pure ()) Q c s:=λa=>by
  refine ct (d! i ?_)
  refine aa j (aa l ?_)
  dsimp only
  refine aa m ?_
  rw[t',ej (by decide)];exact gP d
 cases O<;>first|exact gP d|(cases v<;>first|exact gP d|exact k _)
theorem vU{b:Type}{l:ai b}{a:b}{r:ai b}(h:l.drop i=a::r):l[i]?=Bc a/\l.drop (i+1)=r:=by
 haveI c:l[i]?=(l.drop i)[0]?:=by simp
 refine⟨aa c (aa h rfl),?_⟩;exact aD List.drop_drop (aa h rfl)
theorem kF{W:ai a7}(m:I∈W)(b:ff.ExtBut I h J):∀a c,a∉W->h.get? a=Bc c->J.get? a=Bc c:=λa c d f=>b a c (λi=>d (i▸m)) f
section
variable{C:Cx}{A:ip}{O:dt}
theorem AF{W:ai a7}(w:∀a∈W,G a=Bc .f)(k:∀a b,a∉W->h.get? a=Bc b->J.get? a=Bc b):∀a b,Sb G h a b->Sb G J a b:=λa b c=>⟨k a b (λm=>by have :=c.2;rw[w a m]at this;cases this) c.1,c.2⟩
def Ol(C:Cx)(I l:a7)(v:ai Yj)(a:ak):ai D->ai CA->(a7->Obj->Prop)->ff->Prop:=λd cs S h=>∃i,h.IsListIter I l i/\S l (bc v a)/\aC C.w.params cs S d (v.drop i)
theorem aeD(M:A.handled=VG):Iter C A O (.ref I) [I] (Ol C I l vs n)where
frame:=λB c s k=>cJ B λi H F G=>dX i (H.at λo e=>k I (.head _) o e) (s _ _ F) (G.mono c s)
next:=λ{d ds cs N s Q E}w u B q=>by
 refine cJ B λi H F G=>?_;clear B
 refine dG G.iZ λv r e rd P=>?_
 obtain⟨U,V⟩:=vU e
 refine as2 H ⟨_,F.1,rfl,n,rfl⟩ (by simpa using U) λK J sb=>aF v rfl ?_
 refine cJ (id J) λo W X Y=>?_
 haveI k:=kF (W:=[I]) (.head _) sb.extBut;haveI L:=AF w k;exact w9 W X Y rfl (q v K s.toks k (mu sb.1.symm) ⟨i+1,J,L _ _ F,aa V (P.mono (.refl _) L)⟩ (rd.mono (.refl _) L))
done:=λ{cs N s Q E}w B q=>by
 refine cJ B λi H F G=>?_;clear B
 haveI e:vs.drop i=[]:=by cases Z:vs.drop i with|nil=>rfl|cons _ _=>rw[Z]at G;cases G
 refine jd (B? M H ⟨_,F.1,rfl,n,rfl⟩ ?_ λK x j=>⟨rfl,q K s.toks (kF (.head _) x) j⟩)
 haveI :=List.drop_eq_nil_iff.mp e;simpa using this
self:=λB q=>eE B λi h=>asi h.1 q
def OZ(C:Cx)(I l:a7)(v:ai Yj)(a:ak):ai D->ai CA->(a7->Obj->Prop)->ff->Prop:=λd cs S h=>∃i,h.IsTupleIter I l i/\S l (eH v a)/\aC C.w.params cs S d (v.drop i)
theorem aaa(M:A.handled=VG):Iter C A O (.ref I) [I] (OZ C I l vs n)where
frame:=λB c s k=>cJ B λi H F G=>dX i (H.imp λo z=>⟨k I (.head _) o z.1,z.2⟩) (s _ _ F) (G.mono c s)
next:=λ{d ds cs N s Q E}w u B q=>by
 refine cJ B λi H F G=>?_;clear B
 refine dG G.iZ λv r e rd P=>?_
 obtain⟨U,V⟩:=vU e
 refine wpAny_pyNext_tuple_item H ⟨_,F.1,rfl,n,rfl⟩ (by simpa using U) λK J sb=>aF v rfl ?_
 refine cJ (id J) λo W X Y=>?_
 haveI k:=kF (W:=[I]) (.head _) sb.extBut;haveI L:=AF w k;exact w9 W X Y rfl (q v K s.toks k (mu sb.1.symm) ⟨i+1,J,L _ _ F,aa V (P.mono (.refl _) L)⟩ (rd.mono (.refl _) L))
done:=λ{cs N s Q E}w B q=>by
 refine cJ B λi H F G=>?_;clear B
 haveI e:vs.drop i=[]:=by cases Z:vs.drop i with|nil=>rfl|cons _ _=>rw[Z]at G;cases G
 refine jd (wpAny_pyNext_tuple_end M H ⟨_,F.1,rfl,n,rfl⟩ ?_ λK x j=>⟨rfl,q K s.toks (kF (.head _) x) j⟩)
 haveI :=List.drop_eq_nil_iff.mp e;simpa using this
self:=λB q=>eE B λi h=>wpAny_pyIter_tupleiter h.1 q
def PD(I:a7)(b:iO Bq)(t:Tok):ai D->ai CA->(a7->Obj->Prop)->ff->Prop:=λd Y Y h=>∃i,t? h I b t i/\d=(b.toList.drop i).map λc=>D.int (c.toNat:a0)
theorem VB(L:A.handled=VG):Iter C A O (.ref I) [I] (PD I b t)where
frame:=λF c s k=>aj F λi G B=>aF i (G.imp λo z=>⟨k I (.head _) o z.1,z.2⟩) B
next:=λ{d ds cs M s Q E}w Y F q=>by refine aj F λi G B=>?_;clear F;cases H:b.toList.drop i with|nil=>rw[H]at B;cases B|cons c r=>
 rw[H]at B
 simp only[l6,z']at B
 obtain⟨rfl,rfl⟩:=B
 obtain⟨N,P⟩:=vU H
 refine KBw.next_item G (aD (wf) N) λK J sb=>aF _ rfl ?_
 refine cJ (id J) λo U V W=>?_
 haveI k:=kF (W:=[I]) (.head _) sb.extBut;exact w9 U V W rfl (q _ K (s.toks+1) k (mu sb.1.symm) ⟨i+1,J,aa P rfl⟩ (.int _ _))
done:=λ{cs M s Q E}w F q=>by
 refine aj F λi G B=>?_;clear F
 have e:b.toList.drop i=[]:=by cases H:b.toList.drop i with|nil=>rfl|cons _ _=>rw[H]at B;cases B
 refine jd (KBw.next_end L G ?_ λK x X=>⟨rfl,q K s.toks (kF (.head _) x) X⟩)
 haveI :=List.drop_eq_nil_iff.mp e;simpa using this
self:=λF q=>eE F λi h=>KBw.pyIter_self h.1 q
def Ou(I:a7):ai D->ai CA->(a7->Obj->Prop)->ff->Prop:=λd Y Y h=>∃(a:a0)(b:ak),IsRangeIter h I a (b:a0) 1/\d=gI b a
theorem aab(K:A.handled=VG):Iter C A O (.ref I) [I] (Ou I)where
frame:=λB c s k=>aS B λx n F G=>dm x n (k I (.head _) _ F) G
next:=λ{d ds cs L s Q E}w N B q=>by refine aS B λx n F G=>?_;clear B;cases n with|zero=>cases G|succ n=>
 simp only[gI,z']at G
 obtain⟨rfl,rfl⟩:=G
 refine wpAny_pyNext_range_item F (by simp) λJ H sb=>aF _ rfl ?_
 haveI k:=kF (W:=[I]) (.head _) sb.extBut;exact w9 H rfl rfl rfl (q _ J (s.toks+1) k (mu sb.1.symm) ⟨x+1,n,by
haveI :((n+1:ak):a0)-1=(n:a0):=by simp
refine aD this ?_;exact H,rfl⟩ (.int _ _))
done:=λ{cs L s Q E}w B q=>by refine aS B λx n F G=>?_;clear B;cases n with|zero=>exact jd (wpAny_pyNext_range_end K F (by decide) λJ x M=>⟨rfl,q J s.toks (kF (.head _) x) M⟩)|succ n=>cases G
self:=λB q=>aS B λx n F Y=>wpAny_pyIter_rangeiter F q
def IK(C:Cx)(a I l:a7)(v:ai Yj)(b:ak):ai D->ai CA->(a7->Obj->Prop)->ff->Prop:=λf cs S h=>∃(i:ak)(d:Yj)(k:ai D),IsEnum h a I (i:a0) d/\h.IsListIter I l i/\S l (bc v b)/\f=jo (λb c=>.u [.int b,c]) (i:a0) k/\aC C.w.params cs S k (v.drop i)
theorem aa5(hh:A.handled=VG)(ht:Fd O=D1)(ne:e≠I):Iter C A O (.ref e) [e,I] (IK C e I l vs n)where
frame:=λz_ c s k=>vt z_ λi old kC h0 h1 h2 hd h3=>Fs i old kC (k e (.head _) _ h0) (h1.at λo e=>k I (.tail _ (.head _)) o e) (s _ _ h2) hd (h3.mono c s)
next:=λ{d ds cs ρ s Q E}w lt z_ q=>by refine vt z_ λi old kC h0 h1 h2 hd h3=>?_;clear z_;cases kC with|nil=>cases hd|cons d0 Pd=>
 simp only[jo,z']at hd
 obtain⟨rfl,rfl⟩:=hd
 refine cps λP_ k_=>dG h3.iZ λv r ev rd rr=>?_
 obtain⟨e1,e2⟩:=vU ev
 refine k_ ?_;clear k_ P_
 refine wpAny_pyNext_enum_item h0 h1 ⟨_,h2.1,rfl,n,rfl⟩ (by simpa using e1) ne λh' f1 f2 f3 f4 f5=>aF _ rfl ?_
 cases O<;>first|cases ht|skip
 refine wpAny_letOwnedTupleGo_enum f1 λeN g1 g2=>?_
 have k:∀a o,a∉[e,I]->s.heap.get? a=Bc o->eN.get? a=Bc o:=λa o m z=>by clear ne g1 f2 f1;haveI n1:a≠e:=λq=>m (by subst q;exact .head _);have n2:a≠I:=λq=>m (by subst q;exact .tail _ (.head _));exact g2.extBut a o n1 (f5 a o n1 n2 z)
 haveI ss:=AF w k
 haveI hn:ρ s.heap.objs.size=VG:=by cases z:ρ s.heap.objs.size with|none=>rfl|some r=>exact aL (lt _ (aa z (yf _))) (MR _)
 haveI nz:s.heap.objs.size≠e:=λz=>MR _ (z▸ib h0);haveI g3:eN.get? s.heap.objs.size=Bc (eH [.int i s.toks,v] 0):=(g2.2 _ nz).trans f3;refine q _ eN (s.toks+1) k (aa g2.1 (aa f4 (tm _))) ⟨i+1,_,Pd,g1,?_,ss _ _ h2,rfl,aa e2 (rr.mono (.refl _) ss)⟩ (.u ⟨g3,hn⟩ (.cons (.int _ _) (.cons (rd.mono (.refl _) ss) .nil)));exact f2.at λo z=>(g2.2 I (ng ne)).trans z
done:=λ{cs ρ s Q E}w z_ q=>by refine vt z_ λi old kC h0 h1 h2 hd h3=>?_;clear z_;cases kC with|cons d0 Pd=>cases hd|nil=>
 have ev:vs.drop i=[]:=by cases hx:vs.drop i with|nil=>rfl|cons _ _=>rw[hx]at h3;cases h3
 refine jd (wpAny_pyNext_enum_end hh h0 h1 ⟨_,h2.1,rfl,n,rfl⟩ ?_ λh' x sz=>⟨rfl,q h' s.toks (kF (.tail _ (.head _)) x) sz⟩)
 haveI :=List.drop_eq_nil_iff.mp ev;simpa using this
self:=λz_ q=>FQ z_ λi old kC h=>Y' h.1 q
end
theorem Es(C:Cx)(a:e8):eD C (.type a):=λY Y=>aF .machine (.inr (.inl rfl)) (Tj rfl)
section
variable{C:Cx}{N:Env}{n:ak}{B:T->St->R}
variable{j:gn}{G L:Ro}{F:ai Pl}{cs K:ai CA}{H:St}{s:a8}{X:Yj->a8->Prop}{A:ip}{h J:ff}
theorem A3(m:(x==("__debug__":Str))=Un)(i:bq C j c F)(I:Inv C j G F cs H s.heap)(p:c.sc.names.lookup x=Bc .globalImplicit)(r:jj C x v)(d:Q v s):da M A (jM (.Name x t) j) Q X s:=by
 haveI u:=i.kd _ _ p (by decide)
 refine dG r λP U l w k=>?_
 haveI b:∀a f,C.h₀.get? a=Bc f->s.heap.get? a=Bc f:=I.tok
 refine aq0 i.kind u ?_ m
 rcases k with k|⟨y,O⟩
 .exact aqe (aa i.glob (l.keeps b)) k d
 .exact aqb (aa i.glob (l.keeps b)) y (aa i.blt (w.keeps b)) O d
theorem tE(I:Inv C j G F cs H h)(b:Obj):Inv C j (G.plus [h.objs.size] .f) F cs H (h.push b)/\Go C G (G.plus [h.objs.size] .f) cs cs h (h.push b)/\cy j F h (h.push b)/\(∀a∈[h.objs.size],(G.plus [h.objs.size] .f) a=Bc .f):=by
 have c:∀a∈[h.objs.size],h.objs.size<=a/\a<(h.push b).objs.size:=λa m=>by
  haveI :a=h.objs.size:=hX.mp m
  clear m
  refine aa this ?_;exact⟨ir _,by rw[l7];exact zC _⟩
 exact qL (I.qV (cn _ _) (dY _ _) c) (oP (cn _ _) (dY _ _) (λa m=>(c a m).1) I.lt) (iT I (cn _ _) (dY _ _)) (λa m=>Ro.fo m)
def lE(C:Cx)(A:ip)(P:dt)(j:gn)(G:Ro)(F:ai Pl)(cs:ai CA)(s:a8)(I:ai D)(M:St)(Q:Yj->a8->Prop):Prop:=∀L K J U O W St,Inv C j L F K M J->Go C G L cs K s.heap J->cy j F s.heap J->Iter C A P O W St->St I K (Sb L J) J->(∀a∈W,L a=Bc .f/\s.heap.objs.size<=a)->Q O {s with heap:=J,toks:=U}
section
set_option tactic.hygienic true
theorem AB(U:A.handled=VG)(I:Inv C j G F cs H s.heap)(c:oE d=Bc l)(r:Rd C.w.params cs (Sb G s.heap) d v)(V:∀W w,d≠.dict W w)(f:lE C A tg j G F cs s l H Q):da (eg C.prog C.w) A (G9 v) Q X s:=by cases r with
|list p P=>
cases c
rename_i a w m
obtain⟨y,i,M,O⟩:=tE I {cls:=.type "list_iterator",data:=.fields #[.ref a,.int 0 0]};exact u? ⟨_,p.1,rfl,m,rfl⟩ (f _ _ _ s.toks _ [s.heap.objs.size] (Ol C s.heap.objs.size a w m) y i M (aeD U) ⟨0,⟨_,kK _ rfl,rfl,rfl⟩,i.st _ _ p,by simpa using P.mono (.refl _) i.st⟩ λb k=>⟨O b k,by
have :b=s.heap.objs.size:=by simpa using k
subst this;exact ir _⟩)|u p P=>
cases c
rename_i a w m;obtain⟨y,i,M,O⟩:=tE I {cls:=.type "tuple_iterator",data:=.fields #[.ref a,.int 0 0]};exact θ ⟨_,p.1,rfl,m,rfl⟩ (f _ _ _ s.toks _ [s.heap.objs.size] (OZ C s.heap.objs.size a w m) y i M (aaa U) ⟨0,⟨_,kK _ rfl,rfl,rfl⟩,i.st _ _ p,by simpa using P.mono (.refl _) i.st⟩ λb k=>⟨O b k,by
have :b=s.heap.objs.size:=by simpa using k
subst this;exact ir _⟩)|bytes b t=>obtain rfl:=eF c;refine pF (tE I {cls:=.type "bytes_iterator",data:=.fields #[.bytes b t,.int 0 0]}) λy i M O=>υ (f _ _ _ s.toks _ [s.heap.objs.size] (PD s.heap.objs.size b t) y i M (VB U) ⟨0,⟨_,kK _ rfl,rfl,rfl⟩,by simp⟩ λb k=>⟨O b k,by haveI :b=s.heap.objs.size:=hX.mp k;clear k;refine aD this ?_;exact ir _⟩)|dict p P=>exact aL rfl (V _ _)|_=>cases c
end
theorem lE.on(b:lE C A O j G F cs s f H Q)(c:Go C G L cs K s.heap J)(v:cy j F s.heap J):lE C A O j L F K {s with heap:=J,toks:=tk} f H Q:=λY Y Y Y Y Y Y I k l i d w=>b _ _ _ _ _ _ _ I (c.trans k) (v.trans l) i d λa m=>⟨(w a m).1,gY c.sz (w a m).2⟩
theorem JO(i:A.handled=VG)(I:Inv C j G F cs H s.heap)(k:IsRange s.heap r a b 1 t u v)(O:0<=a)(l:a<1000000)(P:-1000000<b)(U:b<1000)(d:lE C A tg j G F cs s (gI (b-a).toNat a) H Q):da (eg C.prog C.w) A (G9 (.ref r)) Q X s:=by
 refine pF (tE I {cls:=.type "range_iterator",data:=.fields #[mB a,mB (apj a b 1),mB 1]}) λp w y M=>?_
 haveI f:apj a b 1=(((b-a).toNat:ak):a0):=by rw[rangeSize_one];split<;>rename_i h;exact(Int.toNat_of_nonneg (Int.sub_nonneg_of_le (co h))).symm;exact gO Rr (Int.toNat_eq_zero.mpr (Int.sub_nonpos_of_le (Int.not_lt.mp h))).symm
 refine wpAny_pyIter_range k (small_one (by lia) (by lia) (by lia) (by lia)) (d _ _ _ s.toks _ [s.heap.objs.size] (Ou s.heap.objs.size) p w y (aab i) ⟨a,(b-a).toNat,?_,rfl⟩ λc m=>⟨M c m,by haveI :c=s.heap.objs.size:=hX.mp m;clear m;refine aa this ?_;exact ir _⟩);exact aa f (kK _ rfl)
def adb(C:Cx)(n:ak)(c:TC)(O p:dt)(H:St)(i:ai D)(b:St):Prop:=∀{A j G F cs}{s:a8}{Q X},bx C A (n+c.lv) c.hn->bq C j c F->Inv C j G F cs H s.heap->lE C A O j G F cs s i b Q->da (eg C.prog C.w) A (jM p j) (λa d=>da (eg C.prog C.w) A (G9 a) Q X d) X s
def Vr(C:Cx)(n:ak)(B:T->St->R)(b:It):Prop:=∀{c:TC}{f:ak}{O d:dt}{H:St}{p:bp}{k:St},aN.ph c f b d=D1->mQ b O=D1->itR B b H=.ok p k->c.hn=D1->∃i a,vL i a=.ok p k/\Rs d/\adb C n c O d H i a
theorem RX(ck:dz C)(y:bG C n B)(a:E):Vr C n B (.ex a):=by
 intro c f tg u H p M t tt h O
 haveI t:aN c f a u=D1:=t
 refine aS (dW h) λd k v m=>?_
 haveI r:∃l,oE d=Bc l/\(∀P U,d≠.dict P U)/\vL l k=.ok p M:=by refine aj (kO m) λl b m=>?_;clear v;exact dX l b (λY Y i=>by subst i;exact bh b) m
 refine cJ r λl b V W=>gy l k W (yw t) (λ{A j G F cs s Q X}w Z I i=>y c f a u t H d k v A j G F cs s _ _ w Z I ?_);intro aG aH bo aQ v1 I1 g1 k1 r1;exact AB (w.hd O) I1 b r1 V (i.on g1 k1)
theorem VN(ck:dz C)(ih:bG C n B)(a:E):Vr C n B (.gq a):=by
 intro c f tg py H p ag t tt h hn
 refine jm t λi es kw pos M=>?_;clear t
 refine dD M λk xp O=>?_;clear M
 refine i1 O λr P=>?_;clear O
 refine i0 P λt=>?_;clear P
 simp only[ji]at t
 obtain⟨⟨t1,t2⟩,W⟩:=t
 haveI hx:=beq_iff_eq.mp t1
 clear t1
 subst hx
 refine aS (dW h) λd U h1 Z=>aj (kL Z) λl QF Z=>?_
 subst QF
 refine gy _ U Z (λY Y=>rfl) (λ{A j G F cs s Q X}rm eo I u=>?_)
 refine Li rfl (A3 rfl eo I (beq_iff_eq.mp t2) ck.gq ?_)
 refine AI (by rw[gZ W];rfl) (Es C "enumerate") ?_
 rw[gZ W]
 refine Lw (Eh (ih c f a r W H _ U h1 A j G F cs s _ _ rm eo I ?_))
 intro aG aH v aQ v1 V g1 k1 r1
 refine Lu ⟨V.tok,?_⟩
 refine mJ r1.ofList λad vs m WT sa ra=>?_
 clear r1
 refine aa WT (call_enumerate_list ⟨_,sa.1,rfl,m,rfl⟩ λJ f1 f2 f3 f4=>Y' (s:={s with heap:=J,toks:=aQ}) f1 ?_)
 have w:∀b∈[v.objs.size+1,v.objs.size],v.objs.size<=b/\b<J.objs.size:=λb y=>by
  refine aa f3 ?_
  show v.objs.size<=b/\b<v.objs.size+2
  simp only[hZ,lR,ox]at y
  rcases y with rfl|rfl
  .exact⟨tm _,zC _⟩
  .exact⟨ir _,by simp⟩
 haveI sz:v.objs.size<=J.objs.size:=aa f3 (zI _ _);haveI I2:=V.qV f4 sz w;haveI g2:=oP (C:=C) (cs:=aH) (r:=.f) f4 sz (λb y=>(w b y).1) V.lt;haveI k2:=iT V f4 sz;exact u _ _ _ aQ _ [v.objs.size+1,v.objs.size] (IK C (v.objs.size+1) v.objs.size ad vs m) I2 (g1.trans g2) (k1.trans k2) (aa5 (rm.hd hn) tt (by simp)) ⟨0,.none,l,f1,f2,g2.st _ _ sa,rfl,by simpa using ra.mono (.refl _) g2.st⟩ λb y=>⟨Ro.fo y,gY g1.sz (w b y).1⟩
theorem Wh(ck:dz C)(ih:bG C n B)(a:E):Vr C n B (.bM a):=by
 intro c f tg py H p ag t tt h hn
 refine jm t λb es kw W u=>?_;clear t
 refine dD u λi xp w=>?_;clear u
 refine i1 w λk M=>?_;clear w
 refine NK M λy v kp O=>?_;clear M
 refine TP O λps P sc p t=>?_;clear O
 simp only[ji]at t
 refine cps λP_ k_=>?_
 obtain⟨⟨⟨⟨⟨⟨⟨⟨t1,t2⟩,t3⟩,t4⟩,t5⟩,t6⟩,t7⟩,t9⟩,Z⟩:=t
 refine k_ ?_;clear k_ P_
 haveI lv0:=mc t9
 haveI hx:=beq_iff_eq.mp t1
 haveI hy:=beq_iff_eq.mp t2
 subst hx hy
 refine aS (dW h) λd U h1 V=>aj (kL V) λl acM V=>?_
 obtain rfl:=acM.symm
 refine aj (kO V) λl' hs V=>gy l' U V (λY Y=>rfl) (λ{A j G F cs s Q X}rm eo I m=>?_)
 refine ct (A3 rfl eo I (beq_iff_eq.mp t3) ck.bM ?_)
 refine AI (by rw[gZ Z];rfl) (KZ C "sorted") ?_
 rw[gZ Z]
 refine evalArgs_kwB rfl (Eh (ih c f a k Z H _ U h1 A j G F cs s _ _ rm eo I ?_))
 intro aG aH bo aQ v1 I1 g1 k1 r1
 refine Lu ?_
 show da _ A (evalAll [do let v<-jM (.Lambda ps P sc p) j;Lg W;pure v]) _ X _
 refine η (ct (nL (ck.N8 (Q:=λi cC=>da (eg C.prog C.w) A (G9 i) Q X cC) (rm.less Qe λY=>hn) eo t4 t5 (rx t6) (rx t7) I1 hs r1 λJ tk v' I2 g2 k2 r2=>?_) (λf s1 hf=>?_) λY Y r=>r))
 .exact AB (s:={s with heap:=J,toks:=tk}) (rm.hd hn) I2 rfl r2 (λY Y k=>by cases k) (m.on (g1.trans g2) (k1.trans k2))
 .exact ct (wz (gP (X? hf)))
theorem XB(ck:dz C)(ih:bG C n B)(P:E):Vr C n B (.fp VG P):=by
 intro c f tg py H p ag t tt h hn
 refine jm t λa es kw pos m=>?_;clear t
 refine dD m λi xp r=>?_;clear m
 refine i1 r λk u=>?_;clear r
 refine i0 u λt=>?_;clear u
 simp only[ji]at t
 obtain⟨⟨U,t2⟩,y⟩:=t
 haveI hx:=beq_iff_eq.mp U
 clear U
 subst hx
 refine aS (dW h) λd v h1 w=>aj (kI w) λb YX w=>?_
 subst YX
 obtain⟨V,w⟩:=ki w
 simp only[ji,bl]at V
 refine gy _ v w (λY Y=>rfl) (λ{A j G F cs s Q X}W Z I l=>?_)
 refine Li rfl (A3 rfl Z I (beq_iff_eq.mp t2) ck.fp ?_)
 refine AI (by rw[gZ y];rfl) (Es C "range") ?_
 rw[gZ y]
 refine Lw (Eh (ih c f P k y H _ v h1 A j G F cs s _ _ W Z I ?_))
 intro aG aH bo aQ v1 M g1 k1 r1
 refine Lu ⟨M.tok,?_⟩
 refine eE r1.ofInt λY O=>?_
 clear r1
 refine aa O (call_range_1 (JO (tg:=tg) (s:={s with heap:=_,toks:=_}) (W.hd hn) (M.grow (cn _ _) (dY _ _)) (μ _ _ _ _ _ _ _) (by decide) (P1 _) Xd V.1 ?_))
 haveI e0:b-0=b:=by simp
 exact aa e0 ((l.on g1 k1).on (iz aG aH (cn _ _) (dY _ _)) (iT M (cn _ _) (dY _ _)))
theorem Wg(ck:dz C)(ih:bG C n B)(lo hi:E):Vr C n B (.fp (Bc lo) hi):=by intro c f tg py H p ag t tt h hn;refine jm t λi es kw pos r=>?_;clear t;refine dD r λk xp u=>?_;clear r;refine i2 u λl e2 v=>?_;clear u;refine i0 v λt=>?_;clear v;simp only[ji]at t;obtain⟨⟨⟨t1,t2⟩,P⟩,U⟩:=t;haveI hx:=beq_iff_eq.mp t1;clear t1;subst hx;refine aS (dW h) λd w h1 V=>aj (kI V) λa W V=>?_;subst W;refine aS (dW V) λd y h3 M=>aj (kI M) λb SV M=>?_;subst SV;obtain⟨O,M⟩:=ki M;simp only[ji,bl]at O;refine gy _ y M (λY Y=>rfl) (λ{A j G F cs s Q X}Z eo I m=>?_);refine Li rfl (A3 rfl eo I (beq_iff_eq.mp t2) ck.fp ?_);refine AI (by rw[gZ P,gZ U];rfl) (Es C "range") ?_;rw[gZ P,gZ U];refine Lw (Eh (ih c f lo l P H _ w h1 A j G F cs s _ _ Z eo I ?_));intro aG aH bo aQ v1 I1 g1 k1 r1;refine Eh (ih c f hi e2 U w _ y h3 A j aG F aH _ _ _ Z eo I1 ?_);intro aI ax eZ bF v2 I2 g2 k2 r2;refine Lu ⟨I2.tok,?_⟩;refine eE r1.ofInt λY Sq=>?_;clear r1;subst Sq;obtain⟨_,rfl⟩:=r2.ofInt;refine call_range_2 (s:={s with heap:=eZ,toks:=bF}) (JO (tg:=tg) (Z.hd hn) (I2.grow (cn _ _) (dY _ _)) (μ _ _ _ _ _ _ _) O.2.1 (P' O.2.2 (by decide)) (P' (by decide) O.1.2) O.1.1 ?_);exact((m.on g1 k1).on g2 k2).on (s:={s with heap:=eZ,toks:=bF}) (iz aI ax (cn _ _) (dY _ _)) (iT I2 (cn _ _) (dY _ _))
theorem M6(c:dz C)(i:bG C n B)(b:It):Vr C n B b:=by cases b with|ex a=>exact RX c i a|gq a=>exact VN c i a|bM a=>exact Wh c i a|fp l d=>cases l with|none=>exact XB c i d|some l=>exact Wg c i l d
theorem ZZ(u:dz C)(v:bG C n B)(t:aN.ph c f d m=D1)(w:mQ d O=D1)(h:xE B d H k=.ok p y)(I:c.hn=D1):∃i b,k i b=.ok p y/\Rs m/\adb C n c O m H i b:=by refine aS (mY h) λM P a h=>?_;haveI l:=M6 u v d t w a I;refine aS l λU V Q r=>?_;cases Q;exact dm M P h r
end
theorem He(b:h.Ns a m):rg h a:=by refine mJ b λc j k f i Y=>aF c f (λv d=>by rw[i]at d;cases d)
theorem aap(b:h.IsCell a v):rg h a:=by refine aj b λc f i=>aF c f (λj d=>by rw[i]at d;cases d)
section
variable{C:Cx}{N:Env}{n:ak}{rec:T->St->R}
variable{env:gn}{ρ ah aR:Ro}{af:ai Pl}{cs cs' bJ:ai CA}{st:St}{s:a8}{A:ip}{h h' h₀:ff}
structure Out(C:Cx)(env:gn)(af:ai Pl)(aR:Ro)(bJ:ai CA)(h₀:ff):Prop where
t0:aR C.tab=Bc .f
c0:∀x c b,Pl.cell x c b∈af->b=D1->aR c=Bc .f
f0:F0 C aR
theorem Inv.out(I:Inv C env ρ af cs st h):Out C env af ρ cs h:=⟨I.cM,I.c0,I.f0⟩
noncomputable def oJ(c:TC)(a:Str):aA:=c.sc.names.lookup a==Bc .local||c.sc.names.lookup a==Bc .cell
theorem yi{os:ai a7}{b:Yj->a8->Prop}(J:bq C env c af)(ht:c.bN i d=D1)(W:oJ c d=D1)(I:Inv C env ρ af cs st s.heap)(f:Go C aR ρ bJ cs h₀ s.heap)(O:Out C env af aR bJ h₀)(sa:dh C.w.params C.bad cs (Sb ρ s.heap) s.heap sl os (Bc v))(t:∀a∈os,ρ a=Bc .f/\aR a=VG)(nd:os.Nodup)(j:∀ah h' tk,Inv C env ah af cs ⟨st.l.set i sl,st.cells⟩ h'->Go C aR ah bJ cs h₀ h'->(∃B,ρ B=Bc .sc/\MJ B s.heap h')->((∀a,ρ a=Bc .f->a∉os->ah a=Bc .f)/\∀a,ρ a=VG->ah a=VG)->Q () {s with heap:=h',toks:=tk}):da M A (storeName env d v) Q b s:=by
 have Z:i<af.length:=by
  haveI :=beq_iff_eq.mp ht
  rw[<-J.names]at this;simpa using(List.getElem?_eq_some_iff.mp this).1
 refine bD (zc J ht (p:=af[i]) (by simp[Z])) λK Y Y=>?_
 have hl:i<st.l.length:=aa I.dH Z
 refine fN (I.vars i af[i] st.l[i] (by simp[Z]) (by simp[hl])) λos0 H w Y Y Y=>?_
 have OO:env.kindOf d=Bc .local\/env.kindOf d=Bc .cell:=by
  unfold oJ at W
  rcases Bool.or_eq_true_iff.mp W with h|h
  .exact .inl (J.kd _ _ (beq_iff_eq.mp h) (by simp))
  .exact .inr (J.kd _ _ (beq_iff_eq.mp h) (by simp))
 have Ay:af[i]?=Bc af[i]:=by simp[Z]
 haveI L:af[i]∈af:=pr Z
 clear ht
 haveI cZ:(env.scope.kind==.class||(env.scope.kind==.module&&env.locals !=env.globals))=Un:=aa J.kind rfl;generalize wc:af[i]=p at*;cases p with|l y=>
have K:y=d:=K
subst K
obtain⟨u,m,hn,_⟩:=w
refine wpAny_storeName_local u hn (λh' lY F=>?_) cZ
haveI ho:∀j∈af,j≠Pl.l y->∀H,dB env s.heap j H->dB env h' j H:=by intro j hq ne H d;cases j with
|l k=>
haveI nz:k≠y:=λr=>ne (aa r rfl)
obtain⟨P,m1,U,V⟩:=d;refine⟨P,_,lY,?_⟩;exact aa (ej nz) (aD V (aa (BB hn U) rfl))|cell k c2 b2=>refine bD d λP U V=>⟨P,U,V.sameBut F (I.fW _ _ _ hq).1⟩
obtain⟨I',g'⟩:=I.FC f O.t0 O.c0 O.f0 Ay (I.locs _ L) F ⟨u,_,lY,by simp⟩ ho sa t nd (λY=>He lY);exact j _ _ _ I' g' ⟨_,I.locs _ L,F⟩ ⟨λa r m=>by rw[Ro.mn m (by rw[r];simp)];exact r,λa r=>Ro.uq (λm=>by rw[(t a m).1]at r;cases r) r⟩|cell y c2 b2=>
haveI K:y=d:=K
subst K
clear K
refine bD w λu k2 k3=>?_
have kc:env.kindOf y=Bc .cell:=by
 rcases OO with r|r
 .rcases u with u|u<;>(rw[u]at r;cases r)
 .exact r
have X:ρ c2=Bc .sc:=by
 clear Ay
 clear w
 rcases I.eT _ _ _ L with k|k
 .exact k.2
 .obtain⟨G,z2⟩:=k;subst G;haveI :=J.oW _ _ L;unfold oJ at W;rw[this]at W;exact nomatch W
refine wpAny_storeName_cell J.kind kc k2 k3 λh' yz F=>?_
haveI ho:∀j∈af,j≠Pl.cell y c2 b2->∀H,dB env s.heap j H->dB env h' j H:=by intro j hq ne H d;clear kc k3 k2 u Ay OO W yz;clear w;cases j with|l k=>obtain⟨P,m1,U,V⟩:=d;exact⟨P,m1,U.sameBut F (ng (I.fW _ _ _ L).1),V⟩|cell k c3 b3=>
 refine bD d λP U V=>⟨P,U,V.sameBut F λr=>?_⟩
 clear F
 subst r
 haveI hzy:=I.je k y c3 b3 b2 hq L
 subst hzy
 haveI e3:b3=Un:=by
  rcases I.eT _ _ _ hq with G|G
  .exact G.1
  .rw[G.2]at X;cases X
 haveI e2:b2=Un:=by
  rcases I.eT _ _ _ L with G|G
  .exact G.1
  .rw[G.2]at X;cases X
 rw[e2,e3]at ne;exact ne rfl
obtain⟨I',g'⟩:=I.FC f O.t0 O.c0 O.f0 Ay X F ⟨u,k2,yz⟩ ho sa t nd (λY=>aap yz);exact j _ _ _ I' g' ⟨_,X,F⟩ ⟨λa r m=>by rw[Ro.mn m (by rw[r];simp)];exact r,λa r=>Ro.uq (λm=>by rw[(t a m).1]at r;cases r) r⟩
theorem OS(h:ia c f t a=D1)(r:ai dt)(env:gn):AG (a::r) env=(Un,L2 a env)::AG r env:=by
 cases a with
|Starred v _=>cases f with|zero=>exact no h|succ f=>cases t<;>exact no h
|_=>rfl
theorem Tn:∀{b:ai dt},bI (ia c f) l b=D1->(AG b env).length=l.length/\(AG b env).findIdx? (·.1)=VG:=by induction l with|nil=>exactλh=>zu h ⟨rfl,rfl⟩|cons t l i=>intro b h;refine vH h λa b d h=>?_;rw[OS d];exact⟨gO Aj (i h).1,aa (arz) (aa ((i h).2) rfl)⟩
theorem aa1:∀{ds:ai D}{B F:ai Slot},nP l ds B=Bc F->l.length=ds.length:=by induction l with
|nil=>intro ds _ _ h;cases ds<;>first|rfl|exact bh h
|cons t l G=>intro ds _ _ h;cases ds<;>first|exact bh h|exact(dA h).elim λY h=>gO Aj (G h.2)
theorem Vm(h:iw (.tp l) d b=Bc c):∃a,d=.u a/\nP l a b=Bc c:=Bo (P:=(.=Bc c)) (M:=λd=>∃a,d=.u a/\nP l a b=Bc c) (a:=VG) nofun h λa h=>aF a rfl h
def PN(C:Cx)(c:TC)(f:ak):Prop:=∀{t:cO}{p:dt},ia c f t p=D1->c.hn=D1->∀{d:D}{l i:ai Slot}{b:ai Cell},iw t d l=Bc i->∀{m:ak}{A:ip}{env ρ aR af cs bJ h₀}{s:a8}{v:Yj}{Q:ur->a8->Prop}{a},bx C A m c.hn->bq C env c af->Inv C env ρ af cs ⟨l,b⟩ s.heap->Go C aR ρ bJ cs h₀ s.heap->Out C env af aR bJ h₀->Rd C.w.params cs (Sb ρ s.heap) d v->(∀ah h' j,Inv C env ah af cs ⟨i,b⟩ h'->Go C aR ah bJ cs h₀ h'->Q () {s with heap:=h',toks:=j})->da (eg C.prog C.w) A (L2 p env v) Q a s
theorem Q8(L:PN C c f)(M:c.hn=D1):∀{u:ai dt},bI (ia c f) l u=D1->∀{r:ai D}{p y:ai Slot}{k:ai Cell},nP l r p=Bc y->
 ∀{m:ak}{A:ip}{env ρ aR af cs bJ h₀}{s:a8}{w:ai Yj}{Q:ur->a8->Prop}{a},bx C A m c.hn->bq C env c af->Inv C env ρ af cs ⟨p,k⟩ s.heap->Go C aR ρ bJ cs h₀ s.heap->Out C env af aR bJ h₀->aC C.w.params cs (Sb ρ s.heap) r w->
 (∀ah h' H,Inv C env ah af cs ⟨y,k⟩ h'->Go C aR ah bJ cs h₀ h'->Q () {s with heap:=h',toks:=H})->da (eg C.prog C.w) A (dL ((AG u env).map (·.2)) w) Q a s:=by
 induction l with
|nil=>intro u t r p y k h m A env ρ aR af cs bJ h₀ s w Q a B F I b O G i;refine zu t ?_;cases r with|cons _ _=>exact bh h|nil=>exact G.OY (u' (i _ _ s.toks (eF h▸I) b))
|cons t l P=>intro u U r p y k h m A env ρ aR af cs bJ h₀ s w Q a B F I b O G i;refine vH U λj u J V=>?_;cases r with|nil=>exact bh h|cons d r=>refine aj (dA h) λII W h=>G.nY λv w X Y=>?_;rw[OS J];refine Op (L J M W B F I (.refl _ _ _ _) I.out X λah h' H Z K=>?_);exact P V h B F Z (b.trans K) O (Y.mono (.refl _) K.st) i
theorem Aw(C:Cx)(c:TC)(f:ak):PN C c f:=by induction f with|zero=>exactλt=>no t|succ f W=>intro X py t K d Z dc B h;cases X with|nm i=>intro m A env ρ aR af cs bJ h₀ s v Q j F G I p O H r;refine dD t λu J t=>u! (yi G (iA t).1 (iA t).2 I p O (.sh H) nM .nil λah h' tk a b Y Y=>r ah h' tk (eF h▸a) b)|tp l=>intro m A env ρ aR af cs bJ h₀ s v Q j F G I p O H r;refine aj (Vm h) λds q0 h=>?_;subst q0;refine ri t λes k J t=>H.Gz λa vs m0 sa L=>?_;have M:=Tn (env:=env) t;rw[r!];refine ct (wz ?_);unfold unpack;refine aa M.1 (aa M.2 (aa (show l.length=vs.toArray.size from(aa1 h).trans L.len.symm) ?_));refine ct (wq (jd (D! (F.hd K) ⟨_,sa.1,rfl,m0,rfl⟩ λh' u P=>?_)));have U:∀b w,s.heap.get? b=Bc w->h'.get? b=Bc w:=λb w y=>u b w (l4 (ib y)) y;have V:=iz (C:=C) ρ cs U P;exact Q8 W K t h F G (I.grow U P) (p.trans V) O (L.mono (.refl _) V.st) r
end
structure cq(C:Cx)(W:ai a7)(ρ ah:Ro)(cs cs':ai CA)(h h':ff):Prop where
cs:fU cs cs'
st:∀a o,Sb ρ h a o->Sb ah h' a o
kp:∀a,ρ a=Bc .f->ah a=Bc .f/\(a∉W->a≠C.tab->fA C h h' a)
sc:∀a,ρ a=Bc .sc->ah a=Bc .sc
sz:h.objs.size<=h'.objs.size
section
variable{C:Cx}{W:ai a7}{u:gn}{d l J F:Ro}{A:ai Pl}{cs k K G:ai CA}{H:St}{h f M B:ff}
theorem Go.x(b:Go C d l cs k h f):cq C W d l cs k h f:=⟨b.cs,b.st,λa c=>⟨(b.kp a c).1,λY i=>(b.kp a c).2 i⟩,b.sc,b.sz⟩
theorem cq.trans(b:cq C W d l cs k h f)(y:cq C W l J k K f M):cq C W d J cs K h M:=⟨b.cs.trans y.cs,λa c i=>y.st a c (b.st a c i),λa i=>⟨(y.kp a (b.kp a i).1).1,λw j=>((b.kp a i).2 w j).trans ((y.kp a (b.kp a i).1).2 w j)⟩,λa i=>y.sc a (b.sc a i),gY b.sz y.sz⟩
theorem cq.to(b:Go C F d G cs B h)(c:cq C W d l cs k h f)(w:∀a∈W,F a=VG):Go C F l G k B f:=⟨b.cs.trans c.cs,λa i j=>c.st a i (b.st a i j),λa j=>⟨(c.kp a (b.kp a j).1).1,λp=>((b.kp a j).2 p).trans ((c.kp a (b.kp a j).1).2 (λm=>by rw[w a m]at j;cases j) p)⟩,λa j=>c.sc a (b.sc a j),gY b.sz c.sz⟩
theorem cq.rX(b:Go C F d G cs B h)(c:cq C W d l cs k h f)(w:∀a∈W,F a≠Bc .f):Go C F l G k B f:=⟨b.cs.trans c.cs,λa i j=>c.st a i (b.st a i j),λa j=>⟨(c.kp a (b.kp a j).1).1,λp=>((b.kp a j).2 p).trans ((c.kp a (b.kp a j).1).2 (λm=>w a m j) p)⟩,λa j=>c.sc a (b.sc a j),gY b.sz c.sz⟩
def cF(C:Cx)(A:ai Pl)(d:Ro)(W:ai a7):Prop:=∀a∈W,d a=Bc .f/\a≠C.tab/\km C a/\∀i c b,Pl.cell i c b∈A->c≠a
theorem cF.of(I:Inv C u d A cs H h)(O:Out C u A F G B)(w:∀a∈W,d a=Bc .f/\F a=VG):cF C A d W:=λa m=>by
 obtain⟨t,r⟩:=w a m
 refine qL t (λi=>?_) (λi s j=>O.f0 i s a j r) (λp c b s i=>?_)
 .rw[i,O.t0]at r;cases r
 .subst i
  rcases I.eT p c b s with j|j
  .rw[j.2]at t;cases t
  .rw[O.c0 p c b s j.1]at r;cases r
theorem cF.go(w:cF C A d W)(b:cq C W d l cs k h f):cF C A l W:=λa m=>⟨(b.kp a (w a m).1).1,(w a m).2⟩
theorem Inv.jW(I:Inv C u d A cs H h)(w:cF C A d W)(U:∀a t,a∉W->h.get? a=Bc t->f.get? a=Bc t)(sz:h.objs.size<=f.objs.size):Inv C u d A cs H f/\cq C W d d cs cs h f/\cy u A h f:=by
 have nW:∀a,d a≠Bc .f->a∉W:=λa L m=>L (w a m).1
 have V:∀a t,Sb d h a t->Sb d f a t:=λa t N=>⟨U a t (nW a (aa N.2 (by simp))) N.1,N.2⟩
 have X:∀a,d a≠Bc .f->∀t,h.get? a=Bc t->f.get? a=Bc t:=λa L t O=>U a t (nW a L) O
 have vk:cy u A h f:=λp m ov N=>N.keep (C:=C) (λy O=>.fh λt P=>X _ (aa (I.locs y (O▸m)) (by simp)) t P) λy c b O=>.fh λt P=>U _ t (λmw=>(w c mw).2.2.2 y c b (O▸m) rfl) P
 have tn:C.tab∉W:=λm=>(w _ m).2.1 rfl
 refine cV ⟨λa O=>nB (I.lt a O) sz,λa t O=>V a t (I.base a t O),?_,I.cM,I.dH,I.d9,λi p s Z hs=>?_,λj c p hc Z=>?_,I.gG,I.names,I.locs,I.eT,I.je,I.fW,λO m=>?_⟩ ⟨.refl _,V,λa O=>⟨O,λL Y=>.fh λt P=>U a t L P⟩,λa O=>O,sz⟩ vk
 .obtain⟨vs,O,Q⟩:=I.tab;exact aF vs (U _ _ tn O) (Q.mono V)
 .obtain⟨os,ov,v,N,r,nd⟩:=I.vars i p s Z hs;exact hY os ov (vk p (mD Z) ov v) (N.keep (.refl _) V λa m=>X a (aa (r a m) (by simp))) r nd
 .obtain⟨N,r,nd⟩:=I.cells j c p hc Z;exact cV (N.keep (.refl _) V λa m=>X a (aa (r a m) (by simp))) r nd
 .exact(I.eS O m).step I.tab (λa Q P=>⟨Q,λY=>.fh λt y=>U a t (λmw=>(w a mw).2.2.1 O m P) y⟩) λa Q=>⟨.inr Q,tD (X a (aa Q (by simp)))⟩
theorem Inv.aey(I:Inv C u d A cs H h)(w:cF C A d W)(Q:Inv C vV l [] k ⟨[],bg⟩ f)(g:cq C W d.out l cs k h f)(ro:∀a r,l a=Bc r->r=.f\/∃j,r=.cell j):Inv C u (d.back l) A k ⟨H.l,bg⟩ f/\cq C W d (d.back l) cs k h f/\cy u A h f/\(∀a o,Sb l f a o->Sb (d.back l) f a o):=by
 have V:∀r:Rl,(∀j,r≠.cell j)\/∃j,r=.cell j:=λr=>by cases r with|cell j=>exact .inr ⟨j,rfl⟩|_=>exact .inl λj=>by simp
 have sb:∀a o,Sb l f a o->Sb (d.back l) f a o:=λa o x=>⟨x.1,by cases q:d a with|none=>rw[Ro.mG q];exact x.2|some r=>
rcases V r with n|⟨j,rfl⟩
.have :=(g.kp a (Ro.fZ q n)).1;rw[x.2]at this;cases this
.rw[Ro.u6 q];exact x.2⟩
 have Z:∀a r,d a=Bc r->r≠.f->a∉W:=λa r e n m=>by rw[(w a m).1]at e;cases e;exact n rfl
 have U:∀a r,d a=Bc r->(∀j,r≠.cell j)->a∉W->a≠C.tab->fA C h f a:=λa r q n m t=>(g.kp a (Ro.fZ q n)).2 m t
 have tl:∀x,Pl.l x∈A->u.locals≠C.tab:=λx m e=>by have :=I.locs x m;rw[e,I.cM]at this;cases this
 have vk:cy u A h f:=λp m ov x=>x.keep (λy e=>U _ _ (I.locs y (e▸m)) (by simp) (Z _ _ (I.locs y (e▸m)) (by simp)) (tl y (e▸m))) λy c b e=>by
  subst e
  rcases I.eT y c b m with q|q
  .exact U _ _ q.2 (by simp) (Z _ _ q.2 (by simp)) (I.fW y c b m).2
  .exact U _ _ q.2 (by simp) (λmw=>(w c mw).2.2.2 y c b m rfl) (I.fW y c b m).2
 have Dl:∀a j,d.back l a=Bc (.cell j)->l a=Bc (.cell j):=λa j e=>by cases q:d a with|none=>rwa[Ro.mG q]at e|some r=>cases r with|cell i=>rwa[Ro.u6 q]at e|_=>rw[Ro.hG q (by simp)]at e;cases e
 have O:∀a j,l a=Bc (.cell j)->d.back l a=Bc (.cell j):=λa j e=>by cases q:d a with|none=>rw[Ro.mG q];exact e|some r=>
  rcases V r with n|⟨i,rfl⟩
  .have :=(g.kp a (Ro.fZ q n)).1;rw[e]at this;cases this
  .exact aa (Ro.u6 q) e
 have N:cq C W d (d.back l) cs k h f:=⟨g.cs,λa o x=>sb a o (g.st a o (lh x)),λa e=>⟨Ro.hG e (by simp),λm t=>U a _ e (by simp) m t⟩,λa e=>Ro.hG e (by simp),g.sz⟩
 refine qL ⟨λa e=>?_,λa o e=>?_,Q.tab.sb sb,Ro.hG I.cM (by simp),I.dH,Q.d9,λi p s hp hs=>?_,λj c p hc hp=>?_,λa j e=>Q.gG a j (Dl a j e),I.names,λx m=>Ro.hG (I.locs x m) (by simp),λx c b m=>?_,I.je,I.fW,λe m=>?_⟩ N vk sb
 .cases q:d a with|none=>rw[Ro.mG q]at e;exact Q.lt a e|some r=>exact nB (I.lt a (aa q (yf _))) g.sz
 .obtain⟨e1,X⟩:=Q.base a o e;exact sb a o ⟨e1,X⟩
 .obtain⟨os,ov,v,x,r,nd⟩:=I.vars i p s hp hs
  refine hY os ov (vk p (mD hp) ov v) ?_ (λa m=>Ro.hG (r a m) yN) nd
  have ob:∀a∈os,∀o,h.get? a=Bc o->f.get? a=Bc o:=λa m o e=>
have n:km C a:=λX m2 q=>by
 obtain⟨_,L,_,f1,f2,_⟩:=I.eS X m2
 rw[f1]at q;cases q;rcases f2 with f2|f2<;>(rw[r a m]at f2;cases f2)
(U a _ (r a m) yN (Z _ _ (r a m) Bh) λt=>by have :=r a m;rw[t,I.cM]at this;cases this).exact e n;cases x with|ae=>exact .ae _|sh P=>exact .sh (P.mono g.cs N.st)|o e P=>exact .o (ob _ (.head _) _ e) (P.mono g.cs N.st)|exc e1 X e3 e4 P=>exact .exc (N.st _ _ e1) X e3 (N.st _ _ e4) (P.mono g.cs N.st)|bS e P=>exact .bS (ob _ (.head _) _ e) (P.keep g.cs N.st λa m=>ob a (.tail _ m))
 .obtain⟨x,r,nd⟩:=Q.cells j c p hc hp;exact cV (x.keep (.refl _) sb λY Y Y e=>e) (λa m=>O a j (r a m)) nd
 .rcases I.eT x c b m with q|q
  .exact .inl ⟨q.1,Ro.hG q.2 (by simp)⟩
  .exact .inr ⟨q.1,Ro.hG q.2 (by simp)⟩
 .exact(I.eS e m).step I.tab (λa q z=>⟨(N.kp a q).1,(N.kp a q).2 λmw=>(w a mw).2.2.1 e m z⟩) λa q=>⟨.inr (N.sc a q),λz=>aj z λo z1 z2=>by obtain⟨sl,z3,_⟩:=U a _ q (by simp) (Z _ _ q (by simp)) (λz=>by rw[z,I.cM]at q;cases q) o z1;exact aF _ z3 z2⟩
end
section
variable{C:Cx}{N:Env}{n:ak}{i:T->St->R}
theorem JJ:∀{es:ai dt}{s:a8},Q Un s->da M A (forIn es Un λc r=>if r=D1 then do let ok<-GZ c env (jM c env);pure (Gg ok)else pure (Gg r)) Q X s|[],s,q=>aa t! (gP q)|e::es,s,q=>by rw[Lp,ej (by decide)];exact ct (gP (JJ q))
theorem PE(O:gF C n i)(t:bI (aN c f) l es=D1):∀{st b F},Bn i l st=.ok (.o (.sh (.bool b))) F->∀{A env G B cs}{s:a8}{Q X},bx C A (n+c.lv) c.hn->bq C env c B->Inv C env G B cs st s.heap->mC C env G B cs s b F Q->da (eg C.prog C.w) A (forIn es D1 λc r=>if r=D1 then do let ok<-GZ c env (jM c env);pure (Gg ok)else pure (Gg r)) Q X s:=by
 apply U8 t
 .intro st b F h
  cases h;exactλH J I ok=>aa t! (gP (ok.kh I))
 .intro x l e es t _ P st b F h A env G B cs s Q X H J I ok
  refine aS (qg h) λr U K L=>?_
  rw[Lp,eI rfl];refine ct (ct (O c f x e t st _ _ K A env G B cs s _ _ H J I ?_));intro W Y Z V M g1 k1;clear K;cases r with|false=>cases L;exact gP (JJ ((ok.on (M:=V) g1 k1).kh M))|true=>exact gP (P L H J M (ok.on g1 k1))
theorem aaT{a:a7}(h:s.heap.get? a=Bc (bc f m))(l:f.length<=200000)(b:∀j,MJ a s.heap j->j.get? a=Bc (bc (f++[v]) (m+1))->Q .none {s with heap:=j}):da (eg prog M) A (call (.builtin "list.append") [.ref a,v]) Q X s:=by
 refine Zy slot_list_append ⟨_,h,rfl⟩ entry_list_append (args_list_append _ _) (list_append a f.toArray m v (aa lT (aa l3 q0))) ⟨h,?_⟩
 haveI k:=Ln (f:=λc=>c.push v) h
 rw[ej (by simp)]at k
 haveI d:f.toArray.push v=(f++[v]).toArray:=by simp
 rw[d]at k;exact b _ (Ls ..) k
theorem Go.qB{cs:ai CA}(b:Go C f l cs j h k)(w:cF C p f W):∀a∈W,∀c,h.get? a=Bc c->k.get? a=Bc c:=λa m c d=>((b.kp a (w a m).1).2 (w a m).2.1).exact d (w a m).2.2.1
noncomputable def xr(t F:dt)(fs:ai dt)(G:dt)(e:dt)(H:ak)(B A:Yj)(env:gn):Sem PySem.Fin:=do
Lg F.pos
match<-Wf B with
|none=>pure (.done .next)|some v=>
GM t B v
L2 t env v
let mut ok:=D1
for c in fs do if ok then ok<-GZ c env (jM c env)
if ok then(do let _<-call (.builtin "list.append") [A,<-jM G env])
again (.compLoop e H B A env)
theorem ac0(t F:dt)(fs:ai dt)(G:dt)(H:uz)(A:Pos)(I B:Yj)(env:gn):Mf (.ListComp G [⟨t,F,fs,0⟩] H A) 0 I B env=xr t F fs G (.ListComp G [⟨t,F,fs,0⟩] H A) 0 I B env:=by rfl
theorem aaN(t H t2 F:dt)(fs:ai dt)(G:dt)(I:uz)(A:Pos)(J B:Yj)(env:gn):Mf (.ListComp G [⟨t,H,[],0⟩,⟨t2,F,fs,0⟩] I A) 1 J B env=xr t2 F fs G (.ListComp G [⟨t,H,[],0⟩,⟨t2,F,fs,0⟩] I A) 1 J B env:=by rfl
theorem AX(bK:bG C n i)(dq:gF C n i)(te:aN c f elt Z=D1)(tt:ia c f tg t=D1)(ti:bI (aN c f) ifs fs=D1)(hn:c.hn=D1){j:Cw->a8->Prop}(it:Iter C A t eL W se)(nW:H∉W)(rm:bx C A (n+c.lv) c.hn)(eo:bq C O c P)(ht:Mf (.ListComp Z gs sc U) dp eL (.ref H) O=xr t bH fs Z (.ListComp Z gs sc U) dp eL (.ref H) O):∀{M:ai D}{st:St}{l:ai D}{ag:St},cm i elt tg ifs G M st=.ok (.ds l) ag->∀{J cs}{s:a8}{vs:ai Yj}{m:ak},Inv C O J P cs st s.heap->cF C P J (H::W)->s.heap.get? H=Bc (bc vs m)->aC C.w.params cs (Sb J s.heap) M vs->se G cs (Sb J s.heap) s.heap->M.length+G.length<=200000->(∀ah K F L cX m',Inv C O ah P K ag F->cq C (H::W) J ah cs K s.heap F->F.get? H=Bc (bc cX m')->aC C.w.params K (Sb ah F) l cX->j (.ok .next) {s with heap:=F,toks:=L})->mO (eg C.prog C.w) A (.compLoop (.ListComp Z gs sc U) dp eL (.ref H) O) j s:=by induction G with
|nil=>
intro M st l ag h J cs s vs m I w hd ra hs hz k
cases h
refine Tw ?_
show da _ A ((Mf (.ListComp Z gs sc U) dp eL (.ref H) O).onRaise (λp=>do YS p O;p? p)) _ _ s
refine AT ?_
rw[ht,xr]
have wr:∀a∈W,J a=Bc .f:=λa m=>(w a (.tail _ m)).1
refine ct (wz (ct (nL (it.done (Q:=λs'=>∃F L,s'={s with heap:=F,toks:=L}/\(∀a r,a∉W->s.heap.get? a=Bc r->F.get? a=Bc r)/\s.heap.objs.size<=F.objs.size) wr hs ?_) ?_ λY Y p=>p)))
.exactλF L a b=>gy F L rfl a b
.rintro r s'⟨rfl,F,L,rfl,ex,sz⟩
 have w':cF C P J W:=λa m=>w a (.tail _ m);obtain⟨I',Q,_⟩:=I.jW w' ex sz;have gx:cq C (H::W) J J cs cs s.heap F:=⟨Q.cs,Q.st,λa u=>⟨(Q.kp a u).1,λn t=>(Q.kp a u).2 (λm=>n (.tail _ m)) t⟩,Q.sc,Q.sz⟩;exact gP (k J cs F L vs m I' gx (ex _ _ nW hd) (ra.mono (.refl _) gx.st))|cons d G ih=>intro M st l ag h J cs s vs m I w hd ra hs hz k;replace h:rO (iw tg d st.l) _=_:=h;cases h1:iw tg d st.l with|none=>rw[h1]at h;cases h|some II=>
rw[h1]at h
refine aS (qg h) λb st2 h2 h3=>Tw ?_
show da _ A ((Mf (.ListComp Z gs sc U) dp eL (.ref H) O).onRaise (λp=>do YS p O;p? p)) _ _ s
refine AT ?_
rw[ht,xr]
have wr:∀a∈W,J a=Bc .f:=λa m=>(w a (.tail _ m)).1
refine ct (wz (ct (nL (it.next (Q:=λv s'=>∃F L,s'={s with heap:=F,toks:=L}/\(∀a r,a∉W->s.heap.get? a=Bc r->F.get? a=Bc r)/\s.heap.objs.size<=F.objs.size/\se G cs (Sb J F) F/\Rd C.w.params cs (Sb J F) d v) wr I.lt hs ?_) ?_ λY Y p=>p)))
.exactλv F L a b c d=>Dr F L rfl a b c d
.rintro r s'⟨v,rfl,hw⟩
 refine ct (nL hw ?_ λY Y p=>p)
 rintro _ qt⟨cb,aQ,rfl,ex,sz,qC,rd⟩
 haveI w':cF C P J W:=λa m=>w a (.tail _ m)
 refine bD (I.jW w' ex sz) λI1 g1 Y=>?_
 have sf:cq C (H::W) J J cs cs s.heap cb:=⟨g1.cs,g1.st,λa u=>⟨(g1.kp a u).1,λn t=>(g1.kp a u).2 (λm=>n (.tail _ m)) t⟩,g1.sc,g1.sz⟩
 have qN:=ex _ _ nW hd
 refine ct (Aw C c f tt hn h1 rm eo I1 (.refl _ _ _ _) I1.out rd λaI ig bF I2 g2=>?_);have w2:cF C P aI (H::W):=w.go g2.x;have e2:=g2.qB w;refine ct (PE dq ti h2 (s:={s with heap:=ig,toks:=bF}) rm eo I2 ?_);intro dC iQ zU fH I3 g3 _;have w3:cF C P dC (H::W):=w2.go g3.x;have e3:=g3.qB w2;haveI sR:=g2.trans g3;have w7:=e3 _ (.head _) _ (e2 _ (.head _) _ qN);have Oj:=it.frame (it.frame qC (.refl _) g2.st λa m=>e2 a (.tail _ m)) g3.cs g3.st λa m=>e3 a (.tail _ m);have V:=sf.trans sR.x;clear w2 qN h2 sf e3 e2;cases b with|false=>refine aa (ej (by decide)) ?_;refine ct (gP (gP ⟨rfl,?_⟩));refine ih h3 (s:={s with heap:=zU,toks:=fH}) I3 w3 w7 (ra.mono V.cs V.st) Oj (by simp only[hS]at hz;exact q3) ?_;exactλah K F L cX m' I' Q=>k ah K F L cX m' I' (V.trans Q)|true=>refine aa (eI rfl) (aS (dW h3) λy st4 h4 h5=>ct (ct (bK c f elt Z te st2 y st4 h4 A O dC P iQ {s with heap:=zU,toks:=fH} _ _ rm eo I3 ?_)));intro gB Er sk l8 v4 I4 g4 _ r4;have w4:cF C P gB (H::W):=w3.go g4.x;have e4:=g4.qB w3;have zx:=e4 _ (.head _) _ w7;haveI Ax:=(ra.mono V.cs V.st).mono g4.cs g4.st;refine ct (aaT (s:={s with heap:=sk,toks:=l8}) zx (aa ra.len q1) λnX wo qv=>?_);clear w3 zx w7;refine gP (gP ⟨rfl,?_⟩);have w5:cF C P gB [H]:=λa m=>w4 a (by have :a=H:=hX.mp m;clear w4 wo nW m ht qv V e4;subst this;exact .head _);have zL:∀a r,a∉[H]->sk.get? a=Bc r->nX.get? a=Bc r:=λa r n u=>(wo.2 a (by simpa using n)).trans u;refine bD (I4.jW w5 zL (mu wo.1.symm)) λI5 X Y=>?_;have kQ:cq C (H::W) gB gB Er Er sk nX:=⟨X.cs,X.st,λa u=>⟨(X.kp a u).1,λn t=>(X.kp a u).2 (λm=>n (by have :a=H:=hX.mp m;clear w5 w4 wo nW n m ht qv V zL e4;subst this;exact .head _)) t⟩,X.sc,X.sz⟩;haveI hs5:=it.frame (it.frame Oj g4.cs g4.st λa m=>e4 a (.tail _ m)) (.refl _) X.st λa m r u=>zL a r (λB=>by have :a=H:=hX.mp B;clear w5 w4 wo B ht qv kQ V X zL e4;subst this;exact nW m) u;haveI gx:=(V.trans g4.x).trans kQ;refine ih h5 (s:={s with heap:=nX,toks:=l8}) I5 w4 qv ((Ax.mono (.refl _) kQ.st).append (.cons (r4.mono (.refl _) kQ.st) .nil)) hs5 (by simp only[lk,hS,CM]at hz⊢;exact q4) ?_;exactλah K F L cX m' I' Q=>k ah K F L cX m' I' (gx.trans Q)
end
section
variable{C:Cx}{N:Env}{n:ak}{rec:T->St->R}
variable{f:gn}{u B aR:Ro}{t:ai Pl}{cs w bJ:ai CA}{F:St}{s:a8}{A:ip}{h G H:ff}
inductive qu(C:Cx)(env:gn)(af:ai Pl)(cs:ai CA)(S:a7->Obj->Prop)(h:ff):ai ak->ai Slot->Prop|nil:qu C env af cs S h [] []|cons{i:ak}{p:Pl}{v:Yj}{d:D}{r:ai ak}{sl:ai Slot}:af[i]?=Bc p->dB env h p (Bc v)->Rd C.w.params cs S d v->qu C env af cs S h r sl->qu C env af cs S h (i::r) (.sh d::sl)
theorem qu.mono{S:a7->Obj->Prop}(m:fU cs w)(k:∀a d,S a d->p a d)(v:cy f t h G):∀{l:ai ak}{j:ai Slot},qu C f t cs S h l j->qu C f t w p G l j:=by intro l j i;induction i with|nil=>exact .nil|cons a b c _ r=>exact .cons a (v _ (mD a) _ b) (c.mono m k) r
theorem acX:∀{l m y:ai Slot}{j:ai Cell},mz k l=Bc (m,y)->∀{u:Ro},Inv C f u t cs ⟨l,j⟩ h->∃B,Inv C f B t cs ⟨m,j⟩ h/\Go C u B cs cs h h/\qu C f t cs (Sb B h) h k y:=by induction k with|nil=>exactλa u I=>aU (db (eF a)) λJ K=>dX u (J▸I) (.refl _ _ _ _) (K▸.nil)|cons i r M=>intro l m y j a u I;refine gC (P:=(.=Bc (m,y))) (M:=λb=>(l[i]?).bind fz=b->_) (λh=>bh h) a (λd a O=>?_) rfl;exact aj (dA O) λs0 P Q=>aj (nI a) λc U a=>aU (db a) λV W=>vt (I.freeze P Q) λp v aG J K X Y Z=>cJ (M U Y) λaI I2 L cp=>dX aI (V▸I2) (Z.trans L) (W▸.cons J K (X.mono (.refl _) L.st) cp)
noncomputable def uL(c:TC)(a:Str):aA:=c.sc.names.lookup a==Bc .cell||c.sc.names.lookup a==Bc .free
theorem Xv{S:a7->Obj->Prop}(Q:bq C f c t):∀{I:ai ak}{L:ai Slot},qu C f t cs S h I L->(I.filterMap (c.ns[.]?)).length=I.length->(I.filterMap (c.ns[.]?)).all (uL c)=D1->∃J:ai (Str×a7),J.map (·.1)=I.filterMap (c.ns[.]?)/\L.length=J.length/\(∀p∈J,(∃b,Pl.cell p.1 p.2 b∈t)/\f.cells.lookup p.1=Bc p.2)/\∀(k:ak)(p:Str×a7)(s:Slot),J[k]?=Bc p->L[k]?=Bc s->∃d v,s=.sh d/\Rd C.w.params cs S d v/\h.IsCell p.2 (Bc v):=by intro I L a;induction a with|nil=>exactλY Y=>zJ ([]) rfl rfl nM (λk p s j=>by simp at j)|@cons i p v d r L U V e3 cp ih=>
intro W M
haveI X:c.ns[i]?=Bc p.name:=aD Q.names (aa (y8) (aa U rfl))
have Z:(i::r).filterMap (c.ns[.]?)=p.name::r.filterMap (c.ns[.]?):=aa arl (aa X rfl)
rw[Z]at W M⊢
simp only[Nf,ji]at M
refine Bj (ih (by simpa using W) M.2) λJ a1 a2 a3 a4=>?_
have K:f.kindOf p.name=Bc .cell\/f.kindOf p.name=Bc .free:=by
 haveI :=M.1
 unfold uL at this
 rcases Bool.or_eq_true_iff.mp this with y|y
 .exact .inl (Q.kd _ _ (beq_iff_eq.mp y) (by simp))
 .exact(Q.kf _ (beq_iff_eq.mp y)).symm
clear X Z;cases p with|l a=>haveI :=V.1;rcases K with K|K<;>(haveI K:f.kindOf a=_:=K;rw[this]at K;cases K)|cell a cc b=>
refine bD V λY f2 f3=>zJ ((a,cc)::J) (aa l6 (aa a1 rfl)) (by simp[a2]) (λy m=>?_) (λk y s O P=>?_)
.refine Md (hZ.mp m) (λQf=>?_) λm=>?_
 .clear m
  subst Qf;exact⟨⟨b,mD U⟩,f2⟩
 .exact a3 y m
.cases k with|zero=>simp only[List.getElem?_cons_zero,pu]at O P;subst O;subst P;exact gy d v rfl e3 f3|succ k=>simp only[List.getElem?_cons_succ]at O P;exact a4 k y s O P
theorem Fh:∀{I:ai (Str×Aa)}{acc:ai (Str×a7)},(∀x,(x,rt)∈I->∃a,f.cells.lookup x=Bc a)->∃cl,(forIn I acc λx r=>(match x with
|(name,K)=>if(K==rt)=D1 then do let y<-cellOf f name;pure (Gg ((name,y)::r))else pure (Gg r)):Sem (ai (Str×a7)))=pure cl/\(∀x a,acc.lookup x=Bc a->f.cells.lookup x=Bc a->cl.lookup x=Bc a)/\∀x a,(x,rt)∈I->f.cells.lookup x=Bc a->cl.lookup x=Bc a
|[],acc,_=>dX acc rfl (λY Y h Y=>h) (λY Y m=>aL m lR)|(y,k)::r,acc,O=>by
 by_cases P:k=.free
 .subst P
  obtain⟨a,Q⟩:=O y (.head _)
  refine cJ (Fh (acc:=(y,a)::acc) λx m=>O x (.tail _ m)) λcl L M U=>dX cl ?_ (λx b V J=>?_) (λx b m J=>?_)
  .rw[Lp]
   simp only[fm,oO,cellOf,Q];exact L
  .refine M x b ?_ J
   refine aa pD ?_
   by_cases q:x=y
   .clear M L
    subst q
    rw[Q]at J;simpa using J
   .have :(x==y)=Un:=by simpa using q
    exact aa this V
  .by_cases q:x=y
   .clear m L
    subst q
    refine M x b ?_ J
    rw[Q]at J;simpa[pD]using J
   .rcases hZ.mp m with z|z
    .simp only[asm,and_true]at z;exact aL z q
    .exact U x b z J
 .refine cJ (Fh (acc:=acc) λx m=>O x (.tail _ m)) λcl L M U=>?_
  haveI W:(k==rt)=Un:=by simpa using P
  refine dX cl ?_ M (λx b m J=>?_)
  .rw[Lp]
   simp only[W,D9,hE];exact L
  .rcases hZ.mp m with z|z
   .simp only[asm]at z;exact aL z.2.symm P
   .exact U x b z J
theorem PH(J:∀x,(x,rt)∈sc.names->∃a,f.cells.lookup x=Bc a):∃cl,Z9 sc f=pure cl/\∀x a,(x,rt)∈sc.names->f.cells.lookup x=Bc a->cl.lookup x=Bc a:=by refine cJ (Fh (acc:=[]) J) λcl K Y L=>aF cl ?_ L;simp only[Z9];haveI M:(forIn sc.names [] λx r=>(match x with|(name,I)=>if(I==rt)=D1 then do let y<-cellOf f name;pure (Gg ((name,y)::r))else pure (Gg r)):Sem (ai (Str×a7)))>>=pure=pure cl:=aa K rfl;exact M
theorem IL{f:gn}{k:Aa}(i:k≠.free):∀{b:ai (Str×Aa)}{a:Str},b.lookup a=Bc k->(b.map λ(n,k)=>if(k==rt&&f.scope.kind==.function&&f.kindOf n==Bc .cell)then(n,Tr)else(n,k)).lookup a=Bc k
|[],_,h=>by simp at h
|(n,d)::r,a,h=>by haveI j:=@IL f k i r a;show Sz a ((if(d==rt&&f.scope.kind==.function&&f.kindOf n==Bc .cell)=D1 then(n,Tr)else(n,d))::_)=_;cases c:a==n with
|true=>
simp only[pD,c]at h
cases h
haveI m:(k==rt)=Un:=by simpa using i
refine aa (ej (by rw[m];simp)) ?_;simp only[pD,c]|false=>
simp only[pD,c]at h
by_cases l:(d==rt&&f.scope.kind==.function&&f.kindOf n==Bc .cell)=D1
.rw[eI l];simp only[pD,c];exact j h
.rw[ej l];simp only[pD,c];exact j h
theorem HB{f:gn}:∀{b:ai (Str×Aa)}{a:Str},b.lookup a=Bc .free->let m:=(b.map λ(n,k)=>if(k==rt&&f.scope.kind==.function&&f.kindOf n==Bc .cell)then(n,Tr)else(n,k)).lookup a;m=Bc .free\/m=Bc .cell
|[],_,h=>by simp at h
|(n,d)::r,a,h=>by haveI j:=@HB f r a;show Sz a ((if(d==rt&&f.scope.kind==.function&&f.kindOf n==Bc .cell)=D1 then(n,Tr)else(n,d))::_)=_\/Sz a ((if(d==rt&&f.scope.kind==.function&&f.kindOf n==Bc .cell)=D1 then(n,Tr)else(n,d))::_)=_;cases c:a==n with
|true=>
simp only[pD,c]at h
refine aa (eF h) ?_
by_cases i:(rt==rt&&f.scope.kind==.function&&f.kindOf n==Bc .cell)=D1
.rw[eI i];simp only[pD,c];simp
.rw[ej i];simp only[pD,c];simp|false=>
simp only[pD,c]at h
by_cases i:(d==rt&&f.scope.kind==.function&&f.kindOf n==Bc .cell)=D1
.rw[eI i];simp only[pD,c];exact j h
.rw[ej i];simp only[pD,c];exact j h
theorem Inv.enter{P:ai (Str×a7)}{m0:Str->aw Yj}(I:Inv C f u t cs F h)(rl:u U.locals=Bc .f)(nt:U.locals≠C.tab)(ns:h.Ns U.locals m0)(nc:∀l c b,Pl.cell l c b∈t->c≠U.locals)(ko:∀l∈Q,U.kindOf l=Bc .local)(kc:∀p∈P,(U.kindOf p.1=Bc .cell\/U.kindOf p.1=Bc .free)/\U.cells.lookup p.1=Bc p.2)(hc:∀p∈P,∃b,Pl.cell p.1 p.2 b∈t)(len:eK.length=P.length)(hs:∀(k:ak)(p:Str×a7)(s:Slot),P[k]?=Bc p->eK[k]?=Bc s->∃d v,s=.sh d/\Rd C.w.params cs (Sb u h) d v/\h.IsCell p.2 (Bc v))(nd:(Q++P.map (·.1)).Nodup):Inv C U (u.out.plus [U.locals] .sc) (Q.map .l++P.map λp=>.cell p.1 p.2 D1) cs ⟨Q.map (λY=>.ae)++eK,F.cells⟩ h:=by
 haveI mi:∀{a:a7},a∈[U.locals]↔a=U.locals:=by simp
 have W:∀a,a≠U.locals->(u.out.plus [U.locals] .sc) a=u.out a:=λa n=>Ro.eP λm=>n (mi.mp m)
 have sb:∀a J,Sb u h a J->Sb (u.out.plus [U.locals] .sc) h a J:=λa J l=>⟨l.1,by refine aa (W a λK=>by have :=l.2;rw[K,rl]at this;cases this) ?_;exact Ro.sV.mpr l.2⟩
 have nZ:∀{l c b},Pl.cell l c b∈(Q.map Pl.l++P.map λp=>Pl.cell p.1 p.2 D1)->b=D1/\(l,c)∈P:=λ{l c b}m=>by
  rcases nG.mp m with m|m
  .obtain⟨y,_,K⟩:=List.mem_map.mp m;cases K
  .refine aj (List.mem_map.mp m) λp V K=>?_;clear m;cases K;exact⟨rfl,V⟩
 refine⟨λa K=>?_,λa J K=>sb a J (I.base a J K),I.tab.sb sb,?_,by simp[len],I.d9,λi p sl V Z=>?_,λj c p hj V=>?_,λa j K=>?_,?_,λl m=>Ro.fo (.head _),λl c b m=>?_,λl y c b d m1 m2=>?_,λl c b m=>?_,λK m=>?_⟩
 .by_cases M:a=U.locals
  .exact I.lt a (aa M (aa rl (yf _)))
  .rw[W a M]at K;exact I.lt a λO=>K (Ro.sV.mpr O)
 .exact aa (W _ (ng nt)) (Ro.fZ I.cM (by simp))
 .by_cases X:i<Q.length
  .rw[Lv (by simpa using X),y8,ma X]at V
   rw[Lv (by simpa using X),y8,ma X]at Z
   cases V;cases Z;exact hY ([]) (m0 Q[i]) ⟨ko _ (pr X),m0,ns,rfl⟩ (.ae _) nM .nil
  .haveI yA:Q.length<=i:=sK X
   rw[US (by simpa using yA),fx,y8]at V
   rw[US (by simpa using yA),fx]at Z;cases hq:P[i-Q.length]? with|none=>rw[hq]at V;cases V|some M=>
  rw[hq]at V
  refine aD (eF V) (dG (hs _ _ _ hq Z) λd v aef r ic=>?_);clear Z;subst aef;obtain⟨k1,k2⟩:=kc M (mD hq);exact hY ([]) (Bc v) ⟨k1,k2,ic⟩ (.sh (r.mono (.refl _) sb)) nM .nil
 .refine bD (I.cells j c p hj V) λl r iq=>cV (l.keep (.refl _) sb λY Y Y K=>K) (λa m=>?_) iq;exact aa (W a λK=>by have :=r a m;rw[K,rl]at this;cases this) (Ro.Ag.mpr (r a m))
 .by_cases M:a=U.locals
  .rw[M,Ro.fo (.head _)]at K;cases K
  .rw[W a M]at K;exact I.gG a j (Ro.Ag.mp K)
 .haveI :(Q.map Pl.l++P.map λp=>Pl.cell p.1 p.2 D1).map Pl.name=Q++P.map (·.1):=by refine aa lZ (aa nA (aa nA ?_));congr 1;exact S5 (λl=>rfl) Q
  exact aa this nd
 .obtain⟨rfl,hm⟩:=nZ m
  obtain⟨b,hb⟩:=hc _ hm
  refine .inr ⟨rfl,?_⟩
  refine aa (W c (nc _ _ _ hb)) (Md (I.eT _ _ _ hb) (λM=>?_) λM=>?_)
  .exact Ro.fZ M.2 (by simp)
  .exact Ro.fZ M.2 (by simp)
 .obtain⟨rfl,Um⟩:=nZ m1
  obtain⟨rfl,XO⟩:=nZ m2
  obtain⟨b1,Ad⟩:=hc _ Um
  obtain⟨b2,IE⟩:=hc _ XO;exact I.je _ _ _ _ _ Ad IE
 .obtain⟨rfl,hm⟩:=nZ m;obtain⟨b,hb⟩:=hc _ hm;exact⟨nc _ _ _ hb,(I.fW _ _ _ hb).2⟩
 .obtain⟨hk,L,J,h1,h2,h3,h5⟩:=I.eS K m
  refine⟨hk,L,J,h1,?_,h3,h5⟩
  by_cases M:L=U.locals
  .exact aa M (.inr (Ro.fo (.head _)))
  .exact aa (W L M) (.inl (by rcases h2 with h2|h2<;>exact Ro.fZ h2 (by simp)))
end
theorem JZ:∀{l:ai Str},Bm l=D1->l.Nodup|[],_=>.nil|a::r,h=>by simp only[Bm,ji,D8,ar7,Bl]at h;exact List.nodup_cons.mpr ⟨h.1,JZ h.2⟩
section
variable{C:Cx}{N:Env}{n:ak}{rec:T->St->R}
theorem JG{w:St}(u:bq C env c A)(I:Inv C env G A cs w h){s:ai ak}(m:x∈s.filterMap (c.ns[.]?))(k:uL c x=D1):∃a,env.cells.lookup x=Bc a:=by refine aj (List.mem_filterMap.mp m) λi Y f=>?_;rw[<-u.names,y8]at f;clear m;cases t:A[i]? with|none=>rw[t]at f;cases f|some p=>
rw[t]at f
haveI j:p.name=x:=eF f
have B:i<w.l.length:=aa I.dH ((List.getElem?_eq_some_iff.mp t).1)
refine fN (I.vars i p _ t (ma B)) λH J v Y Y Y=>?_
haveI r:env.kindOf x=Bc .cell\/env.kindOf x=Bc .free:=by
 unfold uL at k
 rcases Bool.or_eq_true_iff.mp k with d|d
 .exact .inl (u.kd _ _ (beq_iff_eq.mp d) (by decide))
 .exact(u.kf _ (beq_iff_eq.mp d)).symm
clear k f;cases p with|l y=>haveI j:y=x:=j;subst j;have :=v.1;rcases r with r|r<;>(rw[this]at r;cases r)|cell y F b=>haveI j:y=x:=j;clear r;refine aD j (⟨F,v.2.1⟩)
structure Ez(c:TC)(sc:uz)(own cap:ai Str):Prop where
kind:sc.kind=.function
ne:own≠[]
nd:(own++cap).Nodup
Ki:∀x∈own,sc.names.lookup x=Bc .local/\(x==("__debug__":Str))=Un/\(x==("__classdict__":Str))=Un
tK:∀x∈cap,sc.names.lookup x=Bc .free/\uL c x=D1
locals:∀x∈sc.names,x.2=.local->sc.names.lookup x.1=Bc .local
frees:∀x∈sc.names,x.2=.free->x.1∈cap
cells:∀x∈sc.names,x.2≠.cell
theorem PV(h:xJ c s d f=D1):Ez c s d f:=by
 unfold xJ at h
 simp only[ji,lg,D8,beq_iff_eq]at h
 obtain⟨⟨⟨⟨⟨p,k⟩,r⟩,i⟩,l⟩,j⟩:=h
 refine⟨p,λa=>(by rw[a]at k;cases k),JZ r,λb m=>⟨(i b m).1.1,(i b m).1.2,(i b m).2⟩,λb m=>⟨(l b m).1,?_⟩,λb m a=>?_,λb m a=>?_,λb m a=>?_⟩
 .unfold uL;exact(l b m).2
 .have :=j b m
  rw[a]at this;simpa using this
 .have :=j b m
  rw[a]at this
  simp only[ji,ar7,bl]at this;exact this.1
 .haveI :=j b m;rw[a]at this;cases this
theorem abV{j:ai (Str×a7)}(d:bq C env c t)(cs:Ez c sc f i)(l:j.map (·.1)=i)(B:∀a∈i,a∈c.ns):bq C (Xs sc cl Cn env) {c with sc:=sc,ns:=f++i,lv:=k,lam:=Un} (f.map .l++j.map λp=>.cell p.1 p.2 D1)where
kind:=cs.kind
glob:=d.glob
blt:=d.blt
kd:=λa k h r=>IL r h
kf:=λa h=>HB h
names:=by
 refine aa lZ (aa nA (aa nA (aD l ?_)))
 congr 1;exact S5 (λa=>rfl) f
oW:=λa u m=>by
 rcases nG.mp m with m|m
 .obtain⟨y,_,b⟩:=List.mem_map.mp m;cases b
 .obtain⟨p,s,b⟩:=List.mem_map.mp m
  clear m
  clear m
  cases b;exact(cs.tK _ (l▸C! s)).1
dN:=λa m=>by
 rcases nG.mp m with m|m
 .exact(cs.Ki a m).2
 .exact d.dN a (B a m)
nm:=d.nm;gk:=d.gk;fk:=d.fk;kl:=d.kl;kt:=d.kt;vg:=d.vg;kb:=d.kb;lam:=λb=>nomatch b;lp:=d.lp
def YV(C:Cx)(A:ip)(b:gn)(k:Ro)(j:ai Pl)(cs:ai CA)(s:a8)(l:ai D)(p:St)(X:Yj->a8->Prop)(u:aw (Yj->Sem ur))(Q:Yj->a8->Prop):Prop:=∀d c h t f i m,Inv C b d j c p h->Go C k d cs c s.heap h->cy b j s.heap h->dh C.w.params C.bad c (Sb d h) h (.o l) [f] (Bc (.ref f))->(∀a∈[f],d a=Bc .f/\s.heap.objs.size<=a)->d i=Bc .f->s.heap.objs.size<=i->f≠i->h.Ns i m->Yn (eg C.prog C.w) A X u Q (.ref f) i (.ok .next) {s with heap:=h,toks:=t}
theorem Ju{d:Yj->a8->Prop}{G:Yj->gn->a8->Prop}(P:Ez c sc F (u.filterMap (c.ns[.]?)))(len:(u.filterMap (c.ns[.]?)).length=u.length)(XW:mz u X.l=Bc (dc,eK))(eo:bq C env c Z)(Ue:Out C env Z aR bJ w)(I:Inv C env ρ Z cs X s.heap)(HX:Go C aR ρ bJ cs w s.heap)(V:∀a,w.objs.size<=a->aR a=VG)(cZ:∀f a,(f,rt)∈sc.names->env.cells.lookup f=Bc a->cl.lookup f=Bc a)(wW:∀a∈W,ρ a=Bc .f/\w.objs.size<=a)(run:∀(B:a7)(vC:Ro)(J:ff)(L:gn)(H:ai (Str×a7)),H.map (·.1)=u.filterMap (c.ns[.]?)->L.locals≠B->Inv C L vC (F.map .l++H.map λp=>.cell p.1 p.2 D1) cs ⟨F.map (λY=>.ae)++eK,X.cells⟩ J->bq C L {c with sc:=sc,ns:=F++u.filterMap (c.ns[.]?),lv:=k,lam:=Un} (F.map .l++H.map λp=>.cell p.1 p.2 D1)->cF C (F.map .l++H.map λp=>.cell p.1 p.2 D1) vC (B::W)->J.get? B=Bc (bc [] 0)->B∉W->(∀a h,s.heap.get? a=Bc h->J.get? a=Bc h)->(∀a h,Sb ρ s.heap a h->Sb vC J a h)->(∀Q K M l9,Inv C L Q (F.map .l++H.map λp=>.cell p.1 p.2 D1) K l9 M->cq C (B::W) vC Q cs K J M->∃nq m,Inv C env nq Z K ⟨dc,l9.cells⟩ M/\Go C aR nq bJ K w M/\cy env Z s.heap M/\(∀a h,Sb Q M a h->Sb nq M a h)/\nq B=Bc .f/\w.objs.size<=B/\nq L.locals=Bc .f/\w.objs.size<=L.locals/\M.Ns L.locals m)->G (.ref B) L {s with heap:=J}):da (eg C.prog C.w) A (newList []) (λacc DW=>da (eg C.prog C.w) A (newFunctionEnv sc env.globals cl [] env.qual VG .none (Bc env)) (λL VE=>G acc {L with scope:=relabel sc env} VE) d DW) d s:=by
 refine pc (z? P.cells (by intro y hy;simp at hy) (λJ jg gp=>?_) P.kind)
 dsimp only at jg gp⊢
 generalize BV:s.heap.push {cls:=.type "list",dict:=VG,data:=.seq ([]:ai Yj).toArray}=H2 at jg gp⊢
 have hC:H2.objs.size=s.heap.objs.size+1:=by rw[<-BV,l7]
 have GJ:H2.get? s.heap.objs.size=Bc (bc [] 0):=aD BV (kK _ rfl)
 haveI k2:∀a h,s.heap.get? a=Bc h->H2.get? a=Bc h:=aD BV (cn _ _)
 have k3:∀a h,H2.get? a=Bc h->J.get? a=Bc h:=λa h l=>(gp.2 a (l4 (ib l))).trans (cn _ _ a h l)
 have kk:∀a h,s.heap.get? a=Bc h->J.get? a=Bc h:=λa h l=>k3 a h (k2 a h l)
 have qU:J.objs.size=s.heap.objs.size+2:=by rw[gp.1,l7,hC]
 have sz:s.heap.objs.size<=J.objs.size:=aa qU (zI _ _)
 generalize iD:H2.objs.size=t at jg gp⊢
 have abk:t=s.heap.objs.size+1:=aD iD hC
 generalize yt:s.heap.objs.size=B at*
 have BO:B≠t:=by lia
 refine cJ (acX XW I) λaI I2 g2 cp=>?_
 have U:∀a∈[t,B],s.heap.objs.size<=a/\a<J.objs.size:=λa m=>by simp only[hZ,lR,ox]at m;rcases m with rfl|rfl<;>lia
 have I3:=I2.qV kk (aa yt sz) U
 have g3:=oP (C:=C) (cs:=cs) (r:=.f) kk (aa yt sz) (λa m=>(U a m).1) I2.lt
 have v3:=iT I2 kk (aa yt sz)
 have gg:=g2.trans g3
 have F4:w.objs.size<=B:=aD yt HX.sz
 generalize G2:aI.plus [t,B] .f=dC at*
 have rC:dC t=Bc .f:=aD G2 (Ro.fo (.head _))
 have rD:dC B=Bc .f:=aD G2 (Ro.fo (.tail _ (.head _)))
 have w3:cF C Z dC (t::B::W):=cF.of I3 Ue λa m=>by
  rcases hZ.mp m with rfl|m
  .exact⟨rC,V _ (by lia)⟩
  .clear U BO GJ abk hC
   rcases hZ.mp m with rfl|m
   .exact⟨rD,V _ F4⟩
   .exact⟨(gg.kp a (wW a m).1).1,V _ (wW a m).2⟩
 obtain⟨H,e1,e2,e3,e4⟩:=Xv eo (cp.mono (.refl _) g3.st v3) len (lg.mpr λf m=>(P.tK f m).2)
 have BU:∀f∈u.filterMap (c.ns[.]?),f∈c.ns:=λf m=>by obtain⟨i,_,hi⟩:=List.mem_filterMap.mp m;exact mD hi
 have rE:=abV (cl:=cl) (Cn:=t) (k:=k) eo P e1 BU
 have O:(Xs sc cl t env).locals=t:=rfl
 have Hd:(Xs sc cl t env).cells=cl:=rfl
 show G _ (Xs sc cl t env) _
 generalize hce:Xs sc cl t env=L at rE O Hd⊢
 have Py:∀p∈H,p.1∈u.filterMap (c.ns[.]?):=λp m=>e1▸C! m
 have R1:∀f∈u.filterMap (c.ns[.]?),(f,rt)∈sc.names:=λf m=>Ev (P.tK f m).1
 have Ii:=I3.enter (by rw[O];exact rC) (by rw[O];exact(w3 t (.head _)).2.1) (by rw[O];exact jg) (λf cc b m=>aa O ((w3 t (.head _)).2.2.2 f cc b m)) (λf m=>rE.kd f .local (P.Ki f m).1 (by simp)) (λp m=>⟨(rE.kf p.1 (P.tK _ (Py p m)).1).symm,by rw[Hd];exact cZ _ _ (R1 _ (Py p m)) (e3 p m).2⟩) (λp m=>(e3 p m).1) e2 e4 (by rw[e1];exact P.nd)
 rw[O]at Ii
 have mi:∀{a:a7},a∈[t]↔a=t:=by simp
 have ou:∀a,a≠t->(dC.out.plus [t] .sc) a=dC.out a:=λa n=>Ro.eP λm=>n (mi.mp m)
 have nCW:t∉B::W:=λm=>by
  rcases hZ.mp m with r|m
  .exact BO r.symm
  .have eQ:t<s.heap.objs.size:=I.lt t (by rw[(wW t m).1];simp);lia
 refine run B (dC.out.plus [t] .sc) J L H e1 (by rw[O];exact ng BO) Ii rE (λa m=>?_) (k3 _ _ (by rw[<-yt]at GJ⊢;exact GJ)) (λm=>?_) kk (λa h f=>?_) λQ K M l9 I' gx=>?_
 .obtain⟨x1,x2,x3,x4⟩:=w3 a (.tail _ m)
  refine⟨?_,x2,x3,λf cc b m2=>?_⟩
  .rw[ou a λl=>nCW (l▸m)];exact Ro.fZ x1 (by simp)
  .rcases nG.mp m2 with m2|m2
   .obtain⟨y,_,l⟩:=List.mem_map.mp m2;cases l
   .obtain⟨p,hp,l⟩:=List.mem_map.mp m2
    cases l;obtain⟨b,hb⟩:=(e3 p hp).1;exact x4 _ _ _ hb
 .have eQ:B<s.heap.objs.size:=I.lt B (by rw[(wW B m).1];simp);lia
 .have :=gg.st a h f
  refine⟨this.1,?_⟩
  rw[ou a λl=>by have eQ:t<s.heap.objs.size:=l▸ib f.1;lia];exact Ro.sV.mpr this.2
 .have Q0:cq C (t::B::W) dC.out Q.out cs K J M:=by
   refine⟨gx.cs,λa h f=>?_,λa l=>?_,λa l=>?_,gx.sz⟩
   .refine lh (gx.st a h ⟨f.1,?_⟩)
    rw[ou a λl=>by have :=f.2;rw[l,Ro.fZ rC (by simp)]at this;cases this];exact f.2
   .by_cases r:a=t
    .subst r;exact⟨Ro.fZ (gx.sc _ (Ro.fo (.head _))) (by simp),λnm=>aL (.head _) nm⟩
    .obtain⟨y1,y2⟩:=gx.kp a (by rw[ou a r];exact l);exact⟨Ro.fZ y1 (by simp),λnm=>y2 λm=>nm (.tail _ m)⟩
   .rcases mh dC a _ l with r|⟨j,r⟩<;>cases r
  obtain⟨b1,b2,b3,b4⟩:=I3.aey w3 (I'.outer env) Q0 (mh Q)
  have hm:∃m,M.Ns t m:=by have cP:F≠[]:=P.ne;cases F with|nil=>exact aL rfl cP|cons x0 F=>
   have hl:0<l9.l.length:=by rw[I'.dH];simp
   obtain⟨_,_,v,_⟩:=I'.vars 0 (.l x0) _ rfl (ma hl)
   obtain⟨_,m,v,_⟩:=v;rw[O]at v;exact⟨m,v⟩
  obtain⟨m,hm⟩:=hm
  refine⟨dC.back Q.out,m,b1,cq.to (HX.trans gg) b2 (λa m=>?_),v3.trans b3,λa h f=>b4 a h (lh f),Ro.hG rD (by simp),F4,by rw[O];exact Ro.hG rC (by simp),by rw[O];lia,by rw[O];exact hm⟩
  rcases hZ.mp m with rfl|m
  .exact V _ (by lia)
  .rcases hZ.mp m with rfl|m
   .exact V _ F4
   .exact V _ (wW a m).2
end
section
variable{C:Cx}{N:Env}{n:ak}{b:T->St->R}
theorem Ll{s:St}(h:inScope k d s f=.ok (.o sl) j):∃m t l u,mz d s.l=Bc (m,t)/\f ⟨k.map (λY=>Slot.ae)++t,s.cells⟩=.ok (.ds l) u/\sl=.o l/\j=⟨m,u.cells⟩:=gC (P:=(.=R.ok (.o sl) j)) (M:=λa=>mz d s.l=a->_) R.noConfusion h (λc h v=>yd (P:=(.=R.ok (.o sl) j)) (M:=λr=>f ⟨k.map (λY=>Slot.ae)++c.2,s.cells⟩=r->_) R.noConfusion h (λp i h=>GA (P:=(.=R.ok (.o sl) j)) (M:=λp=>f ⟨k.map (λY=>Slot.ae)++c.2,s.cells⟩=.ok p i->_) R.noConfusion h λl h w=>aU (R.ok.inj h) λy A=>qf c.1 c.2 l i v w ((bp.o.inj y).symm) A.symm) rfl) rfl
theorem Inv.none_of{s:St}(I:Inv C env f i cs s h)(a:a7)(c:h.objs.size<=a):f a=VG:=Decidable.byContradiction λd=>aL (I.lt a d) (Nat.not_lt.mpr c)
theorem K8(ck:dz C)(bK:bG C n b)(dq:gF C n b)(O:aN c (f+1) (.comp v tg it w P k) (.ListComp U [⟨t,G,fs,0⟩] sc r)=D1){y:St}(V:jD N b (.comp v tg it w P k) y=.ok (.o sl) ag)(rm:bx C A (n+c.lv) c.hn)(eo:bq C env c af)(I:Inv C env ρ af cs y s.heap)(ok:∀l,sl=.o l->YV C A env ρ af cs s l ag X B Q):da (eg C.prog C.w) A (comprehension (.ListComp U [⟨t,G,fs,0⟩] sc r) sc env pos' (newList []) Un (jM G env) B) Q X s:=by
 replace O:=Z2 O
 simp only[ji]at O
 obtain⟨⟨⟨⟨⟨⟨⟨⟨hn,_⟩,hl⟩,hs⟩,ht⟩,t1⟩,t2⟩,t3⟩,t4⟩:=O
 haveI hl:(k.filterMap (c.ns[.]?)).length=k.length:=beq_iff_eq.mp hl
 haveI F:=PV hs
 have V:xE b it y (λj y=>bk (aM j) (inScope P k y λy=>cm b v tg w j [] y))=.ok (.o sl) ag:=V
 refine dG (ZZ ck bK t1 ht V hn) λj st1 H DC run=>?_
 clear V
 obtain⟨gr,H⟩:=ki H
 refine lz (Ll H) λdc eK l l9 h4 h5 h6 h7=>?_
 obtain rfl:=h6.symm
 subst h7
 refine aj (PH λd m=>JG eo I (F.frees _ m rfl) (F.tK _ (F.frees _ m rfl)).2) λcl cZ D7=>ara rfl (λd=>DC env d) cZ F.kind F.locals (run rm eo I ?_)
 intro aG aH h1 aQ eL W St I1 g1 k1 p gU w1
 refine Ju (k:=c.lv-1) (G:=λJ ce s'=>mO (eg C.prog C.w) A (.compStart (.ListComp U [⟨t,G,fs,0⟩] sc r) 0 eL J ce) (Yn (eg C.prog C.w) A X B Q J ce.locals) s') F hl h4 eo I.out I1 g1 I.none_of D7 w1 ?_
 intro K vC H Z cps e1 B8 Ii rE w2 hD yE kk xf L
 haveI hz:([]:ai D).length+j.length<=200000:=by haveI :=mc gr;simp only[CM];lia
 haveI tN:({c with sc:=sc,ns:=P.map c.nm++k.filterMap (c.ns[.]?),lv:=c.lv-1,lam:=Un}:TC).hn=D1:=hn
 haveI nX:cm b v tg w j [] ⟨(P.map c.nm).map (λY=>Slot.ae)++eK,st1.cells⟩=.ok (.ds l) l9:=aa nA h5
 have u:∀tk,mO (eg C.prog C.w) A (.compLoop (.ListComp U [⟨t,G,fs,0⟩] sc r) 0 eL (.ref K) Z) (Yn (eg C.prog C.w) A X B Q (.ref K) Z.locals) {s with heap:=H,toks:=tk}:=λtk=>by
  refine AX bK dq t4 t2 t3 tN p yE (rm.less (by dsimp only;exact ut (amk _ _) _) id) rE (ac0 t G fs U sc r eL (.ref K) Z) nX Ii w2 hD .nil (p.frame gU (.refl _) xf λa m h i=>kk a h i) hz ?_;intro ah M h' eY cX m' I' gx jc qM;refine H6 (L ah M h' _ I' gx) λnq m b1 b2 b3 b4 b5 b6 b7 b8 b9=>?_;clear w2 yE hD gx L;exact ok l rfl nq M h' eY K Z.locals m b1 b2 (k1.trans b3) (.o jc (qM.mono (.refl _) b4)) (λa m=>by
haveI :a=K:=hX.mp m
clear m
refine aD this.symm ?_;exact⟨b5,b6⟩) b7 b8 (ng B8) b9
 refine as4 (u _) (p.self (p.frame gU (.refl _) xf λa m h i=>kk a h i) (u _))
theorem vE(Y:dz C)(Z:bG C n b)(dq:gF C n b)(k:E)(tg:cO)(it:It)(r:ai E)(nl caps:ai ak):dy C N n b (.comp k tg it r nl caps):=by
 intro c f py u st sl ag J
 intro A env ρ af cs s Q X rm eo I ok
 haveI X3:∃v t w y B p,py=.ListComp v [⟨t,w,y,0⟩] B p:=by
  refine yY u λv gs B p i=>?_;clear u
  refine N3 i λt w y h_2=>?_;clear i;exact ach _ _ _ _ _ _ rfl
 obtain⟨v,t,w,y,B,p,rfl⟩:=X3
 rw[W!]
 refine K8 Y Z dq u J rm eo I ?_
 intro l hl K F h' tk G j m L g' k' sa H rC M Et O
 refine aF m O (λP U=>?_)
 clear J O
 subst hl
 haveI wC:cF C af K [j]:=cF.of L I.out λa m=>by haveI :a=j:=hX.mp m;clear m;refine aD this.symm (⟨rC,I.none_of _ M⟩)
 have V:∀a d,a∉[j]->h'.get? a=Bc d->P.get? a=Bc d:=λa d n h=>(U.2 a (by simpa using n)).trans h
 refine bD (L.jW wC V (mu U.1.symm)) λI2 W k2=>?_
 haveI gg:=cq.to g' W λa m=>by
  haveI :a=j:=hX.mp m
  clear m;refine aD this.symm (I.none_of _ M)
 refine ok K F P tk (.ref G) [G] I2 gg (k'.trans k2) (sa.keep (.refl _) W.st λa m d h=>V a d ?_ h) H iU;haveI :a=G:=hX.mp m;clear m h;refine aD this.symm ?_;simpa using Et
end
theorem M0(t c d f:dt)(h:ai dt)(j:dt)(s:uz)(p:Pos)(i b:Yj)(a:gn):Mf (.ListComp j [⟨t,c,[],0⟩,⟨d,f,h,0⟩] s p) 0 i b a=(do
Lg c.pos
match<-Wf i with
|none=>pure (.done .next)|some v=>
GM t i v
L2 t a v
let x<-jM f a
Lg f.pos let x<-W? f a x
let _<-runOwn (.compStart (.ListComp j [⟨t,c,[],0⟩,⟨d,f,h,0⟩] s p) 1 (<-holding [x] (G9 x)) b a) a
again (.compLoop (.ListComp j [⟨t,c,[],0⟩,⟨d,f,h,0⟩] s p) 0 i b a)):=by rfl
section
variable{j:uV}{w:jw}{A:ip}{R:Cw->a8->Prop}{s:a8}
theorem Yb(G:mO (eg j w) A (.compLoop (.ListComp elt (g0::⟨target,iter,ifs,0⟩::rest) scope pos) 1 it acc env) R s)(h:da (eg j w) A (G9 it) (λC B=>mO (eg j w) A (.compLoop (.ListComp elt (g0::⟨target,iter,ifs,0⟩::rest) scope pos) 1 C acc env) R B) (Xg (eg j w) A env λx B=>R (.error x) B) s):mO (eg j w) A (.compStart (.ListComp elt (g0::⟨target,iter,ifs,0⟩::rest) scope pos) 1 it acc env) R s:=by
 refine Tw (wpAny_notedAt ?_)
 unfold compStart
 refine ct (r? (wpAny_ite ?_))
 split
 .first|exact ct (gP (gP (At rfl G)))|exact gP (At rfl G)
 .first|exact ct (d? (ct (wz (ct (nL h (λC B F=>gP (At rfl F)) λY Y x=>x)))))|(refine ct (d? ?_);show da _ _ (Lg iter.pos>>=_) _ _ s;exact ct (wz (ct (nL h (λC B F=>gP (At rfl F)) λY Y x=>x))))
end
section
variable{C:Cx}{N:Env}{n:ak}{i:T->St->R}
theorem cq.G4{cs :ai CA}(b:cq C V k p cs j h r)(y:cq C W p s j t r u)(w:∀a∈W,a∈V\/k a=VG):cq C V k s cs t h u:=⟨b.cs.trans y.cs,λa c d=>y.st a c (b.st a c d),λa d=>⟨(y.kp a (b.kp a d).1).1,λl n=>((b.kp a d).2 l n).trans ((y.kp a (b.kp a d).1).2 (λm=>by
rcases w a m with f|f
.exact l f
.rw[f]at d;cases d) n)⟩,λa d=>y.sc a (b.sc a d),gY b.sz y.sz⟩
theorem PT(bK:bG C n i)(dq:gF C n i)(te:aN c f elt bT=D1)(tt:ia c f tg t=D1)(Nm:ia c f fQ t2=D1)(D2:aN c f fu fL=D1)(ti:bI (aN c f) ifs fs=D1)(hn:c.hn=D1){R:Cw->a8->Prop}(U:Iter C A t eL W se)(Z:F∉W)(rm:bx C A (n+c.lv) c.hn)(eo:bq C bu c af):∀{L:ai D}{st:St}{l:ai D}{ag:St},jR i elt tg fQ fu ifs G L st=.ok (.ds l) ag->∀{H cs}{s:a8}{j:ai Yj}{m:ak},Inv C bu H af cs st s.heap->cF C af H (F::W)->s.heap.get? F=Bc (bc j m)->aC C.w.params cs (Sb H s.heap) L j->se G cs (Sb H s.heap) s.heap->(∀u M B J cX m',Inv C bu u af M ag B->cq C (F::W) H u cs M s.heap B->B.get? F=Bc (bc cX m')->aC C.w.params M (Sb u B) l cX->R (.ok .next) {s with heap:=B,toks:=J})->mO (eg C.prog C.w) A (.compLoop (.ListComp bT [⟨t,bH,[],0⟩,⟨t2,fL,fs,0⟩] sc pos) 0 eL (.ref F) bu) R s:=by induction G with
|nil=>
intro L st l ag h H cs s j m I w hd ra hs k
cases h
refine Tw (AT ?_)
rw[M0]
have wr:∀a∈W,H a=Bc .f:=λa m=>(w a (.tail _ m)).1
refine ct (wz (ct (nL (U.done (Q:=λK=>∃B J,K={s with heap:=B,toks:=J}/\(∀a o,a∉W->s.heap.get? a=Bc o->B.get? a=Bc o)/\s.heap.objs.size<=B.objs.size) wr hs ?_) ?_ λY Y x=>x)))
.exactλB J a b=>gy B J rfl a b
.rintro o K⟨rfl,B,J,rfl,y,sz⟩
 have w':cF C af H W:=λa m=>w a (.tail _ m)
 refine bD (I.jW w' y sz) λI' O Y=>?_
 have p:cq C (F::W) H H cs cs s.heap B:=⟨O.cs,O.st,λa e=>⟨(O.kp a e).1,λn t=>(O.kp a e).2 (λm=>n (.tail _ m)) t⟩,O.sc,O.sz⟩;exact gP (k H cs B J j m I' p (y _ _ Z hd) (ra.mono (.refl _) p.st))|cons d G ih=>intro L st l ag h H cs s j m I w hd ra hs k;replace h:rO (iw tg d st.l) _=_:=h;cases h1:iw tg d st.l with|none=>rw[h1]at h;cases h|some II=>
rw[h1]at h
refine aS (dW h) λd2 st2 h2 h3=>aj (kL h3) λl2 DE h3=>?_
subst DE
obtain⟨gr,h3⟩:=ki h3
simp only[ji]at gr
refine aS (mY h3) λaeX st3 h4 h5=>Tw ?_
show da _ A ((Mf (.ListComp bT [⟨t,bH,[],0⟩,⟨t2,fL,fs,0⟩] sc pos) 0 eL (.ref F) bu).onRaise (λx=>do YS x bu;p? x)) _ _ s
refine AT ?_
rw[M0]
haveI wr:∀a∈W,H a=Bc .f:=λa m=>(w a (.tail _ m)).1
refine ct (wz (ct (nL (U.next (Q:=λv K=>∃B J,K={s with heap:=B,toks:=J}/\(∀a o,a∉W->s.heap.get? a=Bc o->B.get? a=Bc o)/\s.heap.objs.size<=B.objs.size/\se G cs (Sb H B) B/\Rd C.w.params cs (Sb H B) d v) wr I.lt hs ?_) ?_ λY Y x=>x)))
.exactλv B J a b c d=>Dr B J rfl a b c d
.rintro o K⟨v,rfl,hw⟩
 refine ct (nL hw ?_ λY Y x=>x)
 rintro _ qt⟨cb,aQ,rfl,y,sz,qC,rd⟩
 haveI w':cF C af H W:=λa m=>w a (.tail _ m)
 refine bD (I.jW w' y sz) λI1 g1 Y=>?_
 have sf:cq C (F::W) H H cs cs s.heap cb:=⟨g1.cs,g1.st,λa e=>⟨(g1.kp a e).1,λn t=>(g1.kp a e).2 (λm=>n (.tail _ m)) t⟩,g1.sc,g1.sz⟩
 have qN:=y _ _ Z hd
 refine ct (Aw C c f tt hn h1 rm eo I1 (.refl _ _ _ _) I1.out rd λaI ig bF I2 g2=>?_)
 have w2:cF C af aI (F::W):=w.go g2.x
 have e2:=g2.qB w
 refine ct (bK c f fu fL D2 _ _ _ h2 A bu aI af cs {s with heap:=ig,toks:=bF} _ _ rm eo I2 ?_)
 intro dC iQ zU fH v3 I3 g3 _ r3
 have w3:cF C af dC (F::W):=w2.go g3.x
 have e3:=g3.qB w2
 refine ct (wz (ct (bn (yw D2 bu v3) (ct (wq ?_)))))
 clear w2
 refine AB (tg:=t2) (s:={s with heap:=zU,toks:=fH}) (rm.hd hn) I3 rfl r3 (λY Y e=>by cases e) ?_
 intro gB Er sk l8 Oe W4 St4 I4 g4 _ Il AK w4
 have V:cF C af gB (F::W):=w3.go g4.x
 have e4:=g4.qB w3
 have Cu:∀a∈F::W,∀o,cb.get? a=Bc o->sk.get? a=Bc o:=λa m o e=>e4 a m o (e3 a m o (e2 a m o e))
 haveI tw:=(g2.trans g3).trans g4
 haveI hs4:=U.frame (U.frame (U.frame qC (.refl _) g2.st λa m=>e2 a (.tail _ m)) g3.cs g3.st λa m=>e3 a (.tail _ m)) g4.cs g4.st λa m=>e4 a (.tail _ m)
 have X:=sf.trans tw.x
 have n4:∀a∈W4,dC a=VG:=λa m=>I3.none_of a (w4 a m).2
 have A7:∀a∈W4,a∉F::W:=λa m m2=>by have :=(w3 a m2).1;rw[n4 a m]at this;cases this
 have wi:cF C af gB (F::W4):=λa m=>by
  clear A7 w3 Z qN X sf e4 e3 e2 Cu
  rcases hZ.mp m with rfl|m
  .exact V _ (.head _)
  .exact(cF.of I4 I3.out λa m=>⟨(w4 a m).1,n4 a m⟩) a m
 have hz:L.length+l2.length<=200000:=by
  haveI q1:=mc gr.1
  haveI q2:=mc gr.2;exact q6
 have OM:F∉W4:=λm=>A7 F m (.head _)
 haveI P:∀J,mO (eg C.prog C.w) A (.compLoop (.ListComp bT [⟨t,bH,[],0⟩,⟨t2,fL,fs,0⟩] sc pos) 1 Oe (.ref F) bu) (λr K=>match r with|.ok _=>da (eg C.prog C.w) A (again (.compLoop (.ListComp bT [⟨t,bH,[],0⟩,⟨t2,fL,fs,0⟩] sc pos) 0 eL (.ref F) bu)) (λfin K=>match fin with|.done f=>R (.ok f) K|.again c'=>c'.quiet=D1/\mO (eg C.prog C.w) A c' R K) (Xg (eg C.prog C.w) A bu λe K=>R (.error e) K) K|.error e=>ZC (eg C.prog C.w) A bu (Xg (eg C.prog C.w) A bu λe K=>R (.error e) K) e K) {s with heap:=sk,toks:=J}:=λJ=>by
  refine AX bK dq te Nm ti hn Il OM rm eo (aaN t bH t2 fL fs bT sc pos Oe (.ref F) bu) h4 I4 wi (Cu _ (.head _) _ qN) (ra.mono X.cs X.st) AK hz ?_
  intro lQ pf nX kP OG m5 I5 Q qv az
  clear wi w3 OM qN e4 e3 e2 Cu
  refine gP ⟨rfl,?_⟩
  have p:=X.G4 Q λa m=>by
   clear V A7 Z qv Q X
   rcases hZ.mp m with rfl|m
   .exact .inl (.head _)
   .right;cases q:H a with|none=>rfl|some r=>
   haveI :=I.lt a (aa q (yf _))
   haveI h5:=(w4 a m).2;exact aL (nB this (gY sf.sz (gY g2.sz g3.sz))) (Nat.not_lt.mpr h5)
  haveI e5:∀a∈W,∀o,sk.get? a=Bc o->nX.get? a=Bc o:=λa m o e=>by
   refine pF (V a (.tail _ m)) λy1 y2 y3 Y=>((Q.kp a y1).2 (λm2=>?_) y2).exact e y3
   clear V qv Q X sf p
   rcases hZ.mp m2 with rfl|m2
   .exact Z m
   .exact A7 a m2 (.tail _ m)
  refine ih h5 (s:={s with heap:=nX,toks:=kP}) I5 (λa m=>⟨(Q.kp a (V a m).1).1,(V a m).2⟩) qv az (U.frame hs4 Q.cs Q.st e5) (λu M B J cX m' I' O=>k u M B J cX m' I' (p.trans O))
 exact ct (wpAny_runOwn (Yb (P _) (Il.self AK (P _))))
theorem Ef(y:bG C n i)(dq:gF C n i)(elt:E)(tg:cO)(it:E)(fQ:cO)(fu:E)(ifs:ai E)(nl caps:ai ak):dy C N n i (.sD elt tg it fQ fu ifs nl caps):=by
 intro c f py J st sl ag P
 refine yY J λb gs sc K L=>?_;clear J
 refine Qj L λt U t2 k fs J=>?_;clear L
 simp only[ji]at J
 refine aU J λR0 t6=>?_
 obtain⟨⟨⟨⟨⟨⟨⟨⟨hn,_⟩,V⟩,hs⟩,t1⟩,cw⟩,t3⟩,t4⟩,t5⟩:=R0
 haveI V:(caps.filterMap (c.ns[.]?)).length=caps.length:=beq_iff_eq.mp V
 haveI G:=PV hs
 have P:((i (.e it) st).aT λv st=>rL v λitems=>inScope nl caps st λst=>jR i elt tg fQ fu ifs items [] st)=.ok (.o sl) ag:=P
 refine aS (dW P) λd st1 Z j=>?_
 intro A env ρ af cs s Q X u w I ok
 clear P;cases d with
|list items=>
refine lz (Ll j) λdc eK l l9 h4 h5 h6 h7=>?_
clear j
obtain rfl:=h6.symm
subst h7
rw[W!]
refine aj (PH λx m=>JG w I (G.frees _ m rfl) (G.tK _ (G.frees _ m rfl)).2) λcl cZ D7=>ara rfl (λx=>yw t1 env x) cZ G.kind G.locals (y c f it U t1 st _ st1 Z A env ρ af cs s _ _ u w I ?_)
intro ρ0 cs0 h0 tk0 v0 I0 g0 k0 r0
refine AB (tg:=t) (u.hd hn) I0 rfl r0 (λY Y e=>by cases e) ?_
intro aG aH Z aQ p W St I1 g1 k1 B r w1
refine Ju (s:={s with heap:=Z,toks:=aQ}) (k:=c.lv-1) (G:=λM h s'=>mO (eg C.prog C.w) A (.compStart (.ListComp b [⟨t,U,[],0⟩,⟨t2,k,fs,0⟩] sc K) 0 p M h) (Yn (eg C.prog C.w) A X VG Q M h.locals) s') G V h4 w I.out I1 (g0.trans g1) I.none_of D7 (λa m=>⟨(w1 a m).1,gY g0.sz (w1 a m).2⟩) ?_
intro O vC h3 H cps e1 B8 Ii rE w2 hD yE kk xf fin
haveI tN:({c with sc:=sc,ns:=nl.map c.nm++caps.filterMap (c.ns[.]?),lv:=c.lv-1,lam:=Un}:TC).hn=D1:=hn
haveI nX:jR i elt tg fQ fu ifs items [] ⟨(nl.map c.nm).map (λY=>Slot.ae)++eK,st1.cells⟩=.ok (.ds l) l9:=aa nA h5
have F:∀tk,mO (eg C.prog C.w) A (.compLoop (.ListComp b [⟨t,U,[],0⟩,⟨t2,k,fs,0⟩] sc K) 0 p (.ref O) H) (Yn (eg C.prog C.w) A X VG Q (.ref O) H.locals) {s with heap:=h3,toks:=tk}:=λtk=>by
 refine PT y dq t6 cw t3 t4 t5 tN B yE (u.less (by dsimp only;exact ut (amk _ _) _) id) rE nX Ii w2 hD .nil (B.frame r (.refl _) xf λa m o e=>kk a o e) ?_
 intro ah cs' h' eY cX m' I' gx jc qM
 refine H6 (fin ah cs' h' _ I' gx) λnq m b1 b2 b3 b4 b5 b6 b7 b8 b9=>aF m b9 (λeN gp=>?_)
 haveI wC:cF C af nq [H.locals]:=cF.of b1 I.out λa m=>by have :a=H.locals:=hX.mp m;clear m;subst this;exact⟨b7,I.none_of _ b8⟩
 have ex:∀a o,a∉[H.locals]->h'.get? a=Bc o->eN.get? a=Bc o:=λa o n e=>(gp.2 a (by simpa using n)).trans e
 refine bD (b1.jW wC ex (mu gp.1.symm)) λI2 g2 k2=>?_
 haveI gg:=cq.to b2 g2 λa m=>by
  haveI :a=H.locals:=hX.mp m
  clear m
  subst this;exact I.none_of _ b8
 refine ok nq cs' eN eY (.ref O) [O] I2 gg ((k0.trans k1).trans (b3.trans k2)) (.o (ex _ _ (by simpa using ng B8) jc) ((qM.mono (.refl _) b4).mono (.refl _) g2.st)) (λa m=>?_) iU
 haveI :a=O:=hX.mp m;clear m;refine aD this.symm (⟨b5,b6⟩)
exact as4 (F _) (B.self (B.frame r (.refl _) xf λa m o e=>kk a o e) (F _))
|_=>cases j
end
section
variable{C:Cx}{N:Env}{n:ak}{j:T->St->R}
theorem T7:dy C N n j .nest:=by
 intro c f L p M O P y
 refine ub p λU V i=>?_;clear p
 refine i1 i λW k=>?_;clear i
 refine ub k λZ w p=>?_;clear k
 refine i0 p λY=>?_
 intro A l ρ af cs s Q X rm eo I B
 cases y
 refine am ?_
 haveI F:yy [dt.List [] w] l=[(Un,jM (.List [] w) l)]:=rfl
 refine aa F (Eh (am (SF ⟨aa l3 (oZ _),?_⟩)))
 refine Lu ⟨aa l3 (by simp),?_⟩
 generalize t:s.heap.push {cls:=.type "list",data:=.seq (#[]:iO Yj)}=H1
 have r:H1.objs.size=s.heap.objs.size+1:=by rw[<-t,l7]
 haveI G:H1.get? s.heap.objs.size=Bc (bc [] 0):=aD t (kK _ rfl)
 haveI H:∀a b,s.heap.get? a=Bc b->H1.get? a=Bc b:=aD t (cn _ _)
 have u:∀a b,s.heap.get? a=Bc b->(H1.push {cls:=.type "list",data:=.seq ([nv s.heap.objs.size].toArray)}).get? a=Bc b:=λa b d=>cn _ _ a b (H a b d)
 haveI v:s.heap.objs.size<=(H1.push {cls:=.type "list",data:=.seq ([nv s.heap.objs.size].toArray)}).objs.size:=by rw[l7,r];lia
 have h:∀a∈[H1.objs.size,s.heap.objs.size],s.heap.objs.size<=a/\a<(H1.push {cls:=.type "list",data:=.seq ([nv s.heap.objs.size].toArray)}).objs.size:=λa m=>by rw[l7,r];simp only[hZ,lR,ox]at m;rw[r]at m;rcases m with rfl|rfl<;>lia
 haveI J:=I.qV u v h
 haveI K:=oP (C:=C) (cs:=cs) (r:=.f) u v (λa m=>(h a m).1) I.lt;refine B _ cs _ s.toks (.ref H1.objs.size) [H1.objs.size,s.heap.objs.size] J K (iT I u v) ?_ (λa m=>⟨Ro.fo m,(h a m).1⟩) (aa r (by simp));exact .bS (kK _ rfl) (.cons (cn _ _ _ _ G) .nil .nil)
def BM(a:E):aA:=ys 2 a.ix
def xW(d:E):aA:=js d.ix 4
@[elab_as_elim]theorem aaA{M:E->Prop}{d:E}(h:BM d=D1)(u:xW d=Un)(m:∀a r v,M (.p a r v))(s:∀i f,M (.isNil i f))(t:∀a f,M (.jB a f)):M d:=by cases d with|p a b c=>exact m a b c|isNil a b=>exact s a b|jB a b=>exact t a b|_=>first|exact no h|exact xa u
@[elab_as_elim]theorem S7{M:E->Prop}{d:E}(h:xW d=D1)(m:∀a,M (.nt a))(s:∀k l,M (.bj k l))(t:∀a b c,M (.ite a b c)):M d:=by cases d with|nt a=>exact m a|bj a b=>exact s a b|ite a b c=>exact t a b c|_=>exact no h
theorem Ya{N:Env}{s:St}(h:xW e=Un):stepT j e s=(j (.x e) s).bindB λb s=>vB b s:=by cases e<;>first|rfl|exact xa h
def LK(y:dt):aA:=wH y (λa Y Y=>decide (a=.Not))||js y.ctorIdx 0||js y.ctorIdx 5||js y.ctorIdx 15
theorem isTrue_plain(h:LK p=Un)(a:gn)(w:Sem Yj):GZ p a w=(do let v<-w;Lg p.pos;holding [v] (truthy v)):=by cases p with
|UnaryOp b _ _=>cases b<;>first|rfl|exact xa h
|_=>first|rfl|exact xa h
theorem abi(B:BM e=Un)(A:aN c (f+1) e py=D1):LK py=Un:=by cases e<;>first|exact xa B|exact dD A λY Y Y=>rfl|exact pB A λY Y Y Y=>rfl|exact ku A λY Y Y Y=>rfl|exact jm A λY Y Y Y Y=>rfl|exact pP A λY Y Y Y=>rfl|exact Fl A λY Y Y Y Y=>rfl|exact ub A λY Y Y=>rfl|exact ri A λY Y Y Y=>rfl|exact zR A λY Y Y Y=>rfl|exact yY A λY Y Y Y Y=>rfl|exact wj A λo v p h=>(show o=.USub from hQ (iA h).1)▸rfl
theorem Mz(p:kY C N n)(f:bG C n j)(w:gF C n j)(v:∀i,dy C N n j (.told i)):∀c,dy C N n j c|.l i=>aay i|.c d=>x_c d|.aO k=>UE p k|.bw a k=>yO p.gW f a k|.sub a b=>qo f a b|.jC i b=>yC f i b|.cU a H I=>TV f a H I|.rev a=>adL f a|.b y a b=>ij f y a b|.neg a=>WC f a|.nt a=>Rx f a|.p a A J=>uJ p.gW f a A J|.isNil i r=>ZY i r|.jB a r=>Xk p.gW f a r|.bj y l=>W9 f y l|.ite t a b=>abA f w t a b|.a l=>YB f l|.nest=>T7|.u l=>xk f l|.i7 K L=>ZI f K L|.call k l=>x_call f p k l|.T3 k m a=>Fv f p k m a|.cH a k l=>yB f p a k l|.ie i=>TJ p i|.told i=>v i|.yc i=>acQ i|.comp s B F u G h=>vE p.gW f w s B F u G h|.sD s B F M O u G h=>Ef f w s B F M O u G h
theorem TO{r:R}{s:St}(h:r.bC=.ok p s):r=.ok p s:=by cases r<;>first|exact h|cases h
theorem vi{s:St}(h:step N j (.x e) s=.ok p a):jD N j e s=.ok p a:=by
 haveI h:(if yx e then jD N j e s else(jD N j e s).bC)=_:=h
 split at h
 .exact h
 .exact TO h
theorem TN(b:kY C N n)(d:bG C n j)(k:gF C n j)(t:∀i,dy C N n j (.told i)):n6 C n (step N j):=by intro c f a p h s l m r;cases f with|zero=>exact no h|succ f=>exact Mz b d k t a c f p h s l m (vi r)
theorem aaI(u:n6 C n j):bG C n (step N j):=by intro c f b y B k d ag F A l p G cs s Q X H J I K;refine aS (Rn (show((j (.x b) k).iK λs k=>oD (fz s) k)=_ from F)) λL M O r=>cJ (Po r) λd' P U V=>?_;clear r;cases U;subst V;refine u c f b y B k L _ O A l p G cs s _ _ H J I ?_;intro aG aH bo aQ v W Y Z k1 sa i nd;refine aj (Dh sa P) λw hw rd=>aa (eF hw) ?_;have t:∀a∈W,p a=VG:=λa m=>I.none_of a (i a m).2;refine aU (Y.E8 Z I.cM I.c0 (λa m b m2 h=>I.f0 b m2 a h (t a m)) λa m=>⟨(i a m).1,aa (t a m) (by simp)⟩) λI2 g2=>?_;exact K _ _ _ _ _ I2 g2 k1 rd
def Dg(C:Cx)(n:ak)(j:T->St->R):Prop:=∀(c:TC)(f:ak)(a:E)(p:dt),aN c f a p=D1->∀i b k,j (.x a) i=.ok (.o (.sh (.bool b))) k->xW a=Un->∀A d l h cs s Q X,bx C A (n+c.lv) c.hn->bq C d c h->Inv C d l h cs i s.heap->mC C d l h cs s b k Q->da (eg C.prog C.w) A (GZ p d (jM p d)) Q X s
theorem RP(G:kY C N n)(H:bG C n j)(O:gF C n j)(t:∀i,dy C N n j (.told i)):Dg C n (step N j):=by intro c f d p h m b r l P A k u w cs s Q X y B I F;cases f with|zero=>exact no h|succ f=>
by_cases M:BM d=D1
.revert l;revert h
 refine aaA M P (λa J U h l=>?_) (λi K h l=>?_) λa K h l=>?_
 .exact fX G.gW H a J U c f p h m b r (vi l) A k u w cs s Q X y B I F
 .exact acE i K c f p h m b r (vi l) A k u w cs s Q X y B I F
 .exact aes G.gW H a K c f p h m b r (vi l) A k u w cs s Q X y B I F
.refine wpAny_isTrue_value (Mz G H O t d c f p h m _ r (vi l) A k u w cs s _ _ y B I ?_) (isTrue_plain (abi (by simpa using M) h) _ _)
 intro aG aH bo aQ v os V W Y Z L nd;clear L nd;exact Z.rd.ofBool▸C8 (F _ _ _ _ V W Y)
theorem Qc(G:Dg C n j)(B:gF C n j):gF C n (step N j):=by intro c f d p h r b F i A k t u cs s Q X v w I y;cases f with|zero=>exact no h|succ f=>
by_cases m:xW d=D1
.revert i;revert h
 refine S7 m (λa h i=>?_) (λH l h i=>?_) λY Y Y h i=>?_
 .exact yM B a c f p h r b F i A k t u cs s Q X v w I y
 .exact R3 B H l c f p h r b F i A k t u cs s Q X v w I y
 .exact aL i fE
.have m:=Bool.eq_false_iff.mpr m
 refine aS (qg ((Ya (N:=N) m).symm.trans i)) λP J K L=>aU (qh L) λM O=>?_;cases M;subst O;exact G c (f+1) d p h r b _ K m A k t u cs s Q X v w I y
end
inductive ExcAt(C:Cx)(cs:ai CA)(ρ:Ro)(h:ff)(e:a7)(d:D):aw Yj->ai a7->Prop|fresh{oe:Obj}{vs:iO Yj}{dx:a7}{t:Tok}{v:Yj}{n:ak}:ρ e=Bc .f->e≠C.tab->h.get? e=Bc oe->oe.cls=.ref C.bad->oe.dict=Bc dx->Sb ρ h dx (bP [⟨lF C.w.params "told",.str "told" t,v⟩] n)->Rd C.w.params cs (Sb ρ h) d v->oe.data=.fields vs->vs[1]?=Bc .none->ExcAt C cs ρ h e d VG [e]|lB{oe oT:Obj}{vs ts:iO Yj}{dx T:a7}{t:Tok}{v fv:Yj}{n:ak}:ρ e=Bc .f->e≠C.tab->h.get? e=Bc oe->oe.cls=.ref C.bad->oe.dict=Bc dx->Sb ρ h dx (bP [⟨lF C.w.params "told",.str "told" t,v⟩] n)->Rd C.w.params cs (Sb ρ h) d v->oe.data=.fields vs->vs[1]?=Bc (.ref T)->ρ T=Bc .f->T≠C.tab->T≠e->h.get? T=Bc oT->oT.data=.fields ts->ts[3]?=Bc fv->ExcAt C cs ρ h e d (Bc fv) [e,T]
section
variable{C:Cx}{u:gn}{B ah aR:Ro}{G:ai Pl}{cs cs' bJ:ai CA}{H:St}{h F K:ff}{W:ai a7}{e:a7}{d:D}{J:aw Yj}
theorem Inv.Eu(I:Inv C u B G cs H h)(f:h.get? a=Bc o)(i:o.data=.fields v):km C a:=λe m b=>by obtain⟨_,L,l,j,_,c,k⟩:=I.eS e m;rw[j]at b;cases b;rw[f]at c;cases c;exact k v i
theorem Inv.Zl(I:Inv C u B G cs H h)(w:cF C G B W)(ex:∀a f,a∉W->h.get? a=Bc f->(km C a->F.get? a=Bc f)/\∃U,F.get? a=Bc {f with slots:=U})(sz:h.objs.size<=F.objs.size)(N:∀a∈as,h.objs.size<=a/\a<F.objs.size):Inv C u (B.plus as .f) G cs H F/\cq C W B (B.plus as .f) cs cs h F/\cy u G h F:=by
 have nW:∀a,B a≠Bc .f->a∉W:=λa k m=>k (w a m).1
 haveI np:∀a,B a≠VG->a∉as:=λa e m=>aL (I.lt a e) (Nat.not_lt.mpr (N a m).1)
 have M:∀a r,B a=Bc r->B.plus as .f a=Bc r:=λa r e=>aa (Ro.eP (np a (aa e (yf _)))) e
 haveI nf:∀a,B a≠Bc .f->B a≠Bc .sc->km C a:=λa V n2 e m l=>by
  obtain⟨_,L,_,f1,O,_⟩:=I.eS e m
  rw[f1]at l;cases l
  rcases O with O|O
  .exact V O
  .exact n2 O
 have ke:∀a,B a≠Bc .f->B a≠Bc .sc->∀f,h.get? a=Bc f->F.get? a=Bc f:=λa V n2 f e=>(ex a f (nW a V) e).1 (nf a V n2)
 have P:∀a,a∉W->fA C h F a:=λa k f e=>by
  obtain⟨x1,U,X⟩:=ex a f k e
  refine aF U X (λl=>?_);haveI :=x1 l;rw[X]at this;exact gO Obj.slots (eF this)
 have Q:∀a f,Sb B h a f->Sb (B.plus as .f) F a f:=λa f t=>⟨ke a (by rw[t.2];simp) (by rw[t.2];simp) f t.1,by refine aa (Ro.eP λm=>aL (ib t.1) (Nat.not_lt.mpr (N a m).1)) ?_;exact t.2⟩
 have vk:cy u G h F:=λp m ov t=>t.keep (λy e=>P _ (nW _ (aa (I.locs y (e▸m)) (by simp)))) λy c b e=>P _ λmw=>(w c mw).2.2.2 y c b (e▸m) rfl
 haveI tn:C.tab∉W:=λm=>(w _ m).2.1 rfl
 haveI tf:km C C.tab:=by refine aj I.tab λvs e l=>I.Eu e rfl
 refine cV ⟨λa e=>?_,λa f e=>Q a f (I.base a f e),?_,M _ _ I.cM,I.dH,I.d9,λi p s Z hs=>?_,λj c p hc Z=>?_,λa j e=>?_,I.names,λt m=>M _ _ (I.locs t m),λt c b m=>?_,I.je,I.fW,λe m=>?_⟩ ⟨.refl _,Q,λa e=>⟨M _ _ e,λk Y=>P a k⟩,λa e=>M _ _ e,sz⟩ vk
 .by_cases m:a∈as
  .exact(N a m).2
  .rw[Ro.eP m]at e;exact nB (I.lt a e) sz
 .refine aj I.tab λvs e l=>aF vs ((ex _ _ tn e).1 tf) (l.mono Q)
 .refine fN (I.vars i p s Z hs) λos ov v t r nd=>hY os ov (vk p (mD Z) ov v) (t.keep (.refl _) Q λa m=>ke a (aa (r a m) (by simp)) (aa (r a m) (by simp))) (λa m=>M _ _ (r a m)) nd
 .refine bD (I.cells j c p hc Z) λt r nd=>cV (t.keep (.refl _) Q λa m=>ke a (aa (r a m) (by simp)) (aa (r a m) (by simp))) (λa m=>M _ _ (r a m)) nd
 .by_cases m:a∈as
  .rw[Ro.fo m]at e;cases e
  .rw[Ro.eP m]at e;exact I.gG a j e
 .rcases I.eT t c b m with l|l
  .exact .inl ⟨l.1,M _ _ l.2⟩
  .exact .inr ⟨l.1,M _ _ l.2⟩
 .exact(I.eS e m).step I.tab (λa l A=>⟨M _ _ l,λY=>P a λmw=>(w a mw).2.2.1 e m A⟩) λa l=>⟨.inr (M _ _ l),λA=>aj A λf y1 y2=>by refine aj (P a (nW a (aa l (by simp))) f y1) λU X Y=>?_;exact aF _ X y2⟩
theorem ExcAt.DG(b:ExcAt C cs B h e d J W):∀a∈W,B a=Bc .f/\a≠C.tab/\∃c v,h.get? a=Bc c/\c.data=.fields v:=by cases b with|fresh r f i k l p s j t=>intro a m;haveI :a=e:=hX.mp m;clear m;refine aD this.symm (⟨r,f,_,_,i,j⟩)|lB r f i k l p s j t w y L A I M=>
intro a m
rcases hZ.mp m with rfl|m
.exact⟨r,f,_,_,i,j⟩
.rw[hX]at m;exact aa m ⟨w,y,_,_,A,I⟩
theorem ExcAt.dQ(f:ExcAt C cs B h e d J W)(I:Inv C u B G cs H h):cF C G B W:=λa m=>by refine cps λP p=>?_;obtain⟨r,j,k,Q,s,t⟩:=f.DG a m;refine p ?_;clear p P;refine qL r j (I.Eu s t) (λy c b M l=>?_);obtain rfl:=l.symm;obtain⟨i,w,N⟩:=List.mem_iff_getElem.mp M;have O:i<H.l.length:=aa I.dH w;refine aS (I.vars i _ _ (ma w) (ma O)) λY Y v Y=>?_;rw[N]at v;obtain⟨_,_,U,A,L⟩:=v;rw[s]at A;cases A;rw[t]at L;cases L
structure jz(C:Cx)(A:ip)(env:gn)(L:a7)(outer:ai gn):Prop where
fr:A.frames=Bc (env::outer)
DM:C.fr=env::outer
f:env.frame=Bc L
theorem PL:∀{l:ai gn},(∀e∈l,vG B h e)->h.FunFrames {} l|[],_=>trivial|e::l,k=>by refine cps λP b=>?_;obtain⟨c,L,a,f,_,i,j⟩:=k e (.head _);refine b ?_;clear b P;exact cV c ⟨L,a,f,rfl,i,j⟩ (PL λe m=>k e (.tail _ m))
theorem RJ{E:Yj->a8->Prop}(X:A.frames=Bc (u::outer))(w:s.heap.FunFrames {} (u::outer))(r:u.frame=Bc L)(Y:s.heap.get? e=Bc oe)(P:oe.data=.fields vs)(Z:1<vs.size)(k:∀F T y c,s.heap.objs.size<=T->T<F.objs.size->F.get? T=Bc y->y.data=.fields c->c[3]?=Bc (mB L)->F.get? e=Bc {oe with data:=.fields (vs.setIfInBounds 1 (.ref T))}->(∀b o,b≠e->s.heap.get? b=Bc o->(b∉(u::outer).filterMap (·.frame)->F.get? b=Bc o)/\∃sl,F.get? b=Bc {o with slots:=sl})->s.heap.objs.size<=F.objs.size->Q () {s with heap:=F}):da M A (do let a<-frameOf u;let N<-entryPlaceOf L EA;let b<-E! head a .none (mB L) .none N;setField (.ref e) 1 b) Q E s:=by
 haveI t:e∉(u::outer).filterMap (·.frame):=λhm=>by obtain⟨_,o,U,XK⟩:=w.mem hm;rw[Y]at U;injection U with U;subst U;exact XK vs P
 refine ct (wpAny_frameOf_fun X w r λI O=>?_)
 refine ct (wpAny_entryPlaceOf λN f=>?_)
 unfold E! newFields
 refine ct (pc ?_ (f.sizeOk5 _ _ _ _ _))
 have j:I.get? e=Bc oe:=(O.2.1 e t).trans Y
 haveI v:=sy {cls:=.type "traceback",dict:=VG,data:=.fields ([head,.ref L,.none,mB L,.none]++(if N.isEmpty then tI 6 BK else N)).toArray} j
 refine o! v P Z ?_
 haveI Qs:I.objs.size≠e:=cr (ib j)
 haveI i:=z! P (·.setIfInBounds 1 (nv I.objs.size))
 haveI l:=UB (S0 (·.setIfInBounds 1 (nv I.objs.size))) v (ar3 i)
 haveI V0:=(P2 (I.push {cls:=.type "traceback",dict:=VG,data:=.fields ([head,.ref L,.none,mB L,.none]++(if N.isEmpty then tI 6 BK else N)).toArray}) (S0 (·.setIfInBounds 1 (nv I.objs.size))) (ng Qs)).trans (kK I rfl)
 have keep:∀b o,b≠e->I.get? b=Bc o->((I.push {cls:=.type "traceback",dict:=VG,data:=.fields ([head,.ref L,.none,mB L,.none]++(if N.isEmpty then tI 6 BK else N)).toArray}).update e (S0 (·.setIfInBounds 1 (nv I.objs.size)))).get? b=Bc o:=λb o Sl V=>by exact aa (P2 _ _ (ng Sl)) (sy _ V)
 haveI m:s.heap.objs.size=I.objs.size:=by first|exact O.1.symm|exact O.1
 clear v j Y i
 refine k _ I.objs.size _ _ (mu m) (by rw[nH,l7];exact zC _) V0 rfl ?_ ?_ (λb o p V=>⟨λnm=>keep b o p ((O.2.1 b nm).trans V),?_⟩) (by rw[nH,l7,m];exact tm _)
 .first|(simp;done)|(rcases f with rfl|⟨_,_,_,_,_,_,_,rfl⟩<;>simp)
 .refine aa l ?_
  clear k l
  obtain⟨oc,od,K1,yo⟩:=oe
  subst P;rfl
 .refine eE (O.2.2 b o V) λsl hs=>⟨sl,keep b _ p hs⟩
end
section
variable{C:Cx}{c:gn}{i B aR:Ro}{l:ai Pl}{cs cs' bJ:ai CA}{p:St}{h u F:ff}{W:ai a7}{e:a7}{d:D}{y:aw Yj}
variable{M:Model}{A:ip}{s:a8}{j:ai gn}{L:a7}{Q:ur->a8->Prop}{E:Yj->a8->Prop}
theorem Yi(k:C.fr=c::j)(a:km C b):b∉(c::j).filterMap (·.frame):=λm=>by obtain⟨f,r,t⟩:=List.mem_filterMap.mp m;exact a f (k▸r) t
def wK(C:Cx)(c:gn)(i:Ro)(l:ai Pl)(cs:ai CA)(p:St)(s:a8)(e:a7)(d:D)(W:ai a7)(y:Yj)(Q:ur->a8->Prop):Prop:=∀B b u,Inv C c B l cs p u->cq C W i B cs cs s.heap u->cy c l s.heap u->ExcAt C cs B u e d (Bc y) b->(∀a∈b,a∈W\/s.heap.objs.size<=a)->Q () {s with heap:=u}
theorem Jh(N:jz C A c L j)(I:Inv C c i l cs p s.heap)(w:cF C l i W)(O:e∈W)(X:s.heap.get? e=Bc V)(Y:V.cls=.ref C.bad)(Z:V.dict=Bc dx)(eU:Sb i s.heap dx (bP [⟨lF C.w.params "told",.str "told" t,v⟩] f))(rd:Rd C.w.params cs (Sb i s.heap) d v)(hd:V.data=.fields vs)(K:1<vs.size)(k:wK C c i l cs p s e d W (mB L) Q):da M A (do let a<-frameOf c;let pl<-entryPlaceOf L EA;let b<-E! head a .none (mB L) .none pl;setField (.ref e) 1 b) Q E s:=by
 refine RJ N.fr (PL λe m=>I.eS e (N.DM▸m)) N.f X hd K λu r oT ts P z2 hT dT h3 Z4 ex sz=>?_
 have QC:∀a G,a∉W->s.heap.get? a=Bc G->(km C a->u.get? a=Bc G)/\∃sl,u.get? a=Bc {G with slots:=sl}:=λa G f H=>by obtain⟨x1,x2⟩:=ex a G (λJ=>f (J▸O)) H;exact⟨λnf=>x1 (Yi N.DM nf),x2⟩
 obtain⟨I',U,v'⟩:=I.Zl w QC sz λa m=>by rw[hX]at m;exact aa m ⟨P,z2⟩
 have rT:(i.plus [r] .f) r=Bc .f:=Ro.fo (.head _)
 have tT:r≠C.tab:=λH=>by have :=I.lt C.tab (aa I.cM (yf _));exact aL (H▸this) (Nat.not_lt.mpr P)
 have Te:r≠e:=λH=>aL (H▸ib X) (Nat.not_lt.mpr P)
 refine k _ [e,r] u I' U v' (.lB (U.kp _ (w e O).1).1 (w e O).2.1 Z4 Y Z (U.st _ _ eU) (rd.mono (.refl _) U.st) rfl ?_ rT tT Te hT dT h3) λa m=>?_
 .exact aa (ape K) rfl
 .rcases hZ.mp m with rfl|m
  .exact .inl O
  .rw[hX]at m;exact aa m (.inr P)
section
set_option tactic.hygienic true
theorem C7(ot:jz C A c L j)(I:Inv C c i l cs p s.heap)(f:ExcAt C cs i s.heap e d y W)(lI:y=VG\/y=Bc .none\/y=Bc (mB L))(k:wK C c i l cs p s e d W (mB L) Q):da M A (YS (.ref e) c) Q E s:=by have w:=f.dQ I;unfold YS;simp only[ot.f];cases f with|fresh r G P X Y Z rd U V=>refine ct (Lo P U V ?_);exact aa (ej (by decide)) (Jh ot I w (.head _) P X Y Z rd U (Array.getElem?_eq_some_iff.mp V).1 k)|lB r G P X Y Z rd U V rT nT ne hT dT h3=>
rename_i oe oT vs ts dx H t v fv m
refine ct (Lo P U V ?_)
refine aa (eI (show(nv H !=BK)=D1 from by simp)) ?_
refine ct (Lo hT dT h3 ?_)
by_cases hL:fv=mB L
.subst hL;refine aa (eI (show(mB L==mB L)=D1 from by simp)) ?_;refine gP (k i [e,H] s.heap I ((Go.refl C i cs s.heap).x) (.refl _ _ _) (.lB r G P X Y Z rd U V rT nT ne hT dT h3) λa m=>.inl m)
.have ZW:fv=.none:=by
  rcases lI with J|J|J
  .cases J
  .exact eF J
  .exact aL (eF J) hL
 refine aa ZW (aa (ej (show¬((BK==mB L)=D1)from by simp[mB])) ?_);refine ct (o! hT dT (Array.getElem?_eq_some_iff.mp h3).1 ?_);have O:∀b,b≠H->(s.heap.update H (S0 (·.setIfInBounds 3 BK))).get? b=s.heap.get? b:=λb hb=>P2 _ _ (ng hb);have zz:(s.heap.update H (S0 (·.setIfInBounds 3 BK))).objs.size=s.heap.objs.size:=nH _ _ _;obtain⟨I1,g1,v1⟩:=I.jW w (λa K na J=>(O a λN=>na (aa N (.tail _ (.head _)))).trans J) (mu zz.symm);have w1:cF C l i [e,H]:=w;refine Jh ot I1 w1 (.head _) ((O e (ng ne)).trans P) X Y (g1.st _ _ Z) (rd.mono (.refl _) g1.st) U (Array.getElem?_eq_some_iff.mp V).1 ?_;intro B W' u I' g' v' x' nw;exact k B W' u I' (g1.trans g') (v1.trans v') x' λa m=>(nw a m).imp id λN=>zz▸N
end
section
set_option tactic.hygienic true
theorem yr(I:Inv C c i l cs p s.heap)(G:ExcAt C cs i s.heap e d (Bc fv) W)(k:wK C c i l cs p s e d W (f.elim BK λa=>mB a) Q):da M A (setFlight (.ref e) f) Q E s:=by have w:=G.dQ I;cases G with|lB r H X hc eM eU rd Y Z rT nT ne hT U h3=>rename_i oe oT vs ts dx J t v m;unfold setFlight;refine ct (Lo X Y Z ?_);refine aa (eI (show(nv J !=BK)=D1 from by simp)) ?_;have Oa:=(Array.getElem?_eq_some_iff.mp h3).1;refine o! hT U Oa ?_;have P:∀b,b≠J->(s.heap.update J (S0 (·.setIfInBounds 3 (f.elim BK λa=>mB a)))).get? b=s.heap.get? b:=λb hb=>P2 _ _ (ng hb);obtain⟨I1,V,v1⟩:=I.jW w (λa K na N=>(P a λO=>na (aa O (.tail _ (.head _)))).trans N) (mu (nH _ _ _).symm);refine k i [e,J] _ I1 V v1 (.lB r H ((P e (ng ne)).trans X) hc eM (V.st _ _ eU) (rd.mono (.refl _) V.st) Y Z rT nT ne (UB _ hT (ar3 (z! U _))) (z! U _) ?_) λa m=>.inl m;exact aa (ape Oa) rfl
end
theorem ExcAt.one(a:ExcAt C cs i h e d (Bc G) W):∃k v b,h.get? e=Bc k/\k.data=.fields v/\v[1]?=Bc (.ref b):=by cases a with|lB r f m H I J K t w N O P U V X=>exact rP _ _ _ m t w
theorem Ry(m:c.frame=Bc L)(I:Inv C c i l cs p s.heap)(a:ExcAt C cs i s.heap e d (Bc G) W)(k:wK C c i l cs p s e d W (mB L) λY r=>X (.ref e) r):ZC M A c X (.ref e) s:=by refine cps λP f=>?_;obtain⟨H,J,b,t,v,w⟩:=a.one;refine f ?_;clear f P;unfold ZC;refine ct (Lo t v w ?_);refine aa (ej (show¬((nv b==BK)=D1)from by simp)) ?_;exact aa m (yr I a k)
theorem YI(v:jz C A c L j)(I:Inv C c i l cs p s.heap)(b:ExcAt C cs i s.heap e d y W)(w:y=VG\/y=Bc .none\/y=Bc (mB L))(k:wK C c i l cs p s e d W .none Q):da M A (leaving c (.ref e)) Q E s:=by
 unfold leaving
 refine ct (C7 v I b w ?_)
 intro Z W1 h1 G r H J t
 refine yr G J ?_
 intro K N O P U V X Y
 refine k K N O P (r.G4 U λa m=>?_) (H.trans V) X λa m=>?_
 .rcases t a m with f|f
  .exact .inl f
  .exact .inr (I.none_of a f)
 .rcases Y a m with f|f
  .exact t a f
  .exact .inr (gY r.sz f)
end
def qY(C:Cx)(y:gn)(B:Ro)(F:ai Pl)(cs:ai CA)(s:a8)(d:D)(i:St)(X:Yj->a8->Prop):Prop:=∀H w J t b W,Inv C y H F w i J->Go C B H cs w s.heap J->ExcAt C w H J b d (Bc .none) W->(∀a∈W,B a≠Bc .f)->X (.ref b) {s with heap:=J,toks:=t}
theorem oq(b:Go C B H cs w h J)(c:H a≠Bc .f):B a≠Bc .f:=λd=>c (b.kp a d).1
section
variable{C:Cx}{y:gn}{B H:Ro}{F:ai Pl}{cs w:ai CA}{s:a8}{J:ff}{tk:ak}{i:St}
theorem qY.on(k:qY C y B F cs s d i X)(b:Go C B H cs w s.heap J):qY C y H F w {s with heap:=J,toks:=tk} d i X:=λY Y Y Y Y Y I h c f=>k _ _ _ _ _ _ I (b.trans h) c λa m=>oq b (f a m)
end
def ud(C:Cx)(a:ak)(u:T->St->R):Prop:=∀(c:TC)(f:ak)(b:E)(p:dt),aN c f b p=D1->∀h d i,u (.x b) h=.exc d i->∀A y B F cs s Q X,bx C A (a+c.lv) c.hn->c.hn=D1->bq C y c F->Inv C y B F cs h s.heap->qY C y B F cs s d i X->da (eg C.prog C.w) A (jM p y) Q X s
def uP(C:Cx)(a:ak)(u:T->St->R):Prop:=∀(c:TC)(f:ak)(b:E)(p:dt),aN c f b p=D1->∀h d i,u (.e b) h=.exc d i->∀A y B F cs s Q X,bx C A (a+c.lv) c.hn->c.hn=D1->bq C y c F->Inv C y B F cs h s.heap->qY C y B F cs s d i X->da (eg C.prog C.w) A (jM p y) Q X s
def sO(C:Cx)(b:ak)(f:Yj)(i:ai D)(h:ai Cell)(d:D)(k:ai Cell):Prop:=∀A B cs(s:a8)vs env Q X,bx C A b D1->Inv C env B [] cs ⟨[],h⟩ s.heap->(∀a r,B a=Bc r->r=.f\/∃j,r=.cell j)->aC C.w.params cs (Sb B s.heap) i vs->(∀H w J t c W,Inv C env H [] w ⟨[],k⟩ J->Go C B H cs w s.heap J->(∀a r,H a=Bc r->r=.f\/∃j,r=.cell j)->ExcAt C w H J c d (Bc .none) W->(∀a∈W,B a=VG)->X (.ref c) {s with heap:=J,toks:=t})->da (eg C.prog C.w) A (call f vs) Q X s
def Jx(C:Cx)(N:Env)(a:ak):Prop:=∀k b c d h,N.call k b c=.exc d h->k≠C.gz/\∃f,C.fv k=Bc f/\eD C f/\sO C a f b c d h
section
variable{C:Cx}{N:Env}{n:ak}{u:T->St->R}
theorem ExcAt.back(b:ExcAt C cs B h e d v W)(r:∀a∈W,H a=B a)(k:∀a c,Sb B h a c->Sb H h a c):ExcAt C cs H h e d v W:=by cases b with|fresh f n i j l m p s t=>exact .fresh ((r _ (.head _)).trans f) n i j l (k _ _ m) (p.mono (.refl _) k) s t|lB f n i j l m p s t w y A F G I=>exact .lB ((r _ (.head _)).trans f) n i j l (k _ _ m) (p.mono (.refl _) k) s t ((r _ (.tail _ (.head _))).trans w) y A F G I
theorem Q3{j:St}(l:sO C n f i j.cells d p)(t:bx C A n D1)(I:Inv C env B F cs j s.heap)(r:aC C.w.params cs (Sb B s.heap) i v)(w:qY C env B F cs s d ⟨j.l,p⟩ X):da (eg C.prog C.w) A (call f v) Q X s:=by refine l A B.out cs s v env Q X t (I.outer env) (mh B) (r.mono (.refl _) λY Y=>lh) ?_;intro O y P U b W G c H h J;refine pF (I.back G c H) λK L V M=>?_;haveI k:∀a∈W,B a=VG:=λa m=>Ro.sV.mp (J a m);exact w _ _ _ _ _ W K L (h.back (λa m=>Ro.mG (k a m)) M) λa m=>aa (k a m) (by simp)
section
variable{d:D}{i:St}
theorem rM:¬R.fail=.exc d i:=nofun
theorem yR{G:Prop}{s:St}(h:R.ok p s=.exc d i):G:=nomatch h
theorem aed{G:Prop}{r:R}(h:r.mr f=.exc d i)(c:r=.exc d i->G)(k:∀b s,r=.ok (.ds b) s->f b s=.exc d i->G):G:=KI (P:=(.=.exc d i)) rM h (λY Y a b=>c (a.trans b)) k
theorem Hm{G:Prop}{r:R}(h:r.kA f=.exc d i)(c:r=.exc d i->G)(k:∀b s,r=.ok (.o (.sh b)) s->f b s=.exc d i->G):G:=De (P:=(.=.exc d i)) rM h (λY Y a b=>c (a.trans b)) k
theorem acx{G:Prop}{r:R}(h:r.iK f=.exc d i)(c:r=.exc d i->G)(k:∀b s,r=.ok (.o b) s->f b s=.exc d i->G):G:=zM (P:=(.=.exc d i)) rM h (λY Y a b=>c (a.trans b)) k
theorem adE{r:R}(h:r.aT f=.exc d i):∃b s,r=.ok (.o (.sh b)) s/\f b s=.exc d i:=bV (P:=(.=.exc d i)) rM h λd s a b=>dm d s a b
theorem X4{r:R}(h:r.bindL f=.exc d i):∃b s,r=.ok (.ds b) s/\f b s=.exc d i:=bL (P:=(.=.exc d i)) rM h λd s a b=>dm d s a b
theorem G8{G:Prop}{s:St}(h:oD o s=.exc d i):G:=aj (jO (P:=(.=.exc d i)) rM h) λY Y h=>yR h
end
@[elab_as_elim]theorem Zz{M:E->Prop}{e:E}(h:yx e=D1)(c1:∀a b,M (.sub a b))(c2:∀k l,M (.call k l)):M e:=by cases e with|sub a b=>exact c1 a b|call k l=>exact c2 k l|_=>exact no h
theorem Th(v:uP C n u)(t:bI (aN c f) l k=D1){j }(h:dK u l j=.exc d m)(w:bx C A (n+c.lv) c.hn)(y:c.hn=D1)(G:bq C env c F)(I:Inv C env B F cs j s.heap)(H:qY C env B F cs s d m X):da (eg C.prog C.w) A (evalArgs O D1 (E5 J (yy k env)) []) Q X s:=by cases l with|nil=>exact yR h|cons a l=>
refine vH t λi k p t=>Hm h (λr=>?_) λb K r L=>?_
.rw[gZ p];exact Lw (Eh (v c f a i p j d m r A env B F cs s _ _ w y G I H))
.exact aS (X4 L) λY Y Y M=>yR M
theorem Nz{r:R}(h:r.bC=.exc d i):Eo:=by cases r<;>exact nomatch h
theorem adU{r:RC}(h:r.to l=.exc d i):∃c,r=.exc d c/\i=⟨l,c⟩:=by cases r with|ok s c=>exact yR h|exc f c=>obtain⟨a,b⟩:=R.exc.inj h;exact aF c (aa a rfl) b.symm|fail=>exact aL h rM
theorem Q9(B:kY C N n)(nx:Jx C N n)(bK:bG C n u)(jq:uP C n u):ud C n (step N u):=by intro c f h py m J d ag r A K ρ af cs s Q X G L w I M;cases f with|zero=>exact no m|succ f=>
have r:(if yx h then jD N u h J else(jD N u h J).bC)=.exc d ag:=r
by_cases O:yx h=D1
rotate_left
.rw[ej O]at r;exact(Nz r).elim
rw[eI O]at r
revert r;revert m
refine Zz O (λa b m r=>?_) λk l m r=>?_
.refine ku m λv sl P t=>Hm r (λy=>?_) λb1 U y V=>?_
 .exact DY (jq c f a v (iA t).1 J d ag y A K ρ af cs s _ _ G L w I M)
 .exact aS (adE V) λY Y Y h3=>G8 h3
.refine jm m λi es kw P t=>dD t λj p F=>i0 F λm=>?_
 have H:=(iA m).2
 have t1:=(iA (iA m).1).2
 have W:=(iA (iA (iA m).1).1).2
 clear m t F
 refine aed r (λy=>?_) λds U y V=>?_
 .refine aj (B.rJ k (aD w.gk W)) λZ f1 f2=>Li rfl (qX B.dN w I t1 (B.nC k Z f1 (aD w.gk W)) ?_);exact AI (aa (sL H) rfl) f2 (Th jq H y G L w I M)
 .refine aj (adU V) λbg hc q0=>?_
  subst q0;refine cJ (nx k ds _ _ _ hc).2 λZ f1 f2 f3=>Li rfl (qX B.dN w I t1 (B.nC k Z f1 (aD w.gk W)) ?_);refine AI (aa (sL H) rfl) f2 (yX bK H y G w I ?_);intro aG aH bo aQ vs I1 g1 k1 r1;exact⟨I1.tok,Q3 f3 (G.less (zI _ _) λY=>L) I1 r1 (M.on g1)⟩
theorem UW(i:ud C n u):uP C n (step N u):=by intro c f a p j k d l m A y B F cs s Q X r t v I w;exact acx m (λh=>i c f a p j k d l h A y B F cs s Q X r t v I w) λb G J H=>G8 H
end
def Dc(L:a7)(f:aw Yj):Prop:=f=VG\/f=Bc .none\/f=Bc (mB L)
def aX(C:Cx)(j:gn)(u:Ro)(y:ai Pl)(cs:ai CA)(s:a8)(F:aA)(L:a7)(Q:Flow->a8->Prop)(X:Yj->a8->Prop):R->Prop|.ok .ay c=>∀J H K t,Inv C j J y H c K->Go C u J cs H s.heap K->Q .next {s with heap:=K,toks:=t}|.ok (.ret i) c=>∀J H K t v f,Inv C j J y H c K->Go C u J cs H s.heap K->dh C.w.params C.bad H (Sb J K) K i f (Bc v)->(∀a∈f,J a=Bc .f/\u a≠Bc .f)->f.Nodup->Q (.ret v) {s with heap:=K,toks:=t}|.exc d c=>F=D1/\∀J H K t b h W,Inv C j J y H c K->Go C u J cs H s.heap K->ExcAt C H J K b d h W->Dc L h->(∀a∈W,u a≠Bc .f)->X (.ref b) {s with heap:=K,toks:=t}|_=>Eo
def MN(C:Cx)(a:ak)(G:T->St->R):Prop:=∀(c:TC)(f:ak)(b:S)(p:hI),hJ c f b p=D1->∀d A j u y cs(s:a8)Q X L outer,bx C A (a+c.lv) c.hn->jz C A j L outer->bq C j c y->Inv C j u y cs d s.heap->aX C j u y cs s c.hn L Q X (G (.s b) d)->da (eg C.prog C.w) A (exec p j) Q X s
def gA(C:Cx)(a:ak)(G:T->St->R):Prop:=∀(c:TC)(f:ak)(l:ai S)(p:ai hI),bI (hJ c f) l p=D1->∀b A j u y cs(s:a8)Q X L outer,bx C A (a+c.lv) c.hn->jz C A j L outer->bq C j c y->Inv C j u y cs b s.heap->aX C j u y cs s c.hn L Q X (G (.ss l) b)->da (eg C.prog C.w) A (DP p j) Q X s
def SG(C:Cx)(a:ak)(c:TC)(p:hI)(b:St)(r:R):Prop:=∀A j u y cs(s:a8)Q X L outer,bx C A (a+c.lv) c.hn->jz C A j L outer->bq C j c y->Inv C j u y cs b s.heap->aX C j u y cs s c.hn L Q X r->da (eg C.prog C.w) A (exec p j) Q X s
def fT(C:Cx)(a:ak)(G:T->St->R)(b:S):Prop:=∀(c:TC)(f:ak)(p:hI),hJ c (f+1) b p=D1->∀s,SG C a c p s (xq G b s)
section
variable{C:Cx}{j:gn}{u:Ro}{y:ai Pl}{cs:ai CA}{s:a8}{F:aA}{L:a7}{Q:Flow->a8->Prop}{X:Yj->a8->Prop}
theorem pO{f:b->R}(h:aX C j u y cs s F L Q X (rO o f)):∃a,o=Bc a/\aX C j u y cs s F L Q X (f a):=jO id h
theorem mW(h:aX C j u y cs s F L Q X (bk b r)):b=D1/\aX C j u y cs s F L Q X (r):=OJ id h
theorem pT(h:aX C j u y cs s F L Q X (rT d f)):∃a,d=.u a/\aX C j u y cs s F L Q X (f a):=jT id h
theorem pS(h:aX C j u y cs s F L Q X (rS d f)):∃a,d=.str a/\aX C j u y cs s F L Q X (f a):=jS id h
theorem BN(h:aX C j u y cs s F L Q X (jZ d f)):∃a,d=.ref a/\aX C j u y cs s F L Q X (f a):=LL id h
theorem YM(h:aX C j u y cs s F L Q X (ni o f)):∃a b c,o=Bc (.inst a b c)/\aX C j u y cs s F L Q X (f a b c):=J2 id h
theorem PM(h:aX C j u y cs s F L Q X (jV o f)):∃a b,o=Bc (.dict a b)/\aX C j u y cs s F L Q X (f a b):=Kp id h
theorem ze(h:aX C j u y cs s F L Q X (gm o f)):∃a,o=Bc (.o a)/\aX C j u y cs s F L Q X (f a):=Ih id h
theorem acT(h:aX C j u y cs s F L Q X (wR o f)):∃a,o=Bc (.bS a)/\aX C j u y cs s F L Q X (f a):=ac3 id h
theorem pE{r:R}(h:aX C j u y cs s F L Q X (r.aT f)):∃d c,r=.ok (.o (.sh d)) c/\aX C j u y cs s F L Q X (f d c):=bV id h λd i a b=>dm d i a b
theorem RF{r:R}(h:aX C j u y cs s F L Q X (r.qW f)):∃i c,r=.ok (.o i) c/\aX C j u y cs s F L Q X (f i c):=bO id h λd k a b=>dm d k a b
theorem Ni{r:R}(h:aX C j u y cs s F L Q X (r.bindB f)):∃c i,r=.ok (.o (.sh (.bool c))) i/\aX C j u y cs s F L Q X (f c i):=bB id h λd k a b=>dm d k a b
theorem ME{r:R}(h:aX C j u y cs s F L Q X (r.kA f)):(∃d c,r=.ok (.o (.sh d)) c/\aX C j u y cs s F L Q X (f d c))\/∃d c,r=.exc d c/\aX C j u y cs s F L Q X (.exc d c):=De id h (λd i a b=>.inr (dm d i a b)) λd i a b=>.inl (dm d i a b)
theorem Iu{r:R}(h:aX C j u y cs s F L Q X (r.iK f)):(∃k c,r=.ok (.o k) c/\aX C j u y cs s F L Q X (f k c))\/∃d c,r=.exc d c/\aX C j u y cs s F L Q X (.exc d c):=zM id h (λd i a b=>.inr (dm d i a b)) λd i a b=>.inl (dm d i a b)
theorem pbL{r:R}(h:aX C j u y cs s F L Q X (r.bindL f)):∃l c,r=.ok (.ds l) c/\aX C j u y cs s F L Q X (f l c):=bL id h λd i a b=>dm d i a b
theorem Zp{r:R}(h:aX C j u y cs s F L Q X (r.qF f)):∃l c,r=.ok (.os l) c/\aX C j u y cs s F L Q X (f l c):=Ig id h λd i a b=>dm d i a b
theorem ZS(h:aX C j u y cs s F L Q X (uo a f g)):(∃l,a=Bc (.o l)/\aX C j u y cs s F L Q X (f l))\/∃l,a=Bc (.bS l)/\aX C j u y cs s F L Q X (g l):=by cases a with|none=>exact h.elim|some a=>cases a<;>first|exact h.elim|exact .inl ⟨_,rfl,h⟩|exact .inr ⟨_,rfl,h⟩
theorem adm(h:aX C j u y cs s F L Q X (FW o f)):∃a,o=Bc (.sh (.int a))/\aX C j u y cs s F L Q X (f a):=aaY id h
end
section
variable{C:Cx}{j:gn}{u J:Ro}{y:ai Pl}{cs H:ai CA}{s:a8}{K:ff}{tk:ak}{L:a7}{Q:Flow->a8->Prop}{X:Yj->a8->Prop}
theorem aX.on(k:aX C j u y cs s F L Q X r)(b:Go C u J cs H s.heap K):aX C j J y H {s with heap:=K,toks:=tk} F L Q X r:=by cases r with
|ok p l=>cases p with|ay=>exactλY Y Y Y I i=>k _ _ _ _ I (b.trans i)|ret w=>exactλY Y Y Y Y Y I i c f t=>k _ _ _ _ _ _ I (b.trans i) c (λa m=>⟨(f a m).1,oq b (f a m).2⟩) t|_=>exact k
|exc d l=>exact⟨k.1,λY Y Y Y Y Y Y I i c v h=>k.2 _ _ _ _ _ _ _ I (b.trans i) c v λa m=>oq b (h a m)⟩|fail=>exact k
theorem aX.exc(k:aX C j u y cs s F L Q X (.exc d f)):qY C j u y cs s d f X:=λY Y Y Y Y Y I a b c=>k.2 _ _ _ _ _ _ _ I a b (.inr (.inl rfl)) c
end
theorem mR(h:sq v=Un)(t:aw dt)(l:ak)(j:gn):YY v t l j=pure Un:=by cases v<;>first|rfl|exact xa h
theorem isC{M:E->Prop}(h:FA a=D1)(k:∀l t p m r j,M (.comp l t p m r j)):M a:=by cases a with|comp a b c d i f=>exact k a b c d i f|_=>exact no h
theorem aad{M:E->dt->Prop}(A:FA a=D1)(d:aN c f a v=D1)(k:∀f i l m j r b s t u w y p,aN c (f+1) (.comp i l m j r b) (.ListComp s [⟨t,u,w,0⟩] y p)=D1->M (.comp i l m j r b) (.ListComp s [⟨t,u,w,0⟩] y p)):M a v:=by cases f with|zero=>exact no d|succ f=>exact isC (M:=λa=>aN c (f+1) a v=D1->M a v) A (λi l m j r b d=>yY d (λs B y p h=>N3 h λt u w Y d=>k _ _ _ _ _ _ _ _ _ _ _ _ _ d) d) d
section
variable{C:Cx}{N:Env}{n:ak}{G:T->St->R}
theorem Nb(F:n6 C n G)(H:ud C n G)(i:ak)(a:E)(J:c.bN i x=D1)(K:oJ c x=D1)(M:YY v (Bc (.Name x O)) p.line env=pure Un)(t:aN c f a v=D1){j:St}(B:bx C A (n+c.lv) c.hn)(l:bq C env c y)(I:Inv C env u y cs j s.heap)(k:aX C env u y cs s c.hn L Q X (xq G (.g i a) j)):da (eg C.prog C.w) A (exec (.Assign [.Name x O] v p) env) Q X s:=by
 refine wpAny_Assign_Name ?_ M
 refine Md (Iu k) (λP=>?_) λU=>?_
 .obtain⟨V,b,r,k⟩:=P
  refine F c f a v t j V b r A env u y cs s _ _ B l I ?_
  intro aG W h1 aQ w os Z g1 _ sa h nd;exact yi l J K Z g1 I.out sa (λa m=>⟨(h a m).1,I.none_of a (h a m).2⟩) nd λaI h2 bF I2 g2 Y Y=>k aI W h2 bF I2 g2
 .obtain⟨d,b,r,k⟩:=U;exact H c f a v t j d b r A env u y cs s _ _ B k.1 l I k.exc
theorem ady(ck:dz C)(ih:n6 C n (step N G))(jq:ud C n (step N G))(bK:bG C n G)(dq:gF C n G)(i:ak){V:St}(W:c.bN i x=D1)(Z:oJ c x=D1)(t4:aN c (f+1) (.comp w tg it y nl u) (.ListComp bT [⟨t,bH,fs,0⟩] sc tB)=D1):SG C n c (.Assign [.Name x px] (.ListComp bT [⟨t,bH,fs,0⟩] sc tB) F) V (xq (step N G) (.g i (.comp w tg it y nl u)) V):=by intro A H ρ af cs s Q X L J rm ot K I k;refine(show∃b,YY (.ListComp bT [⟨t,bH,fs,0⟩] sc tB) (Bc (.Name x px)) F.line H=pure b from⟨_,rfl⟩).elim λb tq=>?_;cases b with|false=>exact Nb ih jq i _ W Z tq t4 rm K I k|true=>refine aa (exec_Assign_Name_used _ _ _ _ tq) (ct (wz (ct ?_)));refine Md (Iu k) (λh=>aS h λsl M O k=>?_) λh=>aS h λd M O k=>(Nz O).elim;refine ct (nL (K8 ck bK dq t4 (vi O) rm K I ?_) (λY s' hq=>gP (gP hq)) λY Y j=>j);intro l hl ah P h' tk D' U m I' g' k' sa v rC sC Et hm;subst hl;have OB:ρ U=VG:=I.none_of _ sC;refine u! (yi K W Z I' g' I.out sa (λa m=>⟨(v a m).1,I.none_of a (v a m).2⟩) (List.nodup_cons.mpr ⟨lR,.nil⟩) λaI h2 bF I2 g2 hB rB=>?_);refine aj hB λB zr FL=>aF m (hm.sameBut FL λp=>(by rw[<-p,rC]at zr;cases zr)) (λeN gp=>?_);have wC:cF C af aI [U]:=cF.of I2 I.out λa m=>hX.mp m▸⟨rB.1 U rC (λp=>Et (hX.mp p).symm),OB⟩;refine bD (I2.jW wC (λa r n j=>(gp.2 a λp=>n (p▸.head _)).trans j) (mu gp.1.symm)) λI3 g3 Y=>k aI P eN bF I3 (cq.to g2 g3 λa m=>hX.mp m▸OB)
theorem fw(H:dz C)(r:n6 C n (step N G))(u:ud C n (step N G))(J:bG C n G)(K:gF C n G)(i:ak)(a:E):fT C n (step N G) (.g i a):=by
 intro c f W d w
 refine uI d λZ v p j=>i1 j λu0 l=>dD l λb M d=>?_
 have t:=(iA d).2
 have O:=(iA (iA d).1).2
 have y:=(iA (iA (iA d).1).1).2
 have B:=(iA (iA (iA d).1).1).1
 clear d j l
 by_cases F:sq v=D1
 .exact aad (M:=λa v=>SG C n c (.Assign [.Name b M] v p) w (xq (step N G) (.g i a) w)) ((Bool.or_eq_true_iff.mp O).elim id λh=>by rw[F]at h;exact no h) t λY Y Y Y Y Y Y Y Y Y Y Y Y t=>ady H r u J K i B y t
 .exactλA P ρ af cs s Q X L m U ot V I k=>Nb r u i a B y (mR (Bool.eq_false_iff.mpr F) _ _ _) t U V I k
theorem nD(p:bG C n G)(t:uP C n G)(a:E):fT C n G (.ret a):=by
 intro c f P h l
 refine Jr h λU v b=>?_;clear h
 refine iS b λV h=>?_;clear b
 intro A j u y cs s Q X L i r W m I k
 refine lw ?_
 rcases ME k with⟨d,st1,hr,k⟩|⟨d,st1,hr,k⟩
 .refine p c f a _ h l d st1 hr A j u y cs s _ _ r m I ?_
  intro B F H J w K M _ O;exact k B F H J w [] K M (.sh O) nM .nil
 .exact t c f a _ h l d st1 hr A j u y cs s _ _ r k.1 m I k.exc
end
section
variable{C:Cx}{N:Env}{n:ak}{h:T->St->R}
theorem Ww:fT C n h .av:=by intro c f p b d;intro A i y j cs s Q X L a r l m I k;exact k.elim
theorem zq(a:bq C env c j):interactive env=Un:=by unfold interactive;refine aa a.kind ?_;rfl
theorem aa6(r:bG C n h)(a:E):fT C n h (.mF a):=by intro c f V b t;refine Af b λv u B=>?_;clear b;rename _=D1=>b;simp only[ji,D8]at b;intro A i y l cs s Q X L m F W p I k;refine zs ?_ (zq p) (mR b.1 _ _ _);refine aS (pE k) λd j G k=>?_;obtain⟨rfl,k⟩:=EW (P:=aX C i y l cs s c.hn L Q X) (M:=λd=>d=.none/\aX C i y l cs s c.hn L Q X (.ok .ay j)) id k λk=>⟨rfl,k⟩;exact r c f a v b.2 t .none j G A i y l cs s _ _ F p I λH J K M w O P Y U=>aa U.AV (k H J K M O P)
theorem Qo(J:gF C n h)(v:gA C n h)(t:E)(a b:ai S):fT C n h (.iff t a b):=by intro c f py m K;refine Xo m λM O P U V=>?_;clear m;rename _=D1=>m;simp only[ji]at m;obtain⟨⟨W,Y⟩,Z⟩:=m;intro A j ρ p cs s Q X L i r w u I k;refine wpAny_If (aS (Ni k) λd l y k=>J c f t M W K d l y A j ρ p cs s _ _ r u I ?_);intro B F h1 aQ G H _;clear y;cases d with|true=>exact aa (eI rfl) (v c f a O Y l A j B p F _ _ _ L i r w u G (k.on H))|false=>exact aa (ej (by decide)) (v c f b P Z l A j B p F _ _ _ L i r w u G (k.on H))
theorem M1(F:MN C n h)(t:bI (hJ c f) l w=D1):∀{j A i y m cs}{s:a8}{Q X L d},bx C A (n+c.lv) c.hn->jz C A i L d->bq C i c m->Inv C i y m cs j s.heap->aX C i y m cs s c.hn L Q X (cA h l j)->da (eg C.prog C.w) A (DP w i) Q X s:=by
 apply U8 t
 .exactλr u v I k=>Nu (k _ _ _ _ I (.refl _ _ _ _))
 intro a l p w t _ G j A i y m cs s Q X L d r u v I k
 refine J9 (F c f a p t j A i y m cs s _ _ L d r u v I ?_)
 replace k:aX C i y m cs s c.hn L Q X (cA.match_1 (λY=>R) (h (.s a) j) (cA h l) λa=>a):=k;cases B:h (.s a) j with
|ok b H=>rw[B]at k;cases b with|ay=>exactλM O P U J K=>G r u v J (k.on K)|_=>exact k
|_=>rw[B]at k;exact k
theorem NO{s:a8}(u:jz C A env L outer)(k:∀p j l t b r W,Inv C env p G j H l->Go C y p cs j s.heap l->ExcAt C j p l b d r W->Dc L r->(∀a∈W,y a≠Bc .f)->X (.ref b) {s with heap:=l,toks:=t}):∀p j l t b r W,Inv C env p G j H l->Go C y p cs j s.heap l->ExcAt C j p l b d r W->Dc L r->(∀a∈W,y a≠Bc .f)->Xg (eg C.prog C.w) A env (λb J=>ZC (eg C.prog C.w) A env X b J) (.ref b) {s with heap:=l,toks:=t}:=by
 intro p j l t b r W I c f K v
 unfold Xg
 refine C7 u I f K ?_
 intro O P w B Q _ U V
 have M:∀a∈P,y a≠Bc .f:=λa m=>by
  refine Md (V a m) (λi=>?_) λi=>?_
  .exact v a i
  .exact oq c (aa (I.none_of a i) (by simp))
 have F:Go C y O cs j s.heap w:=cq.rX c Q v
 refine Ry (s:={s with heap:=w,toks:=t}) u.f B U ?_
 intro Y Z h2 I2 g3 _ x2 n2
 refine k Y j h2 t b _ Z I2 (cq.rX F g3 M) x2 (.inr (.inr rfl)) λa m=>?_
 rcases n2 a m with i|i
 .exact M a i
 .exact oq F (aa (B.none_of a i) (by simp))
section
variable{i:gn}{y:Ro}{j:ai Pl}{cs:ai CA}{s:a8}{L:a7}{Q:Flow->a8->Prop}{X:Yj->a8->Prop}{u:aA}
theorem aX.i6(k:aX C i y j cs s u L Q X (r.i6 f))(G:∀c,aX C i y j cs s u L Q X (f c)->∀B F v H,Inv C i B j F c v->Go C w B l F m.heap v->A .next {m with heap:=v,toks:=H})(J:∀t c,aX C i y j cs s u L Q X (.ok (.ret t) c)->aX C i w j l m u L A X' (.ok (.ret t) c))(a:∀d c,aX C i y j cs s u L Q X (.exc d c)->aX C i w j l m u L A X' (.exc d c)):aX C i w j l m u L A X' r:=R.casesOn r (λp c=>bp.casesOn p (λY=>D6) (λY=>D6) (λY=>D6) (λk Y Y Y Y I b=>G c k _ _ _ _ I b) λt=>J t c) a D6 k
end
theorem Ss(dq:gF C n h)(iE:gA C n h)(t:E)(b:ai S):fT C n h (.jP t b):=by intro c f py B st;refine WD B λtt bb oo pos F=>?_;clear B;refine i0 F λB=>?_;clear F;simp only[ji]at B;obtain⟨t1,t2⟩:=B;intro A r Y G cs s Q X L u rm ot eo I k;haveI k:aX C r Y G cs s c.hn L Q X (xV h t b 1000 st):=k;refine wpAny_While (codeAny_whileLoop (λm s'=>∃ah H ag h' tk,s'={s with heap:=h',toks:=tk}/\Inv C r ah G H ag h'/\Go C Y ah cs H s.heap h'/\aX C r Y G cs s c.hn L Q X (xV h t b m ag)) ?_ 1000 (abC Y cs st s.heap s.toks rfl I (.refl _ _ _ _) k));rintro m s'⟨aG,aH,st1,h1,aQ,rfl,I1,g1,p⟩;cases m with|zero=>exact p.elim|succ m=>refine aS (Ni p) λi J hr p=>dq c f t tt t1 st1 i J hr A r aG G aH _ _ _ rm eo I1 ?_;intro aI ax h2 bF I2 g2 _;have y:=g1.trans g2;clear hr;cases i with|false=>exact aa (ej (by decide)) (Nu (p aI ax h2 bF I2 y))|true=>refine aa (eI rfl) (iE c f b bb t2 J A r aI G ax _ _ _ L u rm ot eo I2 ?_);exact aX.i6 p (λw p K M O P U V=>⟨m,zC _,K,M,w,O,P,rfl,U,y.trans V,p⟩) (λsl w p K M O P v os U V sa Z nd=>p K M O P v os U (y.trans V) sa (λa m=>⟨(Z a m).1,oq y (Z a m).2⟩) nd) λd w p=>⟨p.1,λK M O P j fl W U V l lI Z=>NO ot p.2 K M O P j fl W U (y.trans V) l lI λa m=>oq y (Z a m)⟩
end
section
variable{C:Cx}{N:Env}{n:ak}{j:T->St->R}
variable{i:gn}{p:Ro}{l:ai Pl}{cs:ai CA}{s:a8}{A:ip}{L:a7}{Q:Flow->a8->Prop}{X:Yj->a8->Prop}{w:aA}{W:ai a7}{u:ai D->ai CA->(a7->Obj->Prop)->ff->Prop}
def EX(C:Cx)(i:gn)(p:Ro)(l:ai Pl)(cs:ai CA)(s:a8)(w:aA)(L:a7)(Q:Flow->a8->Prop)(X:Yj->a8->Prop)(W:ai a7)(u:ai D->ai CA->(a7->Obj->Prop)->ff->Prop)(f:ai D->St->R)(m:ak)(k:a8):Prop:=∃a c b h t d,k={s with heap:=h,toks:=t}/\m=d.length/\Inv C i a l c b h/\Go C p a cs c s.heap h/\cF C l a W/\u d c (Sb a h) h/\aX C i p l cs s w L Q X (f d b)
theorem Nv(iE:gA C n j)(w:c.hn=D1)(t2:ia c f tg t=D1)(t4:bI (hJ c f) b bb=D1)(rm:bx C A (n+c.lv) c.hn)(ot:jz C A i L outer)(eo:bq C i c l)(K:Iter C A t eL W u)(nx:∀{F:Ro}{G:ai CA}{M h3:ff}{P:ai D},Go C p F cs G s.heap M->cq C W F F G G M h3->u P G (Sb F h3) h3->Go C p F cs G s.heap h3)(dn:∀{F:Ro}{G:ai CA}{V:St}{M:ff}{bF:ak}{Q':aw Yj->a8->Prop}{h:Yj->a8->Prop},Inv C i F l G V M->Go C p F cs G s.heap M->cF C l F W->u [] G (Sb F M) M->(∀I Z,Inv C i F l G V I->Go C p F cs G s.heap I->Q' VG {s with heap:=I,toks:=Z})->da (eg C.prog C.w) A (Wf eL) Q' h {s with heap:=M,toks:=bF})(H:EX C i p l cs s c.hn L Q X W u (bQ j tg b) m U):mO (eg C.prog C.w) A (.forLoop t eL bb [] i) (λr U=>match r with|.ok f=>Q f U|.error k=>ZC (eg C.prog C.w) A i X k U) U:=by
 refine ξ (EX C i p l cs s c.hn L Q X W u (bQ j tg b)) (λm U H=>?_) m H
 refine PY H λF G V M bF P H=>HH H λes em I2 g2 m9 mV J=>aa es (aa em ?_)
 clear H es em
 revert mV J
 refine ny P (λmV J=>?_) λd P mV J=>?_
 .exact dn I2 g2 m9 mV λI Z I3 g3=>Nu (J F G I Z I3 g3)
 .refine aj (pO J) λloc ha J=>nL (K.next (Q:=λv U=>∃I Z,U={s with heap:=I,toks:=Z}/\(∀a y,a∉W->M.get? a=Bc y->I.get? a=Bc y)/\M.objs.size<=I.objs.size/\u P G (Sb F I) I/\Rd C.w.params G (Sb F I) d v) (λa m=>(m9 a m).1) I2.lt mV λv I Z a b c d=>Dr I Z rfl a b c d) (λy U H=>aj H λv OX hw=>?_) λY Y B=>B
  refine aa OX (nL hw (λY qt H=>Xw H λh3 fH es ex sz Ct rd=>?_) λY Y B=>B);refine aa es (bD (I2.jW m9 ex sz) λI3 g3 Y=>?_);have Pm:=nx g2 g3 Ct;clear es hw OX g2 g3 mV;refine Aw C c f t2 w ha rm eo I3 (.refl _ _ _ _) I3.out rd λgB h4 l8 I4 g4=>?_;have pz:=Pm.trans g4;have pI:cF C l gB W:=m9.go g4.x;have AK:=K.frame Ct (.refl _) g4.st (g4.qB m9);clear Pm Ct rd I3 I2;refine iE c f b bb t4 _ A i gB l G {s with heap:=h4,toks:=l8} _ _ L outer rm ot eo I4 (J.i6 (λDn J lQ pf h5 kP I5 O=>?_) (λsl Dn J lQ pf h5 kP v os I5 O sa nw nd=>J lQ pf h5 kP v os I5 (pz.trans O) sa (λa m=>⟨(nw a m).1,oq pz (nw a m).2⟩) nd) λd Dn J=>⟨J.1,λlQ pf h5 kP k fl W I5 O B lI nw=>NO ot J.2 lQ pf h5 kP k fl W I5 (pz.trans O) B lI λa m=>oq pz (nw a m)⟩);have H:EX C i p l cs s c.hn L Q X W u (bQ j tg b) P.length {s with heap:=h5,toks:=kP}:=⟨lQ,pf,Dn,h5,kP,P,rfl,rfl,I5,pz.trans O,pI.go O.x,K.frame AK O.cs O.st (O.qB pI),J⟩;exact⟨P.length,zC _,H⟩
end
section
variable{C:Cx}{N:Env}{n:ak}{j:T->St->R}
theorem rA(ck:dz C)(bK:bG C n j)(iE:gA C n j)(K:cO)(M:It)(b:ai S):fT C n j (.bA K M b):=by intro c f py u F;refine Jv u λt bH bb oo pos u=>i0 u λu=>aU (iA u) λu t4=>aU (iA u) λu t3=>aU (iA u) λu t2=>?_;have O:=(iA u).1;intro A y P af cs s Q X L G U ot V I k;have k:aX C y P af cs s c.hn L Q X (xE j M F λv F=>bQ j K b v F):=k;refine aS (pbL k) λv st1 hv k=>dG (M6 ck bK _ t3 (iA u).2 hv O) λSe Ts B DC H=>a! (H U V I λaG aH h1 aQ eL W St Z g1 k1 w gU w1=>?_) λd=>DC y d;have B:=R.ok.inj B;rw[<-bp.ds.inj B.1,<-B.2]at k;have J:∀a∈W,P a=VG:=λa m=>I.none_of a (w1 a m).2;exact Nv iE O t2 t4 U ot V w (λi d Y=>cq.to i d J) (λ{aI ax st2 h2 bF Q' l}I2 g2 m9 mV p=>nL (w.done (λa m=>(m9 a m).1) mV λh' tk ex sz=>bD (I2.jW m9 ex sz) λI3 g3 Y=>p h' tk I3 (cq.to g2 g3 J)) (λr s' h=>h.1▸h.2) λY Y d=>d) ⟨aG,aH,Ts,h1,aQ,Se,rfl,rfl,Z,g1,cF.of Z I.out λa m=>⟨(w1 a m).1,J a m⟩,gU,k⟩
end
noncomputable def Ro.jA(y:Ro)(i:ak):Ro:=λa=>if y a=Bc (.o i)then Bc .f else y a
theorem Ro.Ey{y:Ro}(b:y a=Bc (.o i)):y.jA i a=Bc .f:=eI b
theorem Ro.N2{y:Ro}(b:y a≠Bc (.o i)):y.jA i a=y a:=ej b
theorem Ro.Jy{y:Ro}:y.jA i a=VG↔y a=VG:=by
 unfold Ro.jA
 by_cases h:y a=Bc (.o i)
 .refine aa (eI h) (aa h ?_);simp
 .rw[ej h]
section
variable{C:Cx}{B:gn}{y:Ro}{G:ai Pl}{cs:ai CA}{F:St}{h:ff}
theorem vp:∀a b,Sb y h a b->Sb (y.jA i) h a b:=λa b c=>⟨c.1,Ro.Jy.mpr c.2⟩
theorem Inv.jA(I:Inv C B y G cs F h):Inv C B (y.jA i) G cs ⟨F.l.set i .ae,F.cells⟩ h/\Go C y (y.jA i) cs cs h h:=by
 have w:∀a r,y a=Bc r->r≠.o i->y.jA i a=Bc r:=λa r d f=>aa (Ro.N2 (by rw[d];simpa using f)) d
 have k:Go C y (y.jA i) cs cs h h:=⟨.refl _,vp,λa d=>⟨w a _ d wg,λY=>.refl C h a⟩,λa d=>w a _ d wB,ir _⟩
 refine⟨⟨λa d=>I.lt a λl=>d (Ro.Jy.mpr l),λa t d=>vp a t (I.base a t d),I.tab.sb vp,w _ _ I.cM wg,by simp[I.dH],I.d9,λj p s A H=>?_,λj c p O A=>?_,λa j d=>?_,I.names,λu m=>w _ _ (I.locs u m) wB,λu c b m=>?_,I.je,I.fW,λd m=>(I.eS d m).step I.tab (λa l Y=>k.kp a l) λa l=>⟨.inr (k.sc a l),id⟩⟩,k⟩
 .have M:j<F.l.length:=aa I.dH ((List.getElem?_eq_some_iff.mp A).1)
  by_cases J:j=i
  .clear w k
   subst J
   rw[UQ M]at H
   obtain rfl:=eF H
   refine fN (I.vars j p _ A (ma M)) λY K v Y Y Y=>?_;exact hY ([]) K v (.ae _) nM .nil
  .rw[Uz (ng J)]at H
   refine cps λP N=>fN (I.vars j p s A H) λQ K v u r L=>N ?_;clear N P;exact hY Q K v (u.keep (.refl _) vp λY Y Y d=>d) (λa m=>w a _ (r a m) (by simpa using J)) L
 .refine bD (I.cells j c p O A) λu r L=>cV (u.keep (.refl _) vp λY Y Y d=>d) (λa m=>w a _ (r a m) BG) L
 .by_cases l:y a=Bc (.o i)
  .rw[Ro.Ey l]at d;cases d
  .rw[Ro.N2 l]at d;exact I.gG a j d
 .rcases I.eT u c b m with l|l
  .exact .inl ⟨l.1,k.sc _ l.2⟩
  .exact .inr ⟨l.1,(k.kp _ l.2).1⟩
end
section
variable{C:Cx}{N:Env}{n:ak}{u:T->St->R}
theorem ael(i:ak):fT C n u (.xD i):=by intro c f V r W;refine Jr r λY w h=>?_;clear r;refine iS h λZ j=>?_;clear h;refine dD j λd px r=>?_;clear j;intro A B y af cs s Q X L t rm ot F I k;refine aj (ze k) λl G k=>kW (j0 I G) λp a vs m H J K M v=>lw (eJ F r H J ?_);refine aU (I.jA (i:=i)) λO P=>k (y.jA i) cs s.heap s.toks (.ref a) [a] O P (.o K (M.mono (.refl _) vp)) (λb U=>?_) iU;refine aD ((hX.mp U).symm) (⟨Ro.Ey v,aa v (by simp)⟩)
theorem sE(W:bG C n u)(Y:uP C n u)(F:ai cO)(a:E):fT C n u (.i5 F a):=by
 intro c f py h G
 refine uI h λus v p i=>?_;clear h
 refine i1 i λu0 j=>?_;clear i
 refine ri j λH J K h=>?_;clear j
 simp only[ji,D8]at h
 obtain⟨⟨⟨⟨M,Z⟩,t2⟩,t3⟩,O⟩:=h
 intro A B P U cs s Q X L l r ot m I k
 refine g? ?_ (show YY v (Bc (.Tuple H J K)) p.line B=pure Un from mR t2 _ _ _) (by cases v<;>first|rfl|cases Z)
 refine Md (ME k) (λFJ=>?_) λt=>?_
 .refine aS FJ λd b y k=>aj (pT k) λds EP k=>?_
  subst EP
  refine aj (pO k) λloc hl k=>W c f a v O G _ b y A B P U cs s _ _ r m I ?_
  intro aG aH h1 aQ w V g1 _ rd;refine Aw C c (f+1) (show ia c (f+1) (.tp F) (.Tuple H J K)=D1 from t3) M (by unfold iw;exact hl) r m V (.refl _ _ _ _) V.out rd λaI h2 bF I2 g2=>k aI aH h2 bF I2 (g1.trans g2)
 .refine aS t λd b y k=>Y c f a v O G d b y A B P U cs s _ _ r M m I k.exc
section
set_option tactic.hygienic true
theorem aaG(ck:dz C)(bK:bG C n u)(a:E):fT C n u (.vN a):=by intro c f py y st;refine Jv y λt bH bb oo pos B=>?_;clear y;refine i0 B λy=>?_;clear B;simp only[ji]at y;obtain⟨hn,Z⟩:=y;intro A F ρ af cs s Q X L G rm ot eo I k;refine aS (pE k) λd H hr k=>aj (BN k) λr J k=>?_;subst J;refine cps λP_ k_=>aS (PM k) λks vs hc k=>?_;obtain⟨MT,k⟩:=mW k;obtain⟨QO,K⟩:=iA MT;refine k_ ?_;clear k_ P_;clear MT;obtain rfl:=List.isEmpty_iff.mp QO;obtain rfl:=List.isEmpty_iff.mp K;refine a! ?_ λh=>yw Z F h;refine bK c f a bH Z st _ H hr A F ρ af cs s _ _ rm eo I ?_;intro aG aH i M w j g1 _ rd;refine aj rd.oK λp hp mj=>?_;clear rd;subst mj;haveI ro:=(j.cells r _ p hc hp).2.1;cases cellK (s:={s with heap:=i,toks:=M}) j hp hc with|dict ho re nd=>rename_i l es m;cases re;haveI cP:(l==Gd)=Un:=yu j ck.sm (ro _ (.head _));have hd:i.DictAt (dS C).knd l [] m:=(pa _ (#[]) ho ⟨rfl,rfl,rfl⟩ rfl (λY O=>by simp at O) N! im);refine wpAny_pyIter_dict cP hd (pF (tE j {cls:=.type "dict_keyiterator",data:=.fields #[.ref l,.int 0 0,.int (([]:ai (Str×Yj)).length:ak) 0,.int m 0]}) λP g2 v2 r2=>?_);generalize U:i.push {cls:=.type "dict_keyiterator",data:=.fields #[.ref l,.int 0 0,.int (([]:ai (Str×Yj)).length:ak) 0,.int m 0]}=H2 at P g2 v2;haveI V:H2.IsKeyIter i.objs.size l 0 0 m:=(dX _ (aD U (kK _ rfl)) rfl rfl);haveI W:H2.DictAt (dS C).knd l [] m:=(pa _ (#[]) (aD U (cn _ _ _ _ ho)) ⟨rfl,rfl,rfl⟩ rfl (λY O=>by simp at O) N! im);refine ξ (λY s'=>s'={s with heap:=H2,toks:=M}) ?_ 0 (aD U rfl);rintro m' s' rfl;refine jd (wpAny_pyNext_dict_end (rm.hd hn) V W rfl λh3 h sz=>?_);haveI wk:cF C af (aG.plus [i.objs.size] .f) [i.objs.size]:=cF.of P j.out λb v=>⟨r2 b v,by haveI :b=i.objs.size:=hX.mp v;clear v;subst this;exact j.none_of _ (ir _)⟩;refine bD (P.jW wk (kF (.head _) h) sz) λI3 g3 Y=>Nu (k _ aH h3 M I3 (cq.to (g1.trans g2) g3 λb v=>?_));haveI :b=i.objs.size:=hX.mp v;clear v;subst this;exact I.none_of _ g1.sz
end
end
inductive gJ(P:ei)(bad:a7)(cs:ai CA)(S:a7->Obj->Prop)(h:ff):ai Slot->ai (ai a7)->ai Yj->Prop|nil:gJ P bad cs S h [] [] []|cons{sl:Slot}{os:ai a7}{v:Yj}{eK:ai Slot}{dZ:ai (ai a7)}{vs:ai Yj}:dh P bad cs S h sl os (Bc v)->gJ P bad cs S h eK dZ vs->gJ P bad cs S h (sl::eK) (os::dZ) (v::vs)
section
variable{P:ei}{d:a7}{cs w:ai CA}{S G:a7->Obj->Prop}{h F:ff}
theorem gJ.keep(j:fU cs w)(l:∀a c,S a c->G a c)(k:∀a∈i.flatten,∀c,h.get? a=Bc c->F.get? a=Bc c)(f:gJ P d cs S h p i v):gJ P d w G F p i v:=by induction f with|nil=>exact .nil|cons a b r=>exact .cons (a.keep j l λf m=>k f (List.mem_flatten.mpr (aF _ (.head _) m))) (r λf m=>k f (aa y! (aqt _ m)))
theorem gJ.append(c:gJ P d cs S h a b v)(y:gJ P d cs S h f i j):gJ P d cs S h (a++f) (b++i) (v++j):=by induction c with|nil=>exact y|cons c _ k=>exact .cons c k
theorem gJ.reverse(c:gJ P d cs S h a b v):gJ P d cs S h a.reverse b.reverse v.reverse:=by induction c with|nil=>exact .nil|cons c _ i=>rw[KE,KE,KE];exact i.append (.cons c .nil)
theorem gJ.len(c:gJ P d cs S h a b v):v.length=a.length:=by induction c with|nil=>rfl|cons _ _ i=>exact gO Aj i
end
theorem dh.go{f:ai a7}(b:dh C.w.params C.bad cs (Sb i h) h sl f j)(c:Go C i l cs w h F)(k:∀a∈f,i a=Bc .f/\a≠C.tab/\km C a):dh C.w.params C.bad w (Sb l F) F sl f j:=b.keep c.cs c.st λa m Y d=>((c.kp a (k a m).1).2 (k a m).2.1).exact d (k a m).2.2
theorem Yk:∀{s l d:ai Slot},iY i s l=Bc d->i.length=s.length:=by induction i with
|nil=>intro s l d h;cases s<;>first|rfl|exact bh h
|cons j i a=>intro s l d h;cases s<;>first|exact bh h|exact gO Aj (a h)
theorem aaq(h:E1 l=D1):l.Nodup:=by induction l with|nil=>exact .nil|cons a r i=>refine aU (iA h) λb c=>List.nodup_cons.mpr ⟨λm=>by rw[List.contains_iff_mem.mpr m]at b;exact no b,i c⟩
theorem Zf:∀{c l:ai Slot},i∉d->iY d c (l.set i s)=(iY d c l).map (·.set i s):=by induction d with|nil=>intro c l _;cases c<;>rfl|cons j d f=>intro c l a;cases c with|nil=>rfl|cons t c=>show iY d c ((l.set i s).set j t)=(iY d c (l.set j t)).map _;exact aa (List.set_comm _ _ λb=>a (by rw[b];exact .head _)) (aa (f λm=>a (.tail _ m)) rfl)
theorem Zm:∀{a l:ai Slot},b.length=a.length->iY (b++[i]) (a++[s]) l=(iY b a l).map (·.set i s):=by induction b with
|nil=>intro a l h;cases a<;>first|rfl|exact aL h.symm (jp _)
|cons j b c=>intro a l h;cases a<;>first|exact aL h (jp _)|exact c (SX h)
theorem adi:∀{s l:ai Slot},i.Nodup->i.length=s.length->iY i.reverse s.reverse l=iY i s l:=by induction i with
|nil=>intro s l _ h;cases s<;>first|rfl|exact aL h.symm (jp _)
|cons j i c=>intro s l a h;cases s with|nil=>exact aL h (jp _)|cons t s=>haveI a:=List.nodup_cons.mp a;haveI b:=SX h;exact aa KE (aa KE (aa (Zm (aa ark (aa ark b))) (aa (c a.2 b) ((Zf a.1).symm))))
inductive iF(c:TC)(env:gn):ai ak->ai (Yj->Sem ur)->Prop|nil:iF c env [] []|cons{i:ak}{x:Str}{f:Yj->Sem ur}{is:ai ak}{fs:ai (Yj->Sem ur)}:c.bN i x=D1->oJ c x=D1->(∀{M:Model}{A:ip}{v:Yj}{Q:ur->a8->Prop}{E:Yj->a8->Prop}{s:a8},da M A (storeName env x v) Q E s->da M A (f v) Q E s)->iF c env is fs->iF c env (i::is) (f::fs)
theorem iF.append(d:iF c env a f)(y:iF c env b g):iF c env (a++b) (f++g):=by induction d with|nil=>exact y|cons h i j _ k=>exact .cons h i j k
theorem iF.reverse(b:iF c env a f):iF c env a.reverse f.reverse:=by induction b with|nil=>exact .nil|cons h d i _ j=>rw[KE,KE];exact j.append (.cons h d i .nil)
theorem acd(h:vo c i t=D1):∃a p,t=.Name a p/\c.bN i a=D1/\oJ c a=D1:=by exact dD h λa p h=>dm a p rfl (iA h)
theorem DL{P:ai ak->ai dt->Prop}(l:P [] [])(m:∀i j d p f,c.bN i d=D1->oJ c d=D1->P j f->P (i::j) (.Name d p::f)):∀{f:ai dt},bI (vo c) j f=D1->P j f:=by induction j with
|nil=>intro f h;cases f<;>first|exact l|exact no h
|cons i j r=>intro f h;cases f with|nil=>exact no h|cons t f=>refine aU (iA h) λk s=>dG (acd k) λd p u a b=>?_;clear k h;subst u;exact m _ _ _ _ _ a b (r s)
theorem Ug(h:bI (vo c) j t=D1):iF c env j ((AG t env).map (·.2)):=DL (P:=λj t=>iF c env j ((AG t env).map (·.2))) .nil (λi j d p t a b r=>by exact .cons a b (λf=>u! f) r) h
theorem VJ(w:∀t d,f t=Bc d->∃u,t=.Name d u)(h:bI (vo c) v s=D1):(∀t∈s,(f t).isSome=D1)->iF c env v ((s.filterMap f).map λi=>Xr env i):=DL (P:=λv s=>(∀t∈s,(f t).isSome=D1)->iF c env v ((s.filterMap f).map λi=>Xr env i)) (λY=>.nil) (λY Y d p s a b r k=>by refine eE (some_of (k _ (.head _))) λy j=>eE (w _ _ j) λY A=>?_;cases A;refine aa (List.filterMap_cons_some j) ?_;exact .cons a b (λl=>wpAny_bindName l) (r λt m=>k t (.tail _ m))) h
theorem adK(h:bI (vo c) i t=D1):(AG t env).length=i.length/\(AG t env).findIdx? (·.1)=VG:=DL (P:=λi t=>(AG t env).length=i.length/\(AG t env).findIdx? (·.1)=VG) ⟨rfl,rfl⟩ (λY Y a p t Y Y r=>by haveI b:AG (.Name a p::t) env=(Un,L2 (.Name a p) env)::AG t env:=rfl;refine aa b ?_;exact⟨gO Aj r.1,aa (arz) (aa r.2 rfl)⟩) h
noncomputable def Gs(b:gn)(l:ak)(a:dt):aw Str:=auq (λY=>aw Str) a (λi p=>if b.kindOf i==Bc .local&&p.line==l then Bc i else VG) λY=>VG
theorem acW(h:(es.all (foldedForSure 8)||!es.all (constantsAlone 8))=D1):eq [.Tuple t k p] (.Tuple es k2 p2) env=pure VG\/∃a l,eq [.Tuple t k p] (.Tuple es k2 p2) env=pure (Bc a)/\a=t.filterMap (Gs env l)/\a.length=t.length:=by
 unfold eq
 dsimp only
 split
 .exact .inl rfl
 split
 .exact .inl rfl
 split
 .exact .inl rfl
 rename_i b
 split
 .exact .inl rfl
 rename_i c
 split
 .rename_i d
  exfalso
  rcases Bool.or_eq_true_iff.mp h with h|h
  .exact c h
  .rw[d]at h;cases h
 .exact .inr (gy _ ((t.head?.map (·.pos.line)).getD 0) rfl rfl (bne_eq_false_iff_eq.mp (Bool.or_eq_false_iff.mp (Bool.eq_false_iff.mpr b)).1))
section
variable{C:Cx}{N:Env}{n:ak}{u:T->St->R}
theorem N4(j:bq C env c af)(O:Out C env af aR bJ h₀){E:Yj->a8->Prop}(v:iF c env is fs):∀{M:ai Slot}{J:ai (ai a7)}{P:ai Yj}{F:ai Slot}{G:Ro}{s:a8}{Q:ur->a8->Prop},iY is M F=Bc dc->gJ C.w.params C.bad cs (Sb G s.heap) s.heap M J P->Inv C env G af cs ⟨F,cells⟩ s.heap->Go C aR G bJ cs h₀ s.heap->(∀a∈J.flatten,G a=Bc .f/\aR a=VG)->J.flatten.Nodup->(∀U K W,Inv C env U af cs ⟨dc,cells⟩ K->Go C aR U bJ cs h₀ K->Q () {s with heap:=K,toks:=W})->da (eg C.prog C.w) A (dL fs P) Q E s:=by
 induction v with
|nil=>intro M J P F G s Q h L I g _ _ q;cases L with|nil=>cases h;exact u' (q _ _ s.toks I g)|cons _ _=>exact bh h
|cons w y b _ d=>intro M J P F G s Q h L I g H X q;cases L with|nil=>exact bh h|cons x L=>
rw[y!]at X H
refine bD (P7.mp X) λiU f i=>Op (b (yi j w y I g O x (λa m=>H a (List.mem_append_left _ m)) iU ?_))
intro U K W k l p Y
have V:=λa m=>H a (aqt _ m)
have Z:∀a,G a=Bc .f\/G a=VG->K.get? a=s.heap.get? a:=λa e=>by refine aj p λB r t=>t.2 a λq=>by rw[q,r]at e;exact e.elim (λe=>nomatch e) (λe=>nomatch e)
exact d h (L.keep (.refl _) (λa o z=>⟨(Z a (.inr z.2)).trans z.1,Y.2 a z.2⟩) λa m o e=>(Z a (.inl (V a m).1)).trans e) k l (λa m=>⟨Y.1 a (V a m).1 λm2=>i a m2 a m rfl,(V a m).2⟩) f q
def Xi(C:Cx)(c:gn)(f:Ro)(h:ai Pl)(cs:ai CA)(s:a8)(i:ai Slot)(j:St)(Q:ai Yj->a8->Prop):Prop:=∀b w F t v d,Inv C c b h w j F->Go C f b cs w s.heap F->gJ C.w.params C.bad w (Sb b F) F i d v->(∀a∈d.flatten,b a=Bc .f/\s.heap.objs.size<=a)->d.flatten.Nodup->Q v {s with heap:=F,toks:=t}
theorem abH{st:St}(I:Inv C env ρ af cs st h)(I1:Inv C env aG af aH st1 h1)(g1:Go C ρ aG cs aH h h1)(C9:dh C.w.params C.bad aH (Sb aG h1) h1 sl pC (Bc v1))(nu:∀a∈pC,aG a=Bc .f/\h.objs.size<=a)(iU:pC.Nodup)(g2:Go C aG aI aH ax h1 h2)(x2:gJ C.w.params C.bad ax (Sb aI h2) h2 ss dZ vs)(oa:∀a∈dZ.flatten,aI a=Bc .f/\h1.objs.size<=a)(hU:dZ.flatten.Nodup):gJ C.w.params C.bad ax (Sb aI h2) h2 (sl::ss) (pC::dZ) (v1::vs)/\(∀a∈(pC::dZ).flatten,aI a=Bc .f/\h.objs.size<=a)/\(pC::dZ).flatten.Nodup:=by
 have n0:∀a∈pC,ρ a=VG:=λa m=>I.none_of a (nu a m).2
 haveI nt:∀a∈pC,a≠C.tab:=λa m q=>by haveI :=n0 a m;rw[q,I.cM]at this;cases this
 refine aa y! (⟨.cons (C9.go g2 λa m=>⟨(nu a m).1,nt a m,λe m2 q=>I.f0 e m2 a q (n0 a m)⟩) x2,λa m=>?_,P7.mpr ⟨iU,hU,λa m b m2 q=>?_⟩⟩)
 .rcases nG.mp m with m|m
  .exact⟨(g2.kp a (nu a m).1).1,(nu a m).2⟩
  .exact⟨(oa a m).1,gY g1.sz (oa a m).2⟩
 .subst q;exact aL (I1.lt a (aa ((nu a m).1) (λe=>nomatch e))) (Nat.not_lt.mpr (oa a m2).2)
def OsG(C:Cx)(n:ak)(c:TC)(p:Pos)(f:ai dt)(h:St)(i:ai Slot)(j:St):Prop:=∀{A a d b cs}{s:a8}{Q:ai Yj->a8->Prop}{X},bx C A (n+c.lv) c.hn->bq C a c b->Inv C a d b cs h s.heap->Xi C a d b cs s i j Q->da (eg C.prog C.w) A (spliced (E5 p (yy f a))) Q X s
theorem UP(M:n6 C n u):∀{d:ai dt},bI (aN c f) l d=D1->∀{i k m},pv u l i=.ok (.os k) m->OsG C n c O d i k m:=by induction l with
|nil=>intro d t i k m h;cases d with|nil=>cases h;intro A j p F cs s Q X r v I w;exact SF (w p cs s.heap s.toks [] [] I (.refl _ _ _ _) .nil nM .nil)|cons _ _=>exact no t
|cons a l P=>intro d t i k m h;cases d with|nil=>exact no t|cons b d=>obtain⟨G,U⟩:=iA t;obtain⟨V,B,W,H⟩:=Za h;clear h;obtain⟨lr,Y,Z,h4⟩:=U7 H;clear H;cases h4;intro A j p F cs s Q X r v I w;refine j! (M c f a b G i V B W A j p F cs s _ _ r v I ?_) (gZ G _ _);intro aG aH bo aQ v1 pC J K _ C9 nu iU;refine P U Z r v J ?_;intro aI ax eZ bF vs dZ I2 L x2 oa hU;haveI y:=abH I J K C9 nu iU L x2 oa hU;exact w aI ax eZ bF _ _ I2 (K.trans L) y.1 y.2.1 y.2.2
theorem tL(ih:n6 C n u)(is:ai ak)(l:ai E):fT C n u (.de is l):=by
 intro c f py ht st
 refine uI ht λus v pos h_1=>?_;clear ht
 refine i1 h_1 λu0 h_2=>?_;clear h_1
 refine ri h_2 λts kk tp h_3=>?_;clear h_2
 refine ri h_3 λes Cs rW ht=>?_;clear h_3
 simp only[ji]at ht
 refine cps λP_ k_=>?_
 obtain⟨⟨⟨⟨⟨⟨hn,t1⟩,t2⟩,t3⟩,t4⟩,t5⟩,t6⟩:=ht
 refine k_ ?_;clear k_ P_
 intro A env ρ af cs s Q X L outer rm ot eo I k
 refine aS (Zp k) λss st1 ho k=>aj (pO k) λloc hl k=>?_
 haveI hz:=mc t3
 haveI hlen:is.length=ss.length:=Yk hl
 haveI Ec:is.length=l.length:=rx t4
 have main:∀{fs:ai (Yj->Sem ur)}{rv:aA},iF c env (if rv then is.reverse else is) fs->da (eg C.prog C.w) A (jM (.Tuple es Cs rW) env) (λv cC=>da (eg C.prog C.w) A (unpackItems v is.length VG) (λitems lD=>da (eg C.prog C.w) A (dL fs (if rv then items.reverse else items)) (λY=>Q .next) X lD) X cC) X s:=by intro fs rv Pz;refine g! (UP ih t6 ho rm eo I ?_);intro aG aH h1 aQ vs dZ I1 g1 x1 nu iU;refine⟨aa x1.len (aD hlen (aa Ec (aa l3 q0))),?_⟩;haveI qD:=cn h1 (eH vs 0);haveI I2:=I1.grow qD (dY _ _);haveI g2:=iz (C:=C) aG aH qD (dY h1 (eH vs 0));haveI it:(h1.push (eH vs 0)).IsTuple h1.objs.size vs.toArray:=⟨_,kK _ rfl,rfl,0,rfl⟩;haveI ez:is.length=vs.toArray.size:=aa lT (aa x1.len (aa hlen rfl));refine aa ez (jd (D! (s:={s with heap:=h1.push (eH vs 0),toks:=aQ}) (rm.hd hn) it λh3 x3 qU=>?_));have rU:∀b o,(h1.push (eH vs 0)).get? b=Bc o->h3.get? b=Bc o:=λb o e=>x3 b o (l4 (ib e)) e;haveI I3:=I2.grow rU qU;haveI g3:=iz (C:=C) aG aH rU qU;haveI gg:=(g1.trans g2).trans g3;haveI h9:gJ C.w.params C.bad aH (Sb aG h3) h3 ss dZ vs:=x1.keep (.refl _) (g2.trans g3).st λa m o e=>rU a o (qD a o e);have Mr:∀a∈dZ.flatten,aG a=Bc .f/\ρ a=VG:=λa m=>⟨(nu a m).1,I.none_of a (nu a m).2⟩;cases rv with|false=>exact N4 eo I.out Pz hl h9 I3 gg Mr iU λgB h4 l8 I4 g4=>k gB aH h4 l8 I4 g4|true=>
refine N4 eo I.out Pz (aa (eI rfl) ((adi (aaq t2) hlen).trans hl)) h9.reverse I3 gg (λa m=>Mr a (by simp at m⊢;exact m)) ?_ λgB h4 l8 I4 g4=>k gB aH h4 l8 I4 g4
haveI :dZ.reverse.flatten.Perm dZ.flatten:=(List.reverse_perm dZ).flatten;exact this.nodup_iff.mpr iU
 have tq:swapsWithSole [.Tuple ts kk tp] (.Tuple es Cs rW) pos.line env=pure Un:=(show YY (.Tuple es Cs rW) (Bc (.Tuple ts kk tp)) pos.line env=pure Un from mR rfl _ _ _)
 rcases acW t5 with hw|⟨names,line,hw,tN,uD⟩
 .refine g? ?_ tq hw
  refine nL (main (rv:=Un) (Ug t1)) (λv cC fY=>?_) λY Y x=>x
  rw[r!]
  refine ct (wz ?_)
  obtain⟨e1,e2⟩:=adK t1;unfold unpack;exact aa e1 (aa e2 (ct (wq fY)))
 .refine Assign_Tuple_swapped ?_ tq hw
  haveI el:names.length=is.length:=aa uD ((uC t1).symm)
  refine aa el ?_
  haveI Z8:∀t∈ts,(Gs env line t).isSome=D1:=by rw[tN]at uD;exact List.filterMap_length_eq_length.mp uD
  haveI hf:iF c env is (names.map λn=>Xr env n):=by refine aa tN (VJ (λt x e=>?_) t1 Z8);cases t with
|Name id p=>
replace e:(if(env.kindOf id==Bc .local&&p.line==line)=D1 then Bc id else VG)=Bc x:=e
split at e
.cases e;exact⟨p,rfl⟩
.exact bh e|_=>cases e
  haveI :=main (rv:=D1) hf.reverse;rw[<-List.map_reverse]at this;exact this
end
section
variable{B:uV}{w:jw}{A:ip}{E:Yj->a8->Prop}{s:a8}
section
set_option tactic.hygienic true
theorem Y9{K:Frag}(X:K.In s.heap)(I:InstAt s.heap x l C (Bc (dictOf es n)))(m:l.dict=Bc p)(G:l5 K (.ref C) "__setattr__"=Bc (Bc (.builtin "object.__setattr__")))(H:xL K C=D1)(L:takerIn K C name=Bc VG)(M:(GW K C).any (·.hasDict)=D1)(i:(getL name es).isSome=D1)(N:es.length<=100000)(d:∀J,J.get? p=Bc (dictOf (putL name (lF w.params name) (.str name (s.toks+1)) v es) (putN name es n))->MJ p s.heap J->Q () {s with heap:=J,toks:=s.toks+2}):da (eg B w) A (setAttr (.ref x) name v) Q E s:=by
 refine set_plain X I G (osa_open X I H L λb=>cps λP t=>aj (any_some M) λcd O U=>?_)
 obtain⟨V,u,W,j⟩:=I
 clear W
 obtain⟨oc,Z,K1,yo⟩:=l
 refine t ?_;clear t P
 dsimp only at u m j
 subst u m
 dsimp only at j
 refine ct (gP (ct (ct (FS V (ct (f? X O _ _ _ _ (λY Y f=>f) ?_))))))
 refine aa U (gP (ct (gP (ct ?_))))
 unfold nsSet
 refine ct (ct (r? (gP (ct (j? (ct (FS j ?_)))))))
 have c:(!es.toArray.any (·.key.isStr name)&&es.toArray.any (·.refKey))=Un:=by
  refine aD ash (aD ash ?_)
  unfold getL at i
  split at i
  .rename_i en y;exact aa (List.any_eq_true.mpr (aF en (List.mem_of_find?_eq_some y) (List.find?_some y))) rfl
  .split at i
   .exact nomatch i
   .rename_i h;rw[Bool.not_eq_true]at h;rw[h,s?]
 dsimp only
 rw[as5,c]
 refine U' j ?_
 have f:=putName_dict name (lF w.params name) (.str name (s.toks+1)) v es n
 have k:=UB (N' name (lF w.params name) (.str name (s.toks+1)) v) j (aa f rfl)
 rw[f]at k
 have F:(putL name (lF w.params name) (.str name (s.toks+1)) v es).length<=es.length+1:=by clear f k i c j N d;induction es with|nil=>simp[putL]|cons a r ih=>
  unfold putL
  split
  .simp
  .simp only[hS];exact asn ‹_›
 refine ct (T? k (by exact R? (aa lT (aa l3 (by lia)))) ?_);exact gP (d _ k (Ls ..))
end
theorem Pt{k:a0}(h:s.heap.get? l=Bc (bc b m))(c:0<=k)(K:k<2^63)(f:k<b.length)(p:∀J u,J.get? l=Bc (bc (b.set k.toNat v) u)->MJ l s.heap J->Q () {s with heap:=J}):da (eg B w) A (setItem (.ref l) (.int k t) v) Q E s:=by
 haveI i:s.heap.IsList l b.toArray:=⟨_,h,rfl,m,rfl⟩
 unfold setItem
 try with_reducible refine wq ?_
 refine ct (Y! i.typeIs rfl ?_)
 refine ct (aru i.typeIs X! (Ix X! i.typeIs entry_list_setitem ?_ (args_list_setitem _ _ _)))
 show da _ _ (av6 (.int k t)>>=_) _ _ s
 refine ct (wpAny_listSubscript_int (fitsIndex_of c K) ?_)
 clear K
 obtain⟨j,rfl⟩:=sw c
 have y:j<b.toArray.size:=by simpa using f
 have G:b.toArray[j]?=Bc b.toArray[j]:=Array.getElem?_eq_getElem y
 show da _ _ ((seqItemAt l j>>=λr=>pure (r.map (j,.)))>>=_) _ _ s
 refine ct (ct (wpAny_seqItemAt h rfl (gP ?_)))
 refine aa G ?_
 show da _ _ (setSeqItemAt l j v>>=_) _ _ s
 refine ct (wpAny_setSeqItemAt h rfl ?_)
 have d:=Ln (f:=λC=>C.setIfInBounds j v) h
 have a:b.toArray.setIfInBounds j v=(b.set j v).toArray:=by simp
 rw[a]at d;exact ct (gP (gP ⟨.none,rfl,gP (p _ _ (by simpa using d) (Ls ..))⟩))
end
section
variable{C:Cx}{N:Env}{n:ak}{y:T->St->R}
variable{u:gn}{G ah:Ro}{F:ai Pl}{cs cs':ai CA}{H:St}{s:a8}{A:ip}{h J:ff}
theorem aa0{S:a7->Obj->Prop}:∀{c:ai ak}{v:ai D}{b:ai kJ},eX C cs S c v b->b.any (·.refKey)=Un:=by intro c v b a;induction a with|nil=>rfl|cons _ _ _ i=>rw[qE,i];rfl
theorem Ha{S:a7->Obj->Prop}(a:eX C cs S ns v es):es.length=ns.length:=by induction a with|nil=>rfl|cons _ _ _ h=>exact gO (.+1) h
theorem aeL:tH k w (n::ns) (v::a)=if n=k then(n::ns,w::a)else(n::(tH k w ns a).1,v::(tH k w ns a).2):=rfl
theorem Xq{S:a7->Obj->Prop}(p:C.fk k=D1)(B:Rd C.w.params cs S w v):∀{i:ai ak}{j:ai D}{l:ai kJ},eX C cs S i j l->eX C cs S (tH k w i j).1 (tH k w i j).2 (putL (C.nm k) (lF C.w.params (C.nm k)) (.str (C.nm k) t) v l):=by intro i j l b;induction b with|nil=>exact .cons p B .nil|@cons m d K O i P l a L r I=>
by_cases c:m=k
.clear p I
 subst c;unfold putL;refine aa (eI (fm (C.nm m))) (aa aeL (aa (eI rfl) (.cons a B r)))
.have M:ci (.str (C.nm m) K) (C.nm k)=Un:=by show(C.nm m==C.nm k)=Un;rw[hA];exactλf=>c (C.Cq _ _ a p f)
 unfold putL;refine aa (ej (Bool.eq_false_iff.mp M)) (aa aeL (aa (ej c) (.cons a L I)))
section
set_option tactic.hygienic true
theorem Vh(w:dz C)(ih:bG C n y)(a:E)(k:ak)(b:E):fT C n y (.dU a k b):=by
 intro c f py B H
 refine uI B λus v pos M=>?_;clear B
 refine i1 M λu0 O=>?_;clear M
 refine pP O λi j px B=>?_;clear O
 simp only[ji,D8]at B
 refine cps λP_ k_=>?_
 obtain⟨⟨⟨⟨⟨⟨hn,t1⟩,t2⟩,t3⟩,t4⟩,t5⟩,t6⟩:=B
 refine k_ ?_;clear k_ P_
 intro A u G F cs s Q X L Z rm ot V I t
 haveI hx:j=C.nm k:=aD V.nm (beq_iff_eq.mp t3)
 clear t3
 refine aa hx ?_
 have hk:C.fk k=D1:=aD V.fk t2
 refine aS (pE t) λd P h1 t=>aS (pE t) λd2 st2 h2 t=>aj (BN t) λr vP t=>?_
 subst vP
 refine so (YM t) λcl ns vs hc t=>?_
 obtain⟨gr,t⟩:=mW t
 refine aq1 ?_ (mR t4 _ _ _)
 refine ih c f b v t6 H d P h1 A u G F cs s _ _ rm V I ?_
 intro aG aH bo aQ v1 I1 g1 k1 r1
 refine ih c f a i t5 P _ st2 h2 A u aG F aH _ _ _ rm V I1 ?_
 intro aI ax eZ bF v2 W g2 k2 r2
 refine aj r2.oK λp fK EP=>?_
 clear r2
 subst EP
 refine bD (W.cells r _ p hc fK) λcz ro nd=>?_
 clear cz;cases cellK (s:={s with heap:=eZ,toks:=bF}) W fK hc with|inst U ho hd rf=>
rename_i ca dx K es mm
haveI dI:C.K.In eZ:=λb i l=>W.tok b i (w.dI b i l)
haveI hz:es.length<=100000:=aa (Ha rf) (fS gr)
refine Y9 (s:={s with heap:=eZ,toks:=bF}) dI ⟨ho,rfl,rfl,hd⟩ rfl (w.sa _ _ U) (w.pl _ _ U) (by unfold takerIn;rw[w.fd _ _ _ U hk];rfl) (w.hd _ _ U) ?_ hz ?_
.unfold getL
 split
 .rfl
 .exact aa (aa0 rf) rfl
intro J ga sb
have ne:ca≠dx:=by simp only[CA.all,ψ,List.nodup_cons,hX]at nd;exact nd.1
haveI GF:=(r1.mono g2.cs g2.st);clear nd;refine bD (W.Bd fK (mu sb.1.symm) (λb i m n=>(sb.2 b λl=>n (by subst l;exact ro _ (by simp[CA.all]))).trans m) (.inst U ((sb.2 _ ne).trans ho) ga (Xq hk GF rf))) λI3 g3 Y=>?_;exact t aI ax J _ I3 ((g1.trans g2).trans g3)
end
section
set_option tactic.hygienic true
theorem Bg(W:bG C n y)(a b d:E):fT C n y (.dF a b d):=by intro c f py M H;refine uI M λus v pos O=>?_;clear M;refine i1 O λu0 P=>?_;clear O;refine ku P λj i px M=>?_;clear P;simp only[ji,D8]at M;refine cps λU K=>?_;obtain⟨⟨⟨⟨hn,t1⟩,t2⟩,t3⟩,t4⟩:=M;refine K ?_;clear K U;intro A u G F cs s Q X L Z rm ot eo I B;refine cps λU K=>aS (pE B) λw st1 h1 B=>aS (pE B) λd2 st2 h2 B=>aS (pE B) λd3 st3 h3 B=>K ?_;clear K U;refine aj (BN B) λr mj B=>?_;subst mj;refine aj (pS B) λk lN B=>?_;subst lN;refine cps λU K=>aS (PM B) λks vs hc B=>aj (pO B) λz9_ hp B=>?_;obtain⟨rH,cX⟩:=z9_;obtain⟨gr,B⟩:=mW B;refine K ?_;clear K U;refine as3 ?_ (mR t1 _ _ _);refine W c f d v t4 H w st1 h1 A u G F cs s _ _ rm eo I ?_;intro aG aH bo aQ v1 I1 g1 k1 r1;refine W c f a j t2 st1 _ st2 h2 A u aG F aH _ _ _ rm eo I1 ?_;intro aI ax eZ bF v2 I2 g2 k2 r2;refine W c f b i t3 st2 _ st3 h3 A u aI F ax _ _ _ rm eo I2 ?_;intro dC iQ vK fH v3 I3 V k3 r3;refine aj r2.oK λp MB F5=>?_;clear r2;subst F5;have fK:=V.cs _ _ MB;refine bD (I3.cells r _ p hc fK) λca ro nd=>?_;clear nd MB;cases ca with|dict ho rr hU=>rename_i ad es m;haveI al:=Nx (κ:=dS C) hp;refine aj (En ho rr al hU) λaP kv AW=>?_;haveI GF:=(r1.mono g2.cs g2.st).mono V.cs V.st;haveI hx:(dS C).knd.is ((dS C).e k) v3=D1:=(dS C).rd rfl r3;refine τ (s:={s with heap:=vK,toks:=fH}) hx AW (λJ A4 sb=>?_) (aa kv.len (aa l3 (by haveI :=fS gr;exact q0)));refine Bt A4 λo' nE ep q1 q2 q3 q4 q5 q6=>?_;clear A4 AW;obtain rfl:=Br q2 q3;refine bD (KV.put rfl GF kv hU hp) λCb iq Y=>?_;haveI rr':cL C.w.params iQ (Sb dC vK) rH cX nE.toList:=Cb.back q5 (q4);refine bD (I3.Bd fK (mu sb.1.symm) (λb j l n=>(sb.2 b λt=>n (by subst t;exact ro _ (by simp[CA.all]))).trans l) (.dict q1 rr' iq)) λI4 g4 Y=>?_;exact B dC iQ J _ I4 (((g1.trans g2).trans V).trans g4)
end
end
theorem acy{a:ak}(h:i<a):DU (i:a0) a=Bc i:=PySem.seqIndex_of (P1 i) (Int.ofNat_lt.mpr h)
theorem abB:DU (-1) (a+1)=Bc a:=by
 have h:(if(-1:a0)<0 then(-1:a0)+((a+1:ak):a0)else-1)=(a:a0):=by rw[eI (by decide)];omega
 unfold DU;simp only[h];exact eI (by rw[mM (P1 a),mM (Int.ofNat_lt.mpr (zC a))];rfl)
theorem yH{i:ak}{a:c}(h:l[i]?=Bc a)(b:i<9223372036854775808):dP l (i:a0)=Bc a:=by unfold dP;rw[eI (show wy (i:a0)=D1 from mM b),acy (List.getElem?_eq_some_iff.mp h).1];exact h
theorem GU{x:b}(h:l.getLast?=Bc x):dP l (-1)=Bc x:=by cases l with|nil=>cases h|cons a r=>unfold dP;rw[eI (by decide),hS,abB];exact WF.symm.trans h
section
variable{C:Cx}{N:Env}{n:ak}{F:T->St->R}
variable{j:gn}{B H:Ro}{t:ai Pl}{cs cs':ai CA}{G:St}{s:a8}{A:ip}{h h':ff}
theorem DJ(I:Inv C j B t cs G h)(k:G.l[i]?=Bc (.bS l)):∃p a f m,t[i]?=Bc p/\dB j h p (Bc (.ref a))/\h.get? a=Bc (bc (f.map .ref) m)/\dM C.w.params cs (Sb B h) h l f/\(∀b∈a::f,B b=Bc (.o i))/\(a::f).Nodup:=by have u:i<t.length:=aD I.dH ((List.getElem?_eq_some_iff.mp k).1);refine fN (I.vars i t[i] (.bS l) (by simp[u]) k) λJ K v c r w=>?_;cases c with|bS d y=>exact M9 (t[i]) _ _ _ (by simp[u]) v d y r w
section
set_option tactic.hygienic true
theorem Ho(I:Inv C j B t cs G h)(b:ownAt G.l i=D1):∃p a v m,t[i]?=Bc p/\dB j h p (Bc (.ref a))/\h.get? a=Bc (bc v m):=by
 unfold ownAt at b
 split at b
 .rename_i l c;refine kW (j0 I c) λp a v m d f k Y Y=>⟨p,a,v,m,d,f,k⟩
 .rename_i l c;refine kW (DJ I c) λp a r m d f k Y Y=>⟨p,a,_,m,d,f,k⟩
 .cases b
end
theorem dM.snoc{S:a7->Obj->Prop}(f:h.get? b=Bc (bc v k))(i:aC P cs S m v):∀{l:ai (ai D)}{d:ai a7},dM P cs S h l d->dM P cs S h (l++[m]) (d++[b]):=by intro l d a;induction a with|nil=>exact .cons f i .nil|cons c r _ p=>exact .cons c r p
theorem dM.inv{S:a7->Obj->Prop}{f:ai a7}(b:dM P cs S h i f):(match i with|[]=>f=[]|l::i=>∃a k v n,f=a::k/\h.get? a=Bc (bc v n)/\aC P cs S l v/\dM P cs S h i k):=by induction b with|nil=>rfl|cons c r d _=>exact qf _ _ _ _ rfl c r d
theorem dM.ofN{S:a7->Obj->Prop}(a:dM P cs S h [] b):b=[]:=a.inv
theorem dM.LQ{S:a7->Obj->Prop}(b:dM P cs S h (l::c) d):∃a k v n,d=a::k/\h.get? a=Bc (bc v n)/\aC P cs S l v/\dM P cs S h c k:=b.inv
theorem dM.aeh{S:a7->Obj->Prop}:∀{p:ai (ai D)}{w:ai a7},dM P cs S h (p++[m]) w->∃u b v k,w=u++[b]/\dM P cs S h p u/\h.get? b=Bc (bc v k)/\aC P cs S m v:=by intro p;induction p with|nil=>intro w c;refine lz c.LQ λa u v n d f r i=>aa d (aa i.ofN (qf ([]) _ _ _ rfl .nil f r))|cons l p y=>intro w c;refine lz (dM.LQ c) λa I J n d f r i=>aa d (lz (y i) λu b v k K L M O=>qf (_::u) b v k (aa K rfl) (.cons f r L) M O)
theorem dM.len{S:a7->Obj->Prop}(a:dM P cs S h l b):b.length=l.length:=by induction a with|nil=>rfl|cons _ _ _ h=>exact gO (.+1) h
section
set_option tactic.hygienic true
theorem lL(ih:n6 C n F)(i:ak)(a:E):fT C n F (.app i a):=by
 intro c f py V G
 refine Af V λe0 pos W=>?_;clear V
 refine jm W λh0 es kw ps Z=>?_;clear W
 refine pP Z λo0 g ap u=>?_;clear Z
 refine dD u λx px k=>?_;clear u
 refine i1 k λv r=>?_;clear k
 refine i0 r λV=>?_;clear r
 simp only[ji]at V
 refine cps λP_ M=>?_
 obtain⟨⟨⟨⟨hn,t1⟩,t2⟩,t3⟩,t4⟩:=V
 refine M ?_;clear M P_
 haveI hg:=beq_iff_eq.mp t3
 clear t3
 refine aa hg ?_
 intro A j B t cs s Q X L outer rm ot eo I kk
 refine cps λP_ M=>?_
 obtain⟨how,kk⟩:=mW kk
 refine aS (RF kk) λsl st1 h1 kk=>E9 (Ho I how) λp K Qq m0 e1 e2 e3=>M ?_;clear M P_
 refine zs ?_ (zq eo) (mR rfl _ _ _)
 refine Ch rfl (gZ t4 [] j) t1 (eJ eo t2 e1 e2 ?_)
 refine pa ("list") ("list.append") sB apt apr ⟨_,e3,rfl⟩ (λb q=>by cases q;exact aF _ e3 rfl) ?_
 refine aqj (ih c f a v t4 G sl st1 h1 A j B t cs s _ _ rm eo I ?_)
 intro aG aH bo aQ v1 os I1 g1 k1 sa J nd
 have n0:∀b∈os,B b=VG:=λb m=>I.none_of b (J b m).2
 haveI hp:=mD e1
 have same:∀{q:Pl}{b:a7},t[i]?=Bc q->dB j bo q (Bc (.ref b))->b=K:=λ{q b}z1 z2=>by
  rw[e1]at z1;cases z1
  have :=(k1 _ hp _ e2).uniq z2;cases this;rfl
 clear nd h1 e3 e2
 rcases ZS kk with⟨l,hl,kk⟩|⟨l,hl,kk⟩
 .refine aj (pO kk) λd hz kk=>cps λP_ M=>?_
  obtain⟨gr,kk⟩:=mW kk
  refine kW (j0 I1 hl) λp' a' vs m f1 f2 f3 f4 f5=>M ?_;clear M P_
  cases same f1 f2
  have hlen:=fS gr
  refine aj (Dh sa hz) λw hw rd=>?_
  obtain rfl:=eF hw
  refine gy vs.toArray m (aa lT (aa f4.len (aa l3 q0))) f3 ?_
  obtain⟨I2,g2⟩:=I1.E8 g1 I.cM I.c0 (λb m e m2 q=>I.f0 e m2 b q (n0 b m)) λb m=>⟨(J b m).1,aa (n0 b m) (by simp)⟩
  haveI U:=Ln (f:=λP=>P.push v1) f3
  rw[show vs.toArray.push v1=(vs++[v1]).toArray by simp]at U
  haveI ra:(aG.less os) K=Bc (.o i):=by exact aa (Ro.gL λm=>by have :=(J _ m).1;rw[f5]at this;cases this) f5
  refine cJ (I2.v5 f1 f2 ra (Ls ..) U ((f4.mono (.refl _) i8).append (.cons rd .nil))) λH I' g' Y=>kk H aH _ aQ I' (g2.trans g')
 .refine aj (ze kk) λm' hm k2=>?_
  clear kk
  obtain⟨gr,k3⟩:=mW k2
  clear kk;obtain rfl:=eF hm;refine xC (DJ I1 hl) λp' a' O m f1 f2 f3 f4 f5 f6=>?_;cases same f1 f2;clear same;cases sa with|o eb rb=>
rename_i b vsb mb
haveI hlen:=fS gr
haveI hll:O.length=l.length:=f4.len
refine gy ((O.map .ref).toArray) m (by rw[lT,fx,hll,l3];exact q0) f3 ?_
haveI U:=Ln (f:=λP=>P.push (.ref b)) f3
rw[show(O.map nv).toArray.push (.ref b)=((O++[b]).map nv).toArray by simp]at U
have nb:=J b (.head _)
clear J
have ba:∀z∈K::O,b≠z:=λz m e=>by have :=f5 z m;rw[<-e,nb.1]at this;cases this
have gN:∀z,z≠K->(bo.update K (vy λP=>P.push (.ref b))).get? z=bo.get? z:=λz ne=>P2 _ _ (ng ne)
have M5:∀z∈O,z≠K:=λz m e=>by obtain rfl:=e.symm;exact(List.nodup_cons.mp f6).1 m
have nw:∀z∈K::(O++[b]),z<(bo.update K (vy λP=>P.push (.ref b))).objs.size/\(aG z=Bc (.o i)\/(aG z=Bc .f/\B z=VG)\/bo.objs.size<=z):=λz m=>by
 rw[nH]
 clear gN U f6 f2 ba M5
 rcases hZ.mp m with rfl|m
 .exact⟨ib f3,.inl (f5 _ (.head _))⟩
 .rcases nG.mp m with m|m
  .exact⟨I1.lt z (aa (f5 z (.tail _ m)) (yf _)),.inl (f5 z (.tail _ m))⟩
  .have :z=b:=hX.mp m
   subst this;exact⟨ib eb,.inr (.inl ⟨nb.1,n0 z (.head _)⟩)⟩
have ndd:(K::(O++[b])).Nodup:=by refine aD Lq ?_;rw[P7];exact⟨f6,iU,λz m y my e=>by have :y=b:=hX.mp my;clear my;obtain rfl:=this.symm;exact ba z m e.symm⟩
clear f6 f3;refine bD (I1.Fi g1 I.cM I.c0 I.f0 f1 f2 (mu (nH _ _ _).symm) (λz o e ne=>(gN z λq=>ne (by subst q;exact f5 _ (.head _))).trans e) (.bS U ((dM.keep (.refl _) (λY Y e=>e) (λz m o e=>(gN z (M5 z m)).trans e) f4).snoc ((gN b (ba _ (.head _))).trans eb) rb)) nw ndd) λI' g' Y=>?_;exact k3 _ aH _ aQ I' g'
end
theorem uB(ih:bG C n F)(i:ak)(a:E):fT C n F (.ext i a):=by
 intro c f py ht G
 refine Af ht λe0 pos h_1=>?_;clear ht
 refine jm h_1 λh0 es kw ps h_2=>?_;clear h_1
 refine pP h_2 λo0 r ap h_3=>?_;clear h_2
 refine dD h_3 λw px h_4=>?_;clear h_3
 refine i1 h_4 λv h_5=>?_;clear h_4
 refine i0 h_5 λht=>?_;clear h_5
 simp only[ji]at ht
 refine cps λP_ k_=>?_
 obtain⟨⟨⟨⟨hn,t1⟩,t2⟩,t3⟩,t4⟩:=ht
 refine k_ ?_;clear k_ P_
 haveI hg:=beq_iff_eq.mp t3
 clear t3
 subst hg
 intro A j B t cs s Q X L outer rm ot eo I M
 refine cps λP_ k_=>?_
 obtain⟨how,M⟩:=mW M
 refine aS (pE M) λd st1 h1 M=>aj (ze M) λl hl M=>aj (pO M) λes hd M=>?_
 obtain⟨gr,k3⟩:=mW M
 obtain⟨qC,PU⟩:=iA gr
 haveI qC:=fS qC
 haveI PU:=fS PU
 refine E9 (Ho I how) λp V Qq m0 e1 e2 e3=>k_ ?_;clear k_ P_
 refine zs ?_ (zq eo) (mR rfl _ _ _)
 refine Ch rfl (gZ t4 [] j) t1 (eJ eo t2 e1 e2 ?_)
 refine pa ("list") ("list.extend") sB aps PySem.F.type_list_extend ⟨_,e3,rfl⟩ (λb y=>by cases y;exact aF _ e3 rfl) ?_
 haveI O:∀{l:ai D}{es:ai D}{W:Ro}{Z:ai CA}{J:ff}{aQ:ak}{K:ai Yj}{P:ai Yj}{m:ak}{p':Pl},st1.l[i]?=Bc (.o l)->Inv C j W t Z st1 J->Go C B W cs Z s.heap J->t[i]?=Bc p'->dB j J p' (Bc (.ref V))->J.get? V=Bc (bc P m)->aC C.w.params Z (Sb W J) l P->W V=Bc (.o i)->aC C.w.params Z (Sb W J) es K->aX C j B t cs s c.hn L Q X (.ok .ay ⟨st1.l.set i (.o (l++es)),st1.cells⟩)->Q .next {s with heap:=J.update V (vy λxs=>xs++K.toArray),toks:=aQ}:=by
  intro l es W Z J aQ K P m p' hl I1 g1 f1 f2 U f4 f5 re k
  haveI ga:=Ln (f:=λxs=>xs++K.toArray) U
  rw[show P.toArray++K.toArray=(P++K).toArray by simp]at ga;refine cJ (I1.v5 f1 f2 f5 (Ls ..) ga (f4.append re)) λH I' g' Y=>k H Z _ aQ I' (g1.trans g')
 refine PySem.seqMethod1_meets aps PySem.F.entry_list_extend (ih c f a v t4 G d st1 h1 A j B t cs s _ _ rm eo I ?_)
 intro W Z J aQ v1 I1 g1 k1 rd
 haveI hp:=mD e1
 have same:∀{y:Pl}{b:a7},t[i]?=Bc y->dB j J y (Bc (.ref b))->b=V:=λ{y b}z1 z2=>by rw[e1]at z1;cases z1;have :=(k1 _ hp _ e2).uniq z2;cases this;rfl
 refine kW (j0 I1 hl) λp' a' P m f1 f2 U f4 f5=>?_
 cases same f1 f2;haveI l1:=f4.len;cases d with
|list l'=>
cases eF hd
obtain⟨ab,K,mb,rfl,sa,ra⟩:=rd.ofList
have l2:=ra.len
refine⟨⟨_,U,rfl⟩,apm _ _,_,AutoSeq1.list_extend_list_list_0 V P.toArray m ab K.toArray mb ?_ ?_ ?_,U,sa.1,O hl I1 g1 f1 f2 U f4 f5 ra k3⟩
.simp[G!,Ab];lia
.rw[lT,l3];exact AQ
.rw[lT,lT,l3];exact sH|u l'=>
cases eF hd
obtain⟨ab,K,mb,rfl,sa,ra⟩:=rd.oR
have l2:=ra.len
refine⟨⟨_,U,rfl⟩,apm _ _,_,AutoSeq1.list_extend_list_tuple_0 V P.toArray m ab K.toArray mb ?_ ?_ ?_,U,sa.1,O hl I1 g1 f1 f2 U f4 f5 ra k3⟩
.simp[G!,Ab];lia
.rw[lT,l3];exact AQ
.rw[lT,lT,l3];exact sH|_=>exact bh hd
end
section
variable{C:Cx}{N:Env}{n:ak}{J:T->St->R}
variable{u:gn}{H M:Ro}{B:ai Pl}{cs G:ai CA}{F:St}{s:a8}{A:ip}{h K:ff}
theorem aC.setAt{S:a7->Obj->Prop}(r:Rd P cs S d v)(c:aC P cs S l f):aC P cs S (l.set k d) (f.set k v):=c.ind (λY=>.nil) (λY Y Y Y a b i k=>match k with|0=>.cons r b|k+1=>.cons a (i k)) k
theorem yT(i j:ak):fT C n J (.mX i j):=by
 intro c f py W F
 refine Af W λe0 pos Z=>?_;clear W
 refine jm Z λh0 es kw ps h_2=>?_;clear Z
 refine pP h_2 λo0 k ap h_3=>?_;clear h_2
 refine ku h_3 λu0 w0 sp h_4=>?_;clear h_3
 refine dD h_4 λr px h_5=>?_;clear h_4
 obtain⟨hw,h_6⟩:=iA h_5;clear h_5
 refine PR hw λqD tB up=>?_;clear hw
 refine i1 h_6 λv0 h_7=>?_;clear h_6
 refine dD h_7 λy py2 h_8=>?_;clear h_7
 refine i0 h_8 λW=>?_;clear h_8
 simp only[ji]at W
 refine cps λP_ k_=>?_
 obtain⟨⟨⟨⟨hn,t1⟩,t2⟩,t3⟩,t4⟩:=W
 refine k_ ?_;clear k_ P_
 haveI hg:=beq_iff_eq.mp t3
 clear t3
 refine aa hg ?_
 intro A u H B cs s Q X L outer rm ot eo I U
 refine cps λP_ k_=>aj (pO U) λd hd U=>aj (dA hd) λs0 hl hz=>aj (acT U) λl uD U=>aj (pO U) λm GG U=>?_
 obtain⟨gr,U⟩:=mW U
 refine vt (I.freeze hl hz) λpj v aG Ut Sf rd V g1=>xC (DJ V uD) λp a as k0 f1 f2 f3 f4 f5 f6=>k_ ?_;clear k_ P_
 clear uD
 obtain⟨l',rfl⟩:∃l',l=l'++[m]:=⟨_,IC GG⟩
 refine lz f4.aeh λkj b vs kb vP q2 q3 q4=>?_
 clear f4
 subst vP
 refine zs ?_ (zq eo) (mR rfl _ _ _)
 refine Ch (C5 rfl) rfl t1 (DY (eJ eo t2 f1 f2 ?_))
 refine Fa (Lr (F! ?_))
 refine iJ ⟨_,f3,rfl⟩ slot_list_getitem.lookup (yn (s:={s with toks:=s.toks+1+1}) f3 (GU (x:=nv b) (by simp)) ?_)
 refine pa ("list") ("list.append") sB apt apr ⟨_,q3,rfl⟩ (λb t=>by cases t;exact aF _ q3 rfl) ?_
 refine aqj (eJ eo t4 Ut Sf ?_)
 haveI hlen:=fS gr
 refine gy vs.toArray kb (aa lT (aa q4.len (aa l3 q0))) q3 ?_
 haveI ga:=Ln (f:=λxs=>xs.push v) q3
 rw[show vs.toArray.push v=(vs++[v]).toArray by simp]at ga
 haveI Dm:=f6
 rw[<-Lq,P7]at Dm
 have ba:∀w∈a::kj,w≠b:=λw m=>Dm.2.2 w m b (by simp)
 have gN:∀w,w≠b->(s.heap.update b (vy λxs=>xs.push v)).get? w=s.heap.get? w:=λw ne=>P2 _ _ (ng ne)
 have rb:aG b=Bc (.o i):=f5 b (by simp)
 clear q3 Dm
 refine bD (V.Fi (.refl _ _ _ _) V.cM V.c0 V.f0 f1 f2 (mu (nH _ _ _).symm) (λw O P ne=>(gN w λt=>ne (by subst t;exact rb)).trans P) (.bS ((gN a (ba a (.head _))).trans f3) ((dM.keep (.refl _) (λY Y P=>P) (λw m O P=>(gN w (ba w (.tail _ m))).trans P) q2).snoc ga (q4.append (.cons rd .nil)))) (λw m=>⟨by rw[nH];exact V.lt w (aa (f5 w m) (by simp)),.inl (f5 w m)⟩) f6) λI' g' Y=>?_
 refine U _ cs _ (s.toks+1+1) ?_ (g1.trans g')
 haveI P:(l'++[m]).dropLast=l':=by simp
 exact aa P I'
theorem SA{h:dt}:eq [.Tuple [.Subscript a b p,.Subscript c d q] k r] (.Tuple [.Subscript e f j,.Subscript g h l] m t) u=pure VG:=by
 unfold eq
 dsimp only
 split
 .rfl
 split
 .rfl
 split
 .rfl
 rename_i i;exact aL (show _=D1 from rfl) i
theorem abG(hd:A.handled=VG)(t1:c.bN i x1=D1)(t2:c.bN k x2=D1)(t3:c.bN i x3=D1)(t4:c.bN k x4=D1)(t5:c.bN i x5=D1)(t6:c.bN k x6=D1)(t7:c.bN i x7=D1)(t8:c.bN k x8=D1)(hl:F.l[i]?=Bc (.o l))(hk:F.l[k]?=Bc (.sh (.int (U:ak))))(hj1:1<=U)(hlen:l.length<=100000)(ha:l[U-1]?=Bc va)(hb:l[U]?=Bc vb)(W:bq C u c B)(I:Inv C u H B cs F s.heap)(kq:∀M G K tk,Inv C u M B G ⟨F.l.set i (.o ((l.set (U-1) vb).set U va)),F.cells⟩ K->Go C H M cs G s.heap K->Q .next {s with heap:=K,toks:=tk}):da (eg C.prog C.w) A (exec (.Assign [(.Tuple [.Subscript (.Name x1 p1) (.BinOp (.Name x2 p2) .Sub (.Constant (.int 1) u2 Fe) FP) Ci,.Subscript (.Name x3 p3) (.Name x4 p4) BW] Dd Eb)] (.Tuple [.Subscript (.Name x5 p5) (.Name x6 p6) wG,.Subscript (.Name x7 p7) (.BinOp (.Name x8 p8) .Sub (.Constant (.int 1) u8 E4) GH) wD] BL rW) pos) u) Q X s:=by
 refine cps λV P=>kW (j0 I hl) λp a Z m e1 e2 e3 e4 e5=>P ?_;clear P V
 have Ov:k<B.length:=aD I.dH ((List.getElem?_eq_some_iff.mp hk).1)
 refine cps λV P=>fN (I.vars k B[k] _ (by simp[Ov]) hk) λos ov w xx Y Y=>?_
 refine P ?_;clear P V
 have uK:B[k]?=Bc B[k]:=by simp[Ov]
 cases xx with|sh rj=>?_
 obtain⟨t,rfl⟩:=rj.ofInt
 refine cps λV P=>aj (e4.get ha) λwa ha1 ra=>aj (e4.get hb) λwb Ad rb=>P ?_;clear P V
 have lj:U<Z.length:=(List.getElem?_eq_some_iff.mp Ad).1
 have lv:Z.length<=100000:=aa e4.len hlen
 haveI N9:∀{j:ak}{r:Yj},Z[j]?=Bc r->dP Z (j:a0)=Bc r:=λ{j r}y=>by
  haveI lq:j<Z.length:=(List.getElem?_eq_some_iff.mp y).1
  unfold dP
  refine aa (eI (by unfold wy;exact mM (by simp;exact mA))) ?_
  haveI :DU (j:a0) Z.length=Bc j:=by unfold DU;simp only;rw[ej (show¬(j:a0)<0 by simp),eI (by simp;exact‹_›)];exact rfl
  exact aa this y
 haveI pred:∀{t:Tok},(((U:ak):a0)-1:a0)=((U-1:ak):a0):=λ{_}=>q46
 haveI tq:swapsWithSole [.Tuple [.Subscript (.Name x1 p1) (.BinOp (.Name x2 p2) .Sub (.Constant (.int 1) u2 Fe) FP) Ci,.Subscript (.Name x3 p3) (.Name x4 p4) BW] Dd Eb] (.Tuple [.Subscript (.Name x5 p5) (.Name x6 p6) wG,.Subscript (.Name x7 p7) (.BinOp (.Name x8 p8) .Sub (.Constant (.int 1) u8 E4) GH) wD] BL rW) pos.line u=pure Un:=rfl
 refine g? ?_ tq SA
 refine g! ?_
 haveI es:∀(a b:dt),yy [.Subscript (.Name x5 p5) a wG,.Subscript (.Name x7 p7) b wD] u=[(Un,jM (.Subscript (.Name x5 p5) a wG) u),(Un,jM (.Subscript (.Name x7 p7) b wD) u)]:=λY Y=>rfl
 rw[es]
 refine Eh (DY (eJ W t5 e1 e2 (eJ W t6 uK w ?_)))
 refine iJ ⟨_,e3,rfl⟩ slot_list_getitem.lookup (yn e3 (N9 Ad) ?_)
 refine Eh (DY (eJ W t7 e1 e2 (Hs (eJ W t8 uK w (Lr (F? ?_))))))
 refine iJ ⟨_,e3,rfl⟩ slot_list_getitem.lookup (aa (pred (t:=t)) (yn (s:={s with toks:=s.toks+1+1}) e3 (N9 ha1) (Lu ⟨by simp[l3],?_⟩)))
 generalize s.toks+1+1=tk
 haveI qD:=cn s.heap (eH [wb,wa] 0)
 have I1:=I.grow qD (dY _ _)
 haveI g1:=iz (C:=C) H cs qD (dY s.heap (eH [wb,wa] 0))
 rw[r!]
 refine ct (wz ?_)
 haveI ea:∀(a b c d:dt)(p j:Pos),AG [.Subscript a b p,.Subscript c d j] u=[(Un,L2 (.Subscript a b p) u),(Un,L2 (.Subscript c d j) u)]:=λY Y Y Y Y Y=>rfl
 rw[ea]
 haveI eu:∀(v:Yj)(f L:Yj->Sem ur),unpack v [(Un,f),(Un,L)]=(do dL [f,L] (<-holding [v] (unpackItems v [wb,wa].toArray.size VG))):=λY Y Y=>rfl
 rw[eu]
 haveI it:(s.heap.push (eH [wb,wa] 0)).IsTuple s.heap.objs.size [wb,wa].toArray:=⟨_,kK _ rfl,rfl,0,rfl⟩
 refine ct (wq (jd (D! (s:={s with heap:=s.heap.push (eH [wb,wa] 0),toks:=tk}) hd it λh3 x3 qU=>?_)))
 show da _ A (dL [_,_] [wb,wa]) _ X {s with heap:=h3,toks:=tk}
 have rU:∀b O,(s.heap.push (eH [wb,wa] 0)).get? b=Bc O->h3.get? b=Bc O:=λb O y=>x3 b O (l4 (ib y)) y
 have I3:=I1.grow rU qU
 have g3:=g1.trans (iz H cs rU qU)
 haveI ra3:=ra.mono (.refl _) g3.st
 haveI Xx:=rb.mono (.refl _) g3.st
 refine cps λV P=>kW (j0 I3 hl) λp3 a3 QK m3 u1 u2 u3 u4 u5=>P ?_;clear P V
 haveI vk3:cy u B s.heap h3:=(iT I qD (dY _ _)).trans (iT I1 rU qU)
 have w3:=vk3 _ (mD uK) _ w
 refine Op (kas_sub (eJ W t1 u1 u2 (Hs (eJ W t2 uK w3 (Lr (F? ?_))))))
 refine aa (pred (t:=t)) ?_
 have lv3:QK.length=Z.length:=u4.len.trans e4.len.symm
 refine Pt (s:={s with heap:=h3,toks:=tk+1+1}) u3 (by simp) q61 q47 λh4 m4 z1 z2=>?_
 obtain⟨gB,I4,g4,k4⟩:=I3.v5 u1 u2 u5 z2 z1 (by have :((U-1:ak):a0).toNat=U-1:=rfl;exact aa this (aC.setAt Xx u4))
 have hik:i≠k:=λy=>by rw[y,hk]at hl;cases hl
 have Rz:i<F.l.length:=(List.getElem?_eq_some_iff.mp hl).1
 refine cps λV P=>?_
 obtain⟨p5',a5,OG,m5,y1,y2,y3,y4,y5⟩:=j0 I4 (i:=i) (l:=l.set (U-1) vb) (by simp[Rz])
 refine P ?_;clear P V
 have w4:=k4 _ (mD uK) _ w3;refine Op (kas_sub (eJ W t3 y1 y2 (eJ W t4 uK w4 ?_)));have lv5:OG.length=Z.length:=aa y4.len (aa List.length_set e4.len.symm);refine Pt (s:={s with heap:=h4,toks:=tk+1+1}) y3 (by exact P1 _) (by simp;lia) (by simp;lia) λh5 m6 z3 z4=>?_;refine cps λV P=>?_;obtain⟨lQ,I5,g5,_⟩:=I4.v5 (l':=(l.set (U-1) vb).set U va) y1 y2 y5 z4 z3 (aC.setAt (ra3.mono (.refl _) g4.st) y4);refine P ?_;clear P V;refine u' (kq lQ cs h5 (tk+1+1) ?_ ((g3.trans g4).trans g5));have :=I5;rw[U?]at this;exact this
theorem Ui(i k:ak):fT C n J (.pK i k):=by intro c f py d F;refine uI d λus v pos m=>?_;clear d;refine i1 m λu0 p=>?_;clear m;refine ri p λl0 Dd Eb r=>?_;clear p;refine Mine.i2 r λA0 B0 t=>?_;clear r;refine ku t λa1 b1 Ci w=>?_;clear t;refine ku w λa2 b2 BW y=>?_;clear w;refine ri y λr0 BL rW O=>?_;clear y;refine Mine.i2 O λD0 F0 P=>?_;clear O;refine ku P λa3 b3 wG U=>?_;clear P;refine ku U λa4 b4 wD d=>?_;clear U;simp only[ji]at d;refine cps λW V=>?_;obtain⟨⟨⟨⟨⟨⟨⟨⟨hn,Y⟩,Z⟩,t3⟩,t4⟩,t5⟩,t6⟩,t7⟩,t8⟩:=d;refine V ?_;clear V W;refine dD Y λx1 p1 Y=>H9 Z λx2 p2 Fe FP u2 Z=>dD t3 λx3 p3 t3=>dD t4 λx4 p4 t4=>dD t5 λx5 p5 t5=>dD t6 λx6 p6 t6=>dD t7 λx7 p7 t7=>H9 t8 λx8 p8 E4 GH u8 t8=>?_;intro A u H B cs s Q X L outer rm ot eo I a;refine cps λW V=>aj (ze a) λl hl a=>aj (adm a) λj hk a=>?_;obtain⟨b,a⟩:=mW a;refine aj (pO a) λva ha a=>aj (pO a) λvb hb a=>?_;obtain⟨b,gr⟩:=iA b;refine V ?_;clear V W;haveI b:=hQ b;obtain⟨j',rfl⟩:=sw (au9 (by simp) b);exact abG (rm.hd hn) Y Z t3 t4 t5 t6 t7 t8 hl hk (Int.ofNat_le.mp b) (fS gr) ha hb eo I a
end
def sW(p:E0):Prop:=p=⟨[],p.args,VG,[],p.kw_defaults,VG,p.defaults⟩
theorem sW.of:p.posonlyargs=[]->p.vararg=VG->p.kwonlyargs=[]->p.kwarg=VG->sW p:=E0.casesOn p λpo _ va ko _ kw _(a:po=[])(b:va=VG)(c:ko=[])(d:kw=VG)=>by subst a b c d;rfl
noncomputable def tV(s:ai (Str×Yj))(a:Str×Yj):ai (Str×Yj):=if(s.lookup a.1).isNone then s++[a]else s
theorem OK(A:∀e s,f e s=pure (.yield (tV s e)))(l:ai (Str×Yj)):∀(s:ai (Str×Yj)),forIn l s f=(pure (l.foldl tV s):Sem _):=by induction l with|nil=>exactλY=>rfl|cons e l B=>exactλs=>by rw[Lp,A];exact B _
theorem UC:(tV s e).lookup x=(s.lookup x).or ([e].lookup x):=by
 unfold tV
 split
 .exact arx
 .rename_i h
  refine aa pD ?_
  cases a:x==e.1
  .exact Option.or_none.symm
  .rw[<-eq_of_beq a]at h;cases b:s.lookup x<;>first|rfl|exact aL (aa b rfl) h
theorem acZ{l:ai (Str×Yj)}:∀{s:ai (Str×Yj)},(l.foldl tV s).lookup x=(s.lookup x).or (l.lookup x):=by induction l with|nil=>exact Option.or_none.symm|cons a l i=>intro s;rw[φ,i,UC,Option.or_assoc,<-arx];rfl
theorem lookup_none{l:ai (Str×Yj)}(h:∀p∈l,x=p.1->Eo):l.lookup x=VG:=List.lookup_eq_none_iff.mpr λp m=>bne_iff_ne.mpr (h p m)
theorem Fw{t:ai Str}:∀{B:ai Yj}{i:ak},t.Nodup->t[i]?=Bc x->B[i]?=Bc v->(t.zip B).lookup x=Bc v:=by induction t with|nil=>exactλY h=>nomatch h|cons a t f=>intro B i d b c;cases B with|nil=>exact nomatch c|cons w B=>refine aa A! (aa pD ?_);cases i with|zero=>cases b;rw[fm];exact c|succ i=>exact aa (beq_eq_false_iff_ne.mpr λe:x=a=>(List.nodup_cons.mp d).1 (e▸mD b)) (f (List.nodup_cons.mp d).2 b c)
theorem UA{a:ai (Str×Yj)}{t:ai Str}:∀{B:ai Yj},t.length=B.length->(∀(i:ak)(b:Str)(v:Yj),t[i]?=Bc b->B[i]?=Bc v->a.lookup b=Bc v)->t.filterMap (λc=>(a.lookup c).map (c,.))=t.zip B:=by induction t with|nil=>exactλY Y=>rfl|cons c t d=>intro B h k;cases B with|nil=>exact nomatch h|cons v B=>refine aa arl (aa (k 0 c v rfl rfl) (aa (d (SX h) λi=>k (i+1)) ?_));rfl
theorem Kk(l:bindArgs i y=seqItems? i.defaults>>=k)(P:(i.defaults=.none/\u=[])\/∃a c d,i.defaults=.ref a/\s.heap.get? a=Bc c/\c.data=.seq u.toArray d)(B:∀r:aw (iO Yj),(r.getD #[]).toList=u->k r=pure b):z8 s i y b:=λM A f Q j=>by
 refine aa l (ct (P.elim (λh=>?_) λh=>?_))
 .exact aa h.1 (gP (aa (B VG h.2.symm) (gP j)))
 .refine mJ h λa c d m p t=>aa m (wpAny_seqItems p t (aa (B _ rfl) (gP j)))
section
variable{t:ai Str}{B u D:ai Yj}{S:ai (Str×Yj)}
theorem Ow(_:D=u)(a:B.length<=t.length):¬(decide (B.length>t.length)&&(V:aw Arg).isNone)=D1:=λh=>Nat.not_lt.mpr a (hQ (iA h).1)
theorem L8{l:ai Yj}(h:l.length<=n):l.drop (l.length-n)=l:=aa (Nat.sub_eq_zero_of_le h) rfl
theorem Kc(c:S=t.zip B)(d:D=u)(f:t.Nodup)(j:t.length<=B.length+u.length)(k:u.length<=t.length):¬(!((t.take (t.length-(D.drop (D.length-t.length)).length)).filter λa=>(S.lookup a).isNone).isEmpty)=D1:=by
 refine aa c (aa d (aa (L8 k) ?_))
 rw[List.filter_eq_nil_iff.mpr]
 .exact nofun
 .intro b m;refine eE (List.mem_iff_getElem?.mp m) λi h=>?_;have y:i<t.length-u.length:=nB (List.getElem?_eq_some_iff.mp h).1 (arj _ _);rw[A',eI y]at h;exact aa (Fw f h (ma (nB y (arf j)))) nofun
theorem Mm{v:ak}(h:v<=n)(a:n<=v+d):n=v+(d-(d-(n-v))):=by exact aa (Nat.sub_sub_self (arf (P3 v d▸a))) (aa (arw h) rfl)
theorem ar2{i:ak}(h:v<=n)(b:n<=v+d)(c:d<=n)(f:v<=i):n-d+(d-(n-v)+(i-v))=i:=by
 have a:n-d+(d+v-n)=v:=by rw[<-Nat.add_sub_assoc (le_of_le_of_eq b (P3 v d)),<-H?,Nat.sub_add_cancel c,E?]
 refine aa (Nat.sub_sub_right d h) ?_;rw[<-H?,a,arw f]
theorem MA(A:S=t.zip B)(C:D=u)(l:t.Nodup)(r:B.length<=t.length)(s:t.length<=B.length+u.length)(w:u.length<=t.length):(t++[]).filterMap (λc=>((((t.drop (t.length-(D.drop (D.length-t.length)).length)).zip (D.drop (D.length-t.length))).foldl tV S).lookup c).map (c,.))=t.zip (B++u.drop (u.length-(t.length-B.length))):=by
 refine aa A (aa C (aa (L8 w) ?_))
 rw[lH]
 refine UA (aa lk (aa w? (Mm r s))) λi d v a b=>aa acZ ?_
 by_cases h:i<B.length
 .rw[Lv h]at b;exact aa (Fw l a b) rfl
 .have h:=sK h
  rw[US h,ary]at b
  refine aa (Fw (l.sublist (List.drop_sublist _ _)) (aa (ary) (aa (ar2 r s w h) a)) b) ?_
  rw[lookup_none λp m f=>eE (List.mem_iff_getElem?.mp m) λj k=>?_]
  .rfl
  .have k:=List.getElem?_zip_eq_some.mp k;have y:=(List.getElem?_eq_some_iff.mp k.2).1;exact Nat.not_lt.mpr h ((asd (nB y r) l).mp (k.1.trans (f▸a.symm))▸y)
theorem UO{A:Type}{f:A->β->Sem (P6 β)}{a:A}(h:f a i=pure (.yield s)):forIn [a] i f=pure s:=by rw[Lp,h];rfl
theorem MZ:(if c=D1 then pure (.yield a)else pure (.yield b))=(pure (.yield (if c=D1 then a else b)):Sem (P6 (ai (Str×Yj)))):=by cases c<;>rfl
section
variable{s:a8}{H G:Str}{I:FuncBody}{F:uz}{j:a7}{X:ai (Str×a7)}{C K L Z:Yj}{N:aw a7}{J V:Yj}{O:a7}{y:ai Arg}{W:ai (aw dt)}{U:ai dt}(P:(C=.none/\u=[])\/∃T o n,C=.ref T/\s.heap.get? T=Bc o/\o.data=.seq u.toArray n)
include P
theorem ada(b:y.map (·.arg)=t)(M:t.Nodup)(Q:B.length<=t.length)(v:t.length<=B.length+u.length)(w:u.length<=t.length):z8 s ⟨H,G,⟨[],y,VG,[],W,VG,U⟩,I,F,j,X,C,K,L,Z,N,J,V,O⟩ ⟨B,[]⟩ (t.zip (B++u.drop (u.length-(t.length-B.length)))):=by
 subst b
 refine Kk rfl P λr A=>(ej (Ow A Q)).trans ((ej (Kc rfl A M v w)).trans ((gO (λx=>x>>=_) (OK ?_ _ _)).trans ?_))
 .exactλe Y=>MZ
 .exact Hp rfl (gO (pure (f:=Sem)) (MA rfl A M Q v w))
theorem adN(M:y.map (·.arg)=A::k::r)(Q:(A::k::r).Nodup)(w:(A::k::r).length<=[v0,v].length+u.length)(b:u.length<=(A::k::r).length):z8 s ⟨H,G,⟨[],y,VG,[],W,VG,U⟩,I,F,j,X,C,K,L,Z,N,J,V,O⟩ ⟨[v0],[(k,v)]⟩ ((A::k::r).zip ([v0,v]++u.drop (u.length-((A::k::r).length-[v0,v].length)))):=by
 have i:((k==A):aA)=Un:=beq_eq_false_iff_ne.mpr λq=>(List.nodup_cons.mp Q).1 (q▸.head _)
 have l:((y.map (·.arg)).contains k||([]:ai Str).contains k)=D1:=aa M (by simp)
 have m:¬(((y.map (·.arg)).zip [v0]).lookup k).isSome=D1:=aa M (by show¬(Sz k [(A,v0)]).isSome=D1;rw[pD,i];exact nofun)
 have c:(y.map (·.arg)).zip [v0]++[(k,v)]=(A::k::r).zip [v0,v]:=aa M (by simp)
 have f:[v0,v].length<=(y.map (·.arg)).length:=aa M (ul (ul (oZ _)))
 rw[<-M]at Q w b c⊢
 refine Kk (Hp (gO (λx=>x>>=_) (UO (by exact Hp (eI l) (Hp (ej m) rfl)))) (by exact rfl)) P ?_
 intro r d
 refine(ej (Ow d (aso f))).trans ((ej (Kc c d Q w b)).trans ((gO (λx=>x>>=_) (OK ?_ _ _)).trans ?_))
 .exactλe Y=>MZ
 .exact Hp rfl (gO (pure (f:=Sem)) (MA c d Q f w b))
end
theorem Tc(h:sW f.params)(i:f.params.args.map (·.arg)=d::k::r)(j:(d::k::r).Nodup)(P:(f.defaults=.none/\u=[])\/∃a b c,f.defaults=.ref a/\s.heap.get? a=Bc b/\b.data=.seq u.toArray c)(l:(d::k::r).length<=[v0,v].length+u.length)(m:u.length<=(d::k::r).length):z8 s f ⟨[v0],[(k,v)]⟩ ((d::k::r).zip ([v0,v]++u.drop (u.length-((d::k::r).length-[v0,v].length)))):=(gO (λp=>z8 s {f with params:=p} ⟨[v0],[(k,v)]⟩ _) h).mpr (adN P i j l m)
theorem DO(d:sW f.params)(h:f.params.args.map (·.arg)=t)(i:t.Nodup)(P:(f.defaults=.none/\u=[])\/∃a b c,f.defaults=.ref a/\s.heap.get? a=Bc b/\b.data=.seq u.toArray c)(j:B.length<=t.length)(k:t.length<=B.length+u.length)(l:u.length<=t.length):z8 s f ⟨B,[]⟩ (t.zip (B++u.drop (u.length-(t.length-B.length)))):=(gO (λp=>z8 s {f with params:=p} ⟨B,[]⟩ _) d).mpr (ada P h i j k l)
end
noncomputable def Cx.push(C:Cx)(a:gn):Cx:={C with fr:=a::C.fr}
section
variable{C:Cx}{A:gn}{cs:ai CA}{S:a7->Obj->Prop}{h:ff}
theorem MP(b:eX C cs S ns v es):eX (C.push A) cs S ns v es:=by induction b with|nil=>exact .nil|cons a r _ i=>exact eX.cons a r i
theorem ac2(b:eX (C.push A) cs S ns v es):eX C cs S ns v es:=by induction b with|nil=>exact .nil|cons a r _ i=>exact eX.cons a r i
theorem Yf(b:gE C cs S h c p):gE (C.push A) cs S h c p:=by induction b with|dict d r j=>exact .dict d r j|inst a d f r=>exact .inst a d f (MP r)|bW i d f=>exact .bW i d f
theorem aau(b:gE (C.push A) cs S h c p):gE C cs S h c p:=by induction b with|dict d r j=>exact .dict d r j|inst a d f r=>exact .inst a d f (ac2 r)|bW i d f=>exact .bW i d f
end
section
variable{f:Str->aw Aa}
theorem O0:∀{b:ai Str}{c:ai Yj}{m:Str->aw Yj}{a:Str},a∉b->L1 f (b.zip c) m a=m a
|[],_,_,_,_=>rfl|_::_,[],_,_,_=>rfl|n::b,v::c,m,a,h=>by
 simp only[hZ,not_or]at h
 refine aa A! ?_
 unfold L1
 refine aa (O0 h.2) ?_
 split
 .exact ej h.1
 .rfl
theorem Pe:∀{b:ai Str}{c:ai Yj}{m:Str->aw Yj}{a:Str},a∉b->L0 f (b.zip c) m a=m a
|[],_,_,_,_=>rfl|_::_,[],_,_,_=>rfl|n::b,v::c,m,a,h=>by
 simp only[hZ,not_or]at h
 refine aa A! ?_
 unfold L0
 refine aa (Pe h.2) ?_
 split
 .rfl
 .exact ej h.1
theorem aeN{P:ai Str->ai Yj->(Str->aw Yj)->ak->Prop}(l:∀{a b w c m},a∉b->a=x->w=v->P (a::b) (w::c) m 0)(h:∀{a b w c m i},(∀m,P b c m i)->P (a::b) (w::c) m (i+1)):∀{c:ai Yj}{m:Str->aw Yj}{i:ak},b.Nodup->b[i]?=Bc x->c[i]?=Bc v->P b c m i:=by induction b with|nil=>exactλY h=>nomatch h|cons a b p=>intro c m i j k d;cases c with|nil=>cases d|cons w c=>cases i with|zero=>exact l (List.nodup_cons.mp j).1 (eF k) (eF d)|succ i=>exact h λm=>p (List.nodup_cons.mp j).2 k d
theorem MM{d:ai Str}{i:ak}(l:d.Nodup)(p:d[i]?=Bc x)(r:j[i]?=Bc v)(k:f x=Bc .local):L1 f (d.zip j) m x=Bc v:=aeN (P:=λd j m Y=>L1 f (d.zip j) m x=Bc v) (λa b c=>by subst b c;exact aa (O0 a) (aa (eI k) (eI rfl))) (λh=>h _) l p r
theorem KH{d:ai Str}{i:ak}(l:d.Nodup)(p:d[i]?=Bc x)(r:j[i]?=Bc v)(k:f x≠Bc .local):L0 f (d.zip j) m x=Bc v:=aeN (P:=λd j m Y=>L0 f (d.zip j) m x=Bc v) (λa b c=>by subst b c;exact aa (Pe a) (aa (ej k) (eI rfl))) (λh=>h _) l p r
end
theorem cellsFrom_some:∀{d:ai (Str×Aa)}{a:ak}{f:ai (Str×a7)}{b:Str},(f.lookup b).isSome=D1\/(b,Tr)∈d->((Rk a d f).lookup b).isSome=D1
|[],_,_,_,h=>by
 rcases h with h|h
 .exact h
 .cases h|(y,k)::r,a,f,b,h=>by
 unfold Rk
 split
 .rename_i i
  refine cellsFrom_some ?_
  rcases h with h|h
  .left
   refine aa pD ?_
   split
   .rfl
   .exact h
  .rcases hZ.mp h with c|h
   .cases c
    left
    refine aa pD ?_;simp
   .exact .inr h
 .rename_i i
  refine cellsFrom_some ?_
  rcases h with h|h
  .exact .inl h
  .rcases hZ.mp h with c|h
   .cases c;exact aL rfl i
   .exact .inr h
noncomputable def fP(s:uz)(l:ai (Str×a7))(a:Str):Pl:=if s.names.lookup a=Bc .cell then .cell a ((l.lookup a).getD 0) Un else .l a
theorem EB(s:uz)(l:ai (Str×a7))(a:Str):(fP s l a).name=a:=by unfold fP;split<;>rfl
section
variable{C:Cx}{t:Ro}{cs:ai CA}{l:ai Cell}{s u:a8}{u9:gn}
theorem Inv.call{pn:ai Str}(I:Inv C u9 t [] cs ⟨[],l⟩ s.heap)(x:InCallC s fe.locals (L1 fe.kindOf (pn.zip vs) λY=>VG) fe.cells (L0 fe.kindOf (pn.zip vs) λY=>VG) u)(hk:fe.scope.kind=.function)(hf:fe.frame=Bc fe.locals)(rd:aC C.w.params cs (Sb t s.heap) args vs)(jg:ns=pn++ns.drop pn.length)(hlen:args.length=pn.length)(hj:ns.length=args.length+j)(nd:ns.Nodup)(kinds:∀x∈ns,fe.scope.names.lookup x=Bc .local\/(fe.scope.names.lookup x=Bc .cell/\(fe.cells.lookup x).isSome=D1)):∃ah,Inv (C.push fe) fe ah (ns.map (fP fe.scope fe.cells)) cs ⟨args.map .sh++tI j .ae,l⟩ u.heap/\(∀a,s.heap.objs.size<=a\/ah a=t a)/\(∀a,s.heap.objs.size<=a->ah a=VG\/ah a=Bc .sc):=by
 have lt':∀a o,s.heap.get? a=Bc o->u.heap.get? a=Bc o:=x.toInCall.keep
 have sz:s.heap.objs.size<=fe.locals:=x.toInCall.fresh
 have OC:fe.locals<u.heap.objs.size:=by refine so x.toInCall.ns λo Y Y ho Y=>ib ho
 have IV:∀n c,fe.cells.lookup n=Bc c->c<u.heap.objs.size/\fe.locals<c:=λn c e=>by refine aj (x.cell n c e) λo ho Y=>⟨ib ho,x.above n c (Ev e)⟩
 let as:ai a7:=fe.locals::(ns.filterMap λy=>fe.cells.lookup y)
 have M7:∀a∈as,s.heap.objs.size<=a/\a<u.heap.objs.size:=λa m=>by
  rcases hZ.mp m with rfl|m
  .exact⟨sz,OC⟩
  .refine aj (List.mem_filterMap.mp m) λy Y e=>aU (IV y a e) λh1 h2=>⟨gY sz (Ej h2),h1⟩
 have old:∀a,a<s.heap.objs.size->a∉as:=λa h m=>aL (M7 a m).1 (Nat.not_le.mpr h)
 haveI ne:∀a r,t a=Bc r->a∉as:=λa r e=>old a (I.lt a (aa e (yf _)))
 have pk:∀a r,t a=Bc r->(t.plus as .sc) a=Bc r:=λa r e=>aa (Ro.eP (ne a r e)) e
 have sb:∀a o,Sb t s.heap a o->Sb (t.plus as .sc) u.heap a o:=λa o z=>⟨lt' a o z.1,aa (Ro.eP (old a (ib z.1))) z.2⟩
 have nZ:∀{y c b},Pl.cell y c b∈ns.map (fP fe.scope fe.cells)->b=Un/\fe.cells.lookup y=Bc c/\y∈ns/\fe.scope.names.lookup y=Bc .cell:=λ{y c b}m=>by
  refine aj (List.mem_map.mp m) λz hz e=>?_
  unfold fP at e
  clear m
  split at e
  .rename_i hl
   cases e
   rcases kinds y hz with k|k
   .rw[hl]at k;cases k
   .refine eE (Option.isSome_iff_exists.mp k.2) λc hc=>qL rfl (aa hc rfl) hz hl
  .cases e
 haveI aex:∀{y c},fe.cells.lookup y=Bc c->y∈ns->c∈as:=λ{y c}e m=>.tail _ (List.mem_filterMap.mpr (aF y m e))
 refine dX (t.plus as .sc) ⟨λa e=>?_,λa o e=>sb a o (I.base a o e),?_,pk _ _ I.cM,by simp;exact Eq.symm ‹_›,I.d9,λi p sl hp dj=>?_,λk c p hc hp=>?_,λa k e=>?_,?_,λy m=>Ro.fo (.head _),λy c b m=>?_,λy z c b d m1 m2=>?_,λy c b m=>?_,λe m=>?_⟩ (λa=>?_) (λa h=>?_)
 .by_cases m:a∈as
  .exact(M7 a m).2
  .rw[Ro.eP m]at e;exact l? (nB (I.lt a e) sz) OC
 .refine aj I.tab λvs e q=>aF vs (lt' _ _ e) (q.mono sb)
 .rw[y8]at hp;cases hx:ns[i]? with|none=>rw[hx]at hp;cases hp|some y=>
  rw[hx]at hp
  refine aD (eF hp) ?_
  haveI hm:=mD hx
  have var:∀ov,(i<pn.length->∃v,vs[i]?=Bc v/\ov=Bc v)->(¬i<pn.length->(fe.scope.names.lookup y=Bc .local->ov=L1 fe.kindOf (pn.zip vs) (λY=>VG) y)/\(fe.scope.names.lookup y=Bc .cell->ov=L0 fe.kindOf (pn.zip vs) (λY=>VG) y))->dB fe u.heap (fP fe.scope fe.cells y) ov:=by
   intro ov h1 h2
   have K0:i<pn.length->pn[i]?=Bc y:=λhi=>by rw[jg,Lv hi]at hx;exact hx
   have JS:pn.Nodup:=by rw[jg]at nd;exact(P7.mp nd).1
   rcases kinds y hm with k|⟨k,kc⟩
   .have :fP fe.scope fe.cells y=.l y:=by unfold fP;rw[k];rfl
    refine aa this (⟨k,_,x.toInCall.ns,?_⟩)
    by_cases hi:i<pn.length
    .refine aj (h1 hi) λv e1 e2=>aa e2 (MM JS (K0 hi) e1 k)
    .exact((h2 hi).1 k).symm
   .obtain⟨c,hc⟩:=Option.isSome_iff_exists.mp kc
    haveI :fP fe.scope fe.cells y=.cell y c Un:=by unfold fP;rw[k,hc];rfl
    refine aa this (cV (.inl k) hc ?_)
    haveI ic:=x.cell y c hc
    by_cases hi:i<pn.length
    .refine aj (h1 hi) λv e1 e2=>aa e2 ?_
     rw[KH JS (K0 hi) e1 (by show fe.scope.names.lookup y≠_;rw[k];simp)]at ic;exact ic
    .exact aa ((h2 hi).2 k) ic
  by_cases hi:i<args.length
  .rw[Lv (by simpa using hi),y8,ma hi]at dj;refine aD (eF dj) (aj (rd.get (ma hi)) λv hv r=>?_);exact hY ([]) (Bc v) (var _ (λY=>aF v hv rfl) (λn=>aL (hlen▸hi) n)) (.sh (r.mono (.refl _) sb)) nM .nil
  .haveI hu:sl=.ae:=by rw[US (by simpa using hi)]at dj;exact List.eq_of_mem_replicate (mD dj)
   clear dj
   refine aa hu ?_
   rcases kinds y hm with k|k
   .exact⟨[],_,var (L1 fe.kindOf (pn.zip vs) (λY=>VG) y) (λn=>aL (hlen▸n) hi) (λY=>⟨λY=>rfl,λk2=>by rw[k]at k2;cases k2⟩),.ae _,nM,.nil⟩
   .exact⟨[],_,var (L0 fe.kindOf (pn.zip vs) (λY=>VG) y) (λn=>aL (hlen▸n) hi) (λY=>⟨λk2=>by(rw[k.1]at k2;cases k2),λY=>rfl⟩),.ae _,nM,.nil⟩
 .refine bD (I.cells k c p hc hp) λz r iq=>cV (Yf (z.keep (.refl _) sb λa m o e=>lt' a o e)) (λa m=>pk _ _ (r a m)) iq
 .by_cases m:a∈as
  .rw[Ro.fo m]at e;cases e
  .rw[Ro.eP m]at e;exact I.gG a k e
 .haveI :(ns.map (fP fe.scope fe.cells)).map Pl.name=ns:=by exact aa nA (S5 (λy=>EB _ _ y) ns)
  exact aa this nd
 .refine pF (nZ m) λaez e m1 Y=>?_
  clear m
  subst aez;exact .inl ⟨rfl,Ro.fo (aex e m1)⟩
 .obtain⟨_,e1,_,_⟩:=nZ m1
  obtain⟨_,e2,_,_⟩:=nZ m2;exact name_of_addr x.apart (Ev e1) (Ev e2)
 .obtain⟨_,e,m1,_⟩:=nZ m
  have h1:=(IV y c e).2
  refine⟨cr h1,λq=>?_⟩
  have :=I.lt C.tab (aa I.cM (yf _))
  have q:c=C.tab:=q
  rw[<-q]at this;exact aL (nB this sz) (Nat.not_lt.mpr (Ej h1))
 .have m:e∈fe::C.fr:=m
  rcases hZ.mp m with q|m
  .obtain⟨o,es,ep,ho,hd,_⟩:=x.toInCall.ns;exact aa q ⟨aa hk (by simp),fe.locals,o,hf,.inr (Ro.fo (.head _)),ho,λvs q=>by rw[hd]at q;cases q⟩
  .obtain⟨g1,L,o,g2,g3,g4,g5⟩:=I.eS e m;exact⟨g1,L,o,g2,by rcases g3 with g3|g3<;>(rw[pk _ _ g3];simp),lt' _ _ g4,g5⟩
 .by_cases h:a<s.heap.objs.size
  .exact .inr (Ro.eP (old a h))
  .exact .inl (sK h)
 .by_cases m:a∈as
  .exact .inr (Ro.fo m)
  .refine aa (Ro.eP m) (.inl (I.none_of a h))
end
noncomputable def Ro.dead(b:Ro)(h:ff):Ro:=λa=>if a<h.objs.size/\h.get? a=VG/\b a=VG then Bc .sc else b a
theorem Ro.Cv{b:Ro}(m:a<h.objs.size/\h.get? a=VG/\b a=VG):b.dead h a=Bc .sc:=eI m
theorem Ro.BD{b:Ro}(m:¬(a<h.objs.size/\h.get? a=VG/\b a=VG)):b.dead h a=b a:=ej m
theorem Ro.tJ{c:Ro}(m:c a=Bc r):c.dead h a=Bc r:=by exact aa (Ro.BD λb=>by rw[b.2.2]at m;cases m) m
theorem Ro.A2{c:Ro}(m:h.get? a=Bc o):c.dead h a=c a:=Ro.BD λb=>by rw[b.2.1]at m;cases m
section
variable{C:Cx}{env u9:gn}{ρ aG aI:Ro}{cs cs':ai CA}{cells:ai Cell}{st:St}{h h1 h2:ff}{fe:gn}{af:ai Pl}
theorem wx:∀a b,Sb ρ h a b->Sb (ρ.dead h) h a b:=λa b c=>⟨c.1,aa (Ro.A2 c.1) c.2⟩
theorem Inv.dead(I:Inv C env ρ [] cs ⟨[],cells⟩ h):Inv C env (ρ.dead h) [] cs ⟨[],cells⟩ h:=by
 refine⟨λa f=>?_,λa k f=>wx a k (I.base a k f),I.tab.sb wx,Ro.tJ I.cM,rfl,I.d9,λi p s v=>by simp at v,λj c p w v=>?_,λa j f=>?_,I.names,λl m=>by simp at m,λl c b m=>by simp at m,λl y c b d m=>by simp at m,λl c b m=>by simp at m,λf m=>?_⟩
 .by_cases t:a<h.objs.size/\h.get? a=VG/\ρ a=VG
  .exact t.1
  .rw[Ro.BD t]at f;exact I.lt a f
 .refine bD (I.cells j c p w v) λl r A=>cV (l.keep (.refl _) wx λY Y Y f=>f) (λa m=>Ro.tJ (r a m)) A
 .by_cases t:a<h.objs.size/\h.get? a=VG/\ρ a=VG
  .rw[Ro.Cv t]at f;cases f
  .rw[Ro.BD t]at f;exact I.gG a j f
 .obtain⟨B,L,k,F,u,G⟩:=I.eS f m;exact⟨B,L,k,F,by rcases u with u|u<;>(rw[Ro.tJ u];simp),G⟩
theorem Inv.pop(I:Inv (C.push fe) env ρ [] cs ⟨[],cells⟩ h):Inv C u9 ρ [] cs ⟨[],cells⟩ h:=⟨I.lt,I.base,I.tab,I.cM,rfl,I.d9,λi p s k=>by simp at k,λj c p l k=>by refine bD (I.cells j c p l k) λa r t=>cV (aau a) r t,I.gG,I.names,λa m=>by simp at m,λa c b m=>by simp at m,λa y c b d m=>by simp at m,λa c b m=>by simp at m,λf m=>I.eS f (.tail _ m)⟩
theorem NY(I:Inv C env ρ [] cs ⟨[],cells⟩ h)(d:Inv (C.push fe) fe aI af cs' st h2)(c:fU cs cs')(b:ρ a=Bc (.cell j)):aI a=Bc (.cell j):=by refine aj (I.gG a j b) λp f i=>?_;haveI K:=c _ _ f;haveI k:j<st.cells.length:=aa d.d9 ((List.getElem?_eq_some_iff.mp K).1);exact(d.cells j _ p (ma k) K).2.1 a i
theorem Inv.leave(I:Inv C env ρ [] cs ⟨[],cells⟩ h)(H:∀a r,ρ a=Bc r->r=.f\/∃j,r=.cell j)(A:Inv (C.push fe) fe aI af cs' st h2)(g:Go (C.push fe) aG aI cs cs' h1 h2)(B:∀a o,h.get? a=Bc o->h1.get? a=Bc o)(J:h.objs.size<=h1.objs.size)(r1:∀a,h.objs.size<=a\/aG a=ρ.dead h a)(K:∀L,fe.frame=Bc L->h.objs.size<=L):Inv C u9 aI.out [] cs' ⟨[],st.cells⟩ h2/\Go C ρ aI.out cs cs' h h2:=by
 haveI M:∀a r,ρ a=Bc r->aG a=Bc r:=λa r e=>by
  rcases r1 a with q|q
  .rw[I.none_of a q]at e;cases e
  .exact aa q (Ro.tJ e)
 refine⟨(A.outer u9).pop,⟨g.cs,λa o x=>?_,λa e=>?_,λa e=>?_,gY J g.sz⟩⟩
 .refine lh (g.st a o ⟨B a o x.1,?_⟩)
  rcases r1 a with q|q
  .exact aL (ib x.1) (Nat.not_lt.mpr q)
  .exact aa q (aa (Ro.A2 x.1) x.2)
 .clear A
  obtain⟨k1,k2⟩:=g.kp a (M a _ e)
  refine⟨Ro.fZ k1 Df,λN o q=>?_⟩
  refine aj (k2 N o (B a o q)) λsl O F=>aF sl O (λP=>F λG m=>?_)
  haveI m:G∈fe::C.fr:=m
  clear F k2 g
  rcases hZ.mp m with rfl|m
  .intro y;exact aL (ib q) (Nat.not_lt.mpr (K a y))
  .exact P G m
 .rcases H a _ e with q|⟨j,q⟩<;>cases q
theorem SD(a:ExcAt (C.push fe) cs ρ h e d m W):ExcAt C cs ρ h e d m W:=by cases a with|fresh r b c f i j k l h1=>exact .fresh r b c f i j k l h1|lB r b c f i j k l h1 p s t u v w=>exact .lB r b c f i j k l h1 p s t u v w
def G7(C:Cx)(env:gn)(ρ:Ro)(cs:ai CA)(s:a8)(Q X:Yj->a8->Prop):R->Prop|.ok (.ret l) i=>∀c cs' f t v k,Inv C env c [] cs' ⟨[],i.cells⟩ f->Go C ρ c cs cs' s.heap f->(∀a r,c a=Bc r->r=.f\/∃j,r=.cell j)->dh C.w.params C.bad cs' (Sb c f) f l k (Bc v)->(∀a∈k,c a=Bc .f/\s.heap.objs.size<=a)->k.Nodup->Q v {s with heap:=f,toks:=t}|.ok .ay i=>∀c cs' f t,Inv C env c [] cs' ⟨[],i.cells⟩ f->Go C ρ c cs cs' s.heap f->(∀a r,c a=Bc r->r=.f\/∃j,r=.cell j)->Q .none {s with heap:=f,toks:=t}|.exc d i=>∀c cs' f t b W,Inv C env c [] cs' ⟨[],i.cells⟩ f->Go C ρ c cs cs' s.heap f->(∀a r,c a=Bc r->r=.f\/∃j,r=.cell j)->ExcAt C cs' c f b d (Bc .none) W->(∀a∈W,ρ a=VG)->X (.ref b) {s with heap:=f,toks:=t}|_=>Eo
noncomputable def vW(C:Cx)(f:s8):aA:=f.code==.ref C.yG&&(f.qualname++".<locals>."++"<lambda>":Str)==C.mU
noncomputable def jy(C:Cx)(fd:s8)(ns:ai Str)(lv:ak):TC:={sc:=fd.scope,ns,nm:=C.nm,gk:=C.gk,fk:=C.fk,oV:=C.oV,om:=C.om,gz:=C.gz,ju:=C.ju,hn:=D1,lv,lam:=vW C fd,jk:=C.jk}
structure FnAt(C:Cx)(fa:a7)(fd:s8)(stmts:ai hI)(aE:ai Yj)(dflt:ai D)(ns:ai Str)(aW lv:ak)(body:ai S):Prop where
ho:∃o,C.h₀.get? fa=Bc o/\o.data=.func fd
lim:C.h₀.NoLimit
cd:C.h₀.CodeRec fd.code fd.qualname
bd:fd.body=.stmts stmts
rQ:fd.closure=[]
tO:fd.globals=Hr
blt:fd.builtins=Zn
hk:fd.scope.kind=.function
sA:fd.scope.isCoroutine=Un
sY:fd.scope.isGenerator=Un
pp:sW fd.params
par:fd.params.args.map (·.arg)=ns.take aW
np:aW<=ns.length
nd:ns.Nodup
kinds:∀x∈ns,fd.scope.names.lookup x=Bc .local\/fd.scope.names.lookup x=Bc .cell
oW:∀x,fd.scope.names.lookup x≠Bc .free
dN:∀x∈ns,(x==("__debug__":Str))=Un/\(x==("__classdict__":Str))=Un
dv:(fd.defaults=.none/\aE=[])\/∃T o n,fd.defaults=.ref T/\C.h₀.get? T=Bc o/\o.data=.seq aE.toArray n
dr:aC C.w.params [] (λa o=>C.h₀.get? a=Bc o) dflt aE
dl:dflt.length<=aW
tr:∃f,bI (hJ (jy C fd ns lv) f) body stmts=D1
theorem ID{dflt:ai D}(F:FnAt C fa fd stmts aE dflt ns aW lv body)(w:∀fe,gA (C.push fe) n (ev N fuel))(qc:full.length=aW){R:Cw->a8->Prop}(K:bx C A (n+lv+1) D1)(I:Inv C env ρ [] cs ⟨[],cells⟩ s.heap)(ro:∀a r,ρ a=Bc r->r=.f\/∃j,r=.cell j)(bt:z8 s fd args ((ns.take aW).zip sd))(GK:aC C.w.params cs (Sb ρ s.heap) full sd)(k:G7 C env ρ cs s (λv c=>R (.ok (.ret v)) c) (λe c=>R (.error e) c) (ev N fuel (.ss body) ⟨full.map .sh++tI (ns.length-aW) .ae,cells⟩)):mO (eg C.prog C.w) A (.call (.ref fa) args) R s:=by
 refine cps λf U=>aj F.ho λo ho DH=>?_
 obtain⟨ft,tP⟩:=F.tr
 refine U ?_;clear U f
 haveI base:∀a o,C.h₀.get? a=Bc o->s.heap.get? a=Bc o:=I.tok
 refine B' (by haveI :=K.dp;exact xi) (base _ _ ho) DH F.sA F.sY F.bd (F.cd.keeps base) (bt _ _ _ _ ?_)
 refine aa F.rQ ?_
 have kd:∀x∈ns,∀L:a7,fd.scope.names.lookup x=Bc .local\/(fd.scope.names.lookup x=Bc .cell/\((Rk (L+1) fd.scope.names []).lookup x).isSome=D1):=λx m L=>by
  rcases F.kinds x m with q|q
  .exact .inl q
  .exact .inr ⟨q,cellsFrom_some (.inr (δ q))⟩
 refine aql F.hk (λx hx=>?_) λfe M s1 O=>?_
 .haveI :=(χ (show(x.1,x.2)∈_ from hx)).1;exact kd x.1 (ar4 this) _
 have u:fe.scope=fd.scope:=aa M rfl
 have i:fe.frame=Bc fe.locals:=aa M rfl
 haveI e3:fe.cells=Rk (s.heap.objs.size+1) fd.scope.names []:=aa M rfl
 haveI e4:fe.globals=Hr:=aa M F.tO
 haveI e5:fe.builtins=Zn:=aa M F.blt
 have e6:s.heap.objs.size<=fe.locals:=O.toInCall.fresh
 refine qd O.toInCall.same λh1 aQ vP=>?_
 subst vP
 refine⟨F.lim.keeps λb o q=>O.toInCall.keep b o (base b o q),?_⟩
 obtain⟨aG,I1,r1,Z6⟩:=I.dead.call (j:=ns.length-aW) O (by rw[u];exact F.hk) i (GK.mono (.refl _) wx) (by refine aa Gh (aa (TB F.np) ?_);exact(aqr _ _).symm) (aa qc (aa Gh (aa (TB F.np) rfl))) (aa qc (by haveI :=F.np;lia)) F.nd (aa u (aa e3 (λx m=>kd x m _)))
 have ex:∀a o,s.heap.get? a=Bc o->h1.get? a=Bc o:=O.toInCall.keep
 haveI sz:s.heap.objs.size<=h1.objs.size:=by refine cps λf U=>so O.toInCall.ns λo Y Y q Y=>U ?_;clear U f;exact Ej (Lx e6 (ib q))
 haveI eo:bq (C.push fe) fe (jy C fd ns lv) (ns.map (fP fe.scope fe.cells)):=
    { kind:=by rw[u];exact F.hk
      glob:=e4
      blt:=e5
      kd:=λx k q Y=>by unfold aqp;rw[u];exact q
      kf:=λx q=>aL q (F.oW x)
      names:=by exact aa nA (S5 (λy=>EB _ _ y) ns)
      oW:=λx c' m=>by
       refine aj (List.mem_map.mp m) λz Y e=>?_
       unfold fP at e
       clear m;split at e<;>cases e
      dN:=F.dN
      nm:=rfl
      gk:=rfl
      fk:=rfl
      kl:=rfl
      kt:=rfl
      vg:=rfl
      kb:=rfl
      lam:=λe=>by
       haveI e:vW C fd=D1:=e
       unfold vW at e
       simp only[ji]at e;exact aa M ⟨eq_of_beq e.1,beq_iff_eq.mp e.2⟩
      lp:=rfl}
 have ot:jz (C.push fe) (A.deeper fe) fe fe.locals C.fr:=⟨by show A.frames.map (fe::.)=_;rw[K.fr];rfl,rfl,i⟩
 haveI nO:bx (C.push fe) (A.deeper fe) (n+lv) D1:=⟨λe=>K.hd e,by haveI :=K.dp;show A.depth+1+3*(n+lv)+3<_;exact pX,by haveI :=K.un;show A.units+3+20*(n+lv)+100<_;exact pX,by show A.frames.map (fe::.)=_;rw[K.fr];rfl⟩
 have l:∀{aI:Ro}{B:ai CA}{G:St}{h2:ff},Inv (C.push fe) fe aI (ns.map (fP fe.scope fe.cells)) B G h2->Go (C.push fe) aG aI cs B h1 h2->Inv C env aI.out [] B ⟨[],G.cells⟩ h2/\Go C ρ aI.out cs B s.heap h2:=λH g2=>I.leave ro H g2 ex sz r1 λL q=>by rw[i]at q;cases q;exact e6
 have oz:∀{aI:Ro}{B:ai CA}{G:St}{h2:ff}{a:a7},Inv (C.push fe) fe aI (ns.map (fP fe.scope fe.cells)) B G h2->Go (C.push fe) aG aI cs B h1 h2->aI a=Bc .f->aG a≠Bc .f->s.heap.objs.size<=a:=λ{aI B G h2 a}H g2 P z2=>by
  rcases r1 a with q|q
  .exact q
  .by_cases eQ:a<s.heap.objs.size
   .exfalso;cases V:ρ a with|some r=>
rw[Ro.tJ V]at q
rcases ro a r V with rfl|⟨j,rfl⟩
.exact z2 q
.rw[NY I H g2.cs V]at P;cases P|none=>cases t:s.heap.get? a with|none=>rw[Ro.Cv ⟨eQ,t,V⟩]at q;rw[g2.sc a q]at P;cases P|some o=>rw[Ro.A2 t,V]at q;rw[(g2.st a o ⟨ex a o t,q⟩).2]at P;cases P
   .exact sK eQ
 refine h! (w fe (jy C fd ns lv) ft body stmts tP _ (A.deeper fe) fe aG _ cs {s with heap:=h1,toks:=aQ} _ _ fe.locals C.fr nO ot eo I1 ?_)
 generalize ev N fuel (.ss body) ⟨full.map .sh++tI (ns.length-aW) .ae,cells⟩=r at k⊢;cases r with
|ok p ag=>cases p with|ay=>intro aI B h2 Q H g2;obtain⟨X,Z⟩:=l H g2;exact k aI.out B h2 Q X Z (mh aI)|ret sl=>
intro aI B h2 Q v os H g2 sa J nd
obtain⟨X,Z⟩:=l H g2;exact k aI.out B h2 Q v os X Z (mh aI) (sa.keep (.refl _) (λY Y=>lh) λY Y Y e=>e) (λa m=>⟨Ro.fZ (J a m).1 (by simp),oz H g2 (J a m).1 (J a m).2⟩) nd|_=>exact k.elim
|exc d ag=>
refine⟨rfl,?_⟩
intro aI B h2 Q e fl W H g2 x lI nw
refine YI (s:={s with heap:=h2,toks:=Q}) ot H x lI ?_
intro dC W3 h3 I3 g3 _ x3 n3
have wn:∀a∈W,aG a≠Bc .f:=nw
have gg:Go (C.push fe) aG dC cs B h1 h3:=cq.rX g2 g3 wn
obtain⟨X,Z⟩:=l I3 gg
refine k dC.out B h3 Q e W3 X Z (mh dC) ((SD x3).back (λa m=>?_) λY Y=>lh) λa m=>?_
.have :=(x3.DG a m).1;exact aa this (Ro.fZ this (by simp))
.refine I.none_of a (oz I3 gg (x3.DG a m).1 λq=>?_)
 rcases n3 a m with z|z
 .exact nw a z q
 .have :=(g2.kp a q).1;rw[H.none_of a z]at this;cases this|fail=>exact k.elim
section
variable{aW lv:ak}{fa:a7}{fd:s8}{stmts:ai hI}{aE:ai Yj}{dflt:ai D}{ns:ai Str}{body:ai S}(F:FnAt C fa fd stmts aE dflt ns aW lv body){s:a8}(base:∀a o,C.h₀.get? a=Bc o->s.heap.get? a=Bc o)
include F
theorem FnAt.tl:(ns.take aW).length=aW:=aa Gh (aa (TB F.np) rfl)
include base
theorem FnAt.Ji:(fd.defaults=.none/\aE=[])\/∃a b c,fd.defaults=.ref a/\s.heap.get? a=Bc b/\b.data=.seq aE.toArray c:=F.dv.imp id λh=>mJ h λa b c d f i=>rP a b c d (base _ _ f) i
theorem FnAt.binds(h1:v.length<=aW)(h2:aW<=v.length+aE.length):z8 s fd ⟨v,[]⟩ ((ns.take aW).zip (v++aE.drop (aE.length-(aW-v.length)))):=by have h:=DO (B:=v) F.pp F.par (F.nd.sublist (asa _ _)) (F.Ji base);rw[F.tl]at h;exact h h1 h2 (F.dr.len▸F.dl)
theorem FnAt.Ve(c:fd.params.args.map (·.arg)=d::k::r)(h2:aW<=[b,v].length+aE.length):z8 s fd ⟨[b],[(k,v)]⟩ ((ns.take aW).zip ([b,v]++aE.drop (aE.length-(aW-[b,v].length)))):=by have a:=c.symm.trans F.par;have h:=Tc (v0:=b) (v:=v) F.pp c (a▸F.nd.sublist (asa _ _)) (F.Ji base);rw[a,F.tl]at h;exact h h2 (F.dr.len▸F.dl)
end
theorem HI{a:ak}(h1:a<=n)(h2:n<=a+d):a+(d-(d-(n-a)))=n:=(Mm h1 h2).symm
theorem FnAt.full{d:ai D}(F:FnAt C m t s j d ns k u l)(I:Inv C env ρ [] cs st h)(r:aC C.w.params cs (Sb ρ h) f v):aC C.w.params cs (Sb ρ h) (f++d.drop (d.length-(k-f.length))) (v++j.drop (j.length-(k-v.length))):=by exact aa r.len (aa F.dr.len (r.append ((F.dr.mono (λi p b=>bh ((List.getElem?_nil).symm.trans b)) λa c b=>I.base a c b).drop _)))
theorem HN{B:ai D}(F:FnAt C fa fd stmts aE B ns aW lv body)(H:∀fe,gA (C.push fe) n (ev N fuel))(K:args.length<=aW)(L:aW<=args.length+B.length){R:Cw->a8->Prop}(M:bx C A (n+lv+1) D1)(I:Inv C env ρ [] cs ⟨[],cells⟩ s.heap)(O:∀a r,ρ a=Bc r->r=.f\/∃j,r=.cell j)(rd:aC C.w.params cs (Sb ρ s.heap) args vs)(k:G7 C env ρ cs s (λv J=>R (.ok (.ret v)) J) (λe J=>R (.error e) J) (ev N fuel (.ss body) ⟨(args++B.drop (B.length-(aW-args.length))).map .sh++tI (ns.length-aW) .ae,cells⟩)):mO (eg C.prog C.w) A (.call (.ref fa) ⟨vs,[]⟩) R s:=by have G:∀a o,C.h₀.get? a=Bc o->s.heap.get? a=Bc o:=I.tok;exact ID F H (by rw[lk,w?];exact HI K L) M I O (F.binds G (rd.len▸K) (aa rd.len (aa F.dr.len L))) (F.full I rd) k
end
def lA(C:Cx)(b:ak)(p:aA)(f:Yj)(l:ai D)(i:ai Cell)(t:Slot)(K:ai Cell):Prop:=∀A k cs(s:a8)vs env R,bx C A b p->Inv C env k [] cs ⟨[],i⟩ s.heap->(∀a r,k a=Bc r->r=.f\/∃j,r=.cell j)->aC C.w.params cs (Sb k s.heap) l vs->(∀d c h u v m,Inv C env d [] c ⟨[],K⟩ h->Go C k d cs c s.heap h->(∀a r,d a=Bc r->r=.f\/∃j,r=.cell j)->dh C.w.params C.bad c (Sb d h) h t m (Bc v)->(∀a∈m,d a=Bc .f/\s.heap.objs.size<=a)->m.Nodup->R (.ok (.ret v)) {s with heap:=h,toks:=u})->mO (eg C.prog C.w) A (.call f ⟨vs,[]⟩) R s
theorem lA.g(k:lA C n hn f args cells sl bg):du C n hn f args cells sl bg:=λA B cs s F env Y Y G I H rd q=>Mj (k A B cs s F env _ G I H rd q)
theorem Fx{G:ai D}{P:RC->Prop}(A:¬P .fail)(h:P (kX N fuel Oi G aW body args cells)):args.length<=aW/\aW<=args.length+G.length/\P (yP (ev N fuel (.ss body) ⟨(args++G.drop (G.length-(aW-args.length))).map .sh++tI (Oi-aW) .ae,cells⟩)):=if c:args.length<=aW/\aW<=args.length+G.length then⟨c.1,c.2,(eI c:kX N fuel Oi G aW body args cells=_)▸h⟩else aL ((ej c:kX N fuel Oi G aW body args cells=_)▸h) A
theorem CD{P:RC->Prop}{M:R->Prop}(b:¬P .fail)(h:P (yP r))(k:∀a,P (.ok (.sh .none) a.cells)->M (.ok .ay a))(c:∀s a,P (.ok s a.cells)->M (.ok (.ret s) a))(f:∀d a,P (.exc d a.cells)->M (.exc d a)):M r:=R.casesOn r (λp a=>bp.casesOn p (λY h=>aL h b) (λY h=>aL h b) (λY h=>aL h b) (k a) (λs=>c s a)) f (λh=>aL h b) h
section
variable{C:Cx}{N:Env}{n J V O:ak}{L:a7}{t:s8}{H:ai hI}{X:ai Yj}{G:ai D}{U:ai Str}{B:ai S}{l:ai D}{i K:ai Cell}
theorem Od(F:FnAt C L t H X G U O V B)(u:∀W,gA (C.push W) n (ev N J))(h:kX N J U.length G O B l i=.ok sl K):lA C (n+V+1) D1 (.ref L) l i sl K:=by intro A ρ cs s vs Z j rm I ro rd k;refine bD (Fx (P:=(.=.ok sl K)) RC.noConfusion h) λh1 h2 h3=>HN F u h1 h2 rm I ro rd ?_;clear h;exact CD (P:=(.=.ok sl K)) RC.noConfusion h3 (λst p=>aU (RC.ok.inj p) λw y M r P Q a b c=>k M r P Q .none [] (y▸a) b c (w▸.sh .none) (λY m=>aL m lR) .nil) (λs0 st p=>aU (RC.ok.inj p) λw y M r P Q v os a b c d p f=>k M r P Q v os (y▸a) b c (w▸d) p f) λY Y p=>RC.noConfusion p
theorem Xu(F:FnAt C L t H X G U O V B)(p:∀u,gA (C.push u) n (ev N J))(h:kX N J U.length G O B l i=.exc d K):sO C (n+V+1) (.ref L) l i d K:=by intro A ρ cs s vs v Q f w I y M j;refine bD (Fx (P:=(.=.exc d K)) RC.noConfusion h) λP Z h3=>Mj (HN F p P Z w I y M ?_);clear h;exact CD (P:=(.=.exc d K)) RC.noConfusion h3 (λY k=>RC.noConfusion k) (λY Y k=>RC.noConfusion k) λd st k=>aU (RC.exc.inj k) λe1 e2 ah r h' tk k W a b c m nw=>j ah r h' tk k W (e2▸a) b c (e1▸m) nw
theorem FnAt.ade(F:FnAt C L t H X G U O V B):eD C (.ref L):=by intro h b;refine aj F.ho λa f j=>aF .frame (.inl rfl) ?_;intro A Q c s k d;unfold keeperOf;refine ct (d! (k _ _ (b _ _ f)) ?_);exact aa j (gP d)
end
structure qT(C:Cx)(c:ak)(Ca fI:a7):Prop where
cls:C.cls c=Bc Ca
SW:makesIn C.K Ca=D1
init:l5 C.K (.ref Ca) "__init__"=Bc (Bc (.ref fI))fn:Mb C.K (.ref fI)=Bc (.type "function")
section
variable{C:Cx}{n:ak}{c:ak}{y Z:a7}{l:ai D}{i K:ai Cell}
theorem MS(b:bx C A (n+1) h):bx C (A.under (.builtin "type.__call__" ⟨.ref y::r,k⟩)) n h:=by
 haveI w:Db (.builtin "type.__call__" ⟨.ref y::r,k⟩)=1:=by rfl
 haveI u:O! (.builtin "type.__call__" ⟨.ref y::r,k⟩)=1:=by rfl
 haveI a:Code.envs (.builtin "type.__call__" ⟨.ref y::r,k⟩)=[]:=by rfl
 refine⟨b.hd,?_,?_,?_⟩
 .show A.depth+Db _+3*n+3<_
  refine aa w ?_;haveI :=b.dp;exact pX
 .show A.units+O! _+20*n+100<_
  refine aa u ?_;haveI :=b.un;exact pX
 .show pushEnvs (Code.envs (.builtin "type.__call__" ⟨.ref y::r,k⟩)) A.frames=Bc C.fr;exact aa a b.fr
theorem KN(M:C.K.In C.h₀)(G:qT C c y Z){R:Cw->a8->Prop}(I:Inv C env ρ [] cs ⟨[],i⟩ s.heap)(N:∀a r,ρ a=Bc r->r=.f\/∃j,r=.cell j)(h:∀H J,Inv C env H [] (cs++[⟨s.heap.objs.size+1,Bc s.heap.objs.size⟩]) ⟨[],i++[.inst c [] []]⟩ J->Go C ρ H cs (cs++[⟨s.heap.objs.size+1,Bc s.heap.objs.size⟩]) s.heap J->(∀a r,H a=Bc r->r=.f\/∃j,r=.cell j)->mO (eg C.prog C.w) (A.under (.builtin "type.__call__" ⟨.ref y::rest,kw⟩)) (.call (.ref Z) ⟨.ref (s.heap.objs.size+1)::rest,kw⟩) (InitBack (s.heap.objs.size+1) R) {s with heap:=J}):mO (eg C.prog C.w) A (.call (.ref y) ⟨rest,kw⟩) R s:=by
 haveI L:C.K.In s.heap:=λb o q=>I.tok b o (M b o q)
 obtain⟨B,g,d,t,X⟩:=s
 refine make_core (makes_of L G.SW) (ch L G.init) (λF=>bind_fn L F G.fn) (.inl rfl) ?_
 haveI k:∀a o,B.get? a=Bc o->((B.push Mg).push (F9 y B.objs.size)).get? a=Bc o:=λa o e=>cn _ _ _ _ (cn _ _ _ _ e)
 haveI O:B.objs.size<=((B.push Mg).push (F9 y B.objs.size)).objs.size:=by rw[l7,l7];lia
 haveI P:((B.push Mg).push (F9 y B.objs.size)).get? B.objs.size=Bc (bP [] 0):=cn _ _ _ _ (kK _ rfl)
 haveI Q:((B.push Mg).push (F9 y B.objs.size)).get? (B.objs.size+1)=Bc (F9 y B.objs.size):=by haveI :=kK (B.push Mg) (o:=F9 y B.objs.size) rfl;rwa[l7]at this
 haveI U:((B.push Mg).push (F9 y B.objs.size)).objs.size=B.objs.size+2:=by rw[l7,l7]
 haveI V:∀a∈CA.all ⟨B.objs.size+1,Bc B.objs.size⟩,B.objs.size<=a/\a<((B.push Mg).push (F9 y B.objs.size)).objs.size:=λa m=>by
  refine aa U ?_
  simp only[CA.all,ψ,hZ,lR,ox]at m
  rcases m with m|m
  .exact aa m ⟨tm _,zC _⟩
  .exact aa m ⟨ir _,P0 (zC _)⟩
 refine bD (I.Js k O V (by simp[CA.all]) (.inst G.cls Q P .nil)) λW g1 Y=>?_
 refine h _ _ W g1 λa r e=>?_
 by_cases m:a∈CA.all ⟨B.objs.size+1,Bc B.objs.size⟩
 .rw[Ro.fo m]at e;cases e;exact .inr ⟨_,rfl⟩
 .rw[Ro.eP m]at e;exact N a r e
theorem aeH(m:C.K.In C.h₀)(p:qT C c y Z)(t:lA C n D1 (.ref Z) (.ref i.length::l) (i++[.inst c [] []]) (.sh .none) K):lA C (n+1) D1 (.ref y) l i (.sh (.ref i.length)) K:=by
 intro A W cs s X d a u I w B b
 refine KN m p I w λF G H f J=>?_
 have j:(cs++[⟨s.heap.objs.size+1,Bc s.heap.objs.size⟩])[i.length]?=Bc (⟨s.heap.objs.size+1,Bc s.heap.objs.size⟩:CA):=by refine aa I.d9 ?_;simp
 refine t _ F _ {s with heap:=G} _ d _ (MS u) H J (.cons (.ref j) (B.mono f.cs f.st)) ?_;intro L M N O v Y P k Q U h V;clear h V;cases U with|sh r=>cases r;exact⟨rfl,b L M N O _ [] P (f.trans k) Q (.sh (.ref (k.cs _ _ j))) nM .nil⟩
theorem ML(k:C.K.In C.h₀)(m:keepIn C.K f=D1):eD C f:=λh b=>keeps_K m h λa d j=>b a d (k a d j)
end
def HY(l:ai D):aw (ai aA):=nU (λd=>sU d VG Bc) l
def yL{a:Type}(l:ai a):aw D:=bY (aM l) (.int l.length)
def NZ(d:D):aw D:=jF d (mq d (xb d VG yL) yL) yL
def Fk(d:D):aw D:=jF d (mq d VG λl=>bY (aM l) (.list l)) λl=>bY (aM l) (.list l)
def Kj(d:D):aw D:=jF d VG λl=>bY (aM l) (.u l)
def NS(d:D):aw D:=jF d VG λl=>(fV l).bind λa=>bY (aM l&&a.all (λi=>decide (0<=i)&&decide (i<256))) (.bytes (a.map e?))
def intD(d:D):aw D:=sU d (iG d VG λi=>Bc (.int i)) λb=>Bc (.int (if b then 1 else 0))
def G5(d:D):aw D:=jF d VG λl=>(HY l).map λb=>.bool ((k? b.length).any λi=>b.getD i Un)
def minD(d:D):aw D:=jF d VG λl=>(fV l).bind λa=>l[argBest (λi j=>decide (a.getD i 0<a.getD j 0)) (a.length-1)]?
def Du(d:D):aw D:=sU d (iG d (qa d (vh d VG (Bc (.bool Un))) λY=>Bc (.bool Un)) λY=>Bc (.bool Un)) λY=>Bc (.bool D1)
theorem Rd.int_inv{S:a7->Obj->Prop}(r:Rd P cs S (.int i) v):∃t,v=.int i t:=r.ofInt
theorem O7{S:a7->Obj->Prop}(r:aC P cs S l b)(h:fV l=Bc i):Fu b i:=vF r h .nil λd v a b r c f j=>(show Rd P cs S (.int a) v from BJ f▸c).qr λt=>.cons _ _ j
theorem aei(h:fV l=Bc i):i.length=l.length:=EI h
theorem adj(h:fV l=Bc d)(c:i<l.length):l[i]?=Bc (.int (d.getD i 0)):=aj (T4 h (ma c)) λa b f=>aa (ma c) (aa (BJ f) (aa (aq2) (aa b rfl)))
theorem adq{S:a7->Obj->Prop}(r:aC P cs S l c)(h:HY l=Bc f):f.length=c.length/\∀(i:ak)(v:Yj),c[i]?=Bc v->v=.bool (f.getD i Un):=vF r h ⟨rfl,λY Y b=>bh b⟩ λd v a c r k m j=>⟨gO Aj j.1,λi w=>match i with|0=>λb=>(eF b).symm.trans (show Rd P cs S (.bool a) v from QW m▸k).ofBool|i+1=>j.2 i w⟩
section
variable{u:uV}{w:jw}{A:ip}{E:Yj->a8->Prop}{s:a8}
theorem RW(c:a7){a:e8}(f:a="list"\/a="tuple")(j:s.heap.get? c=Bc o)(l:o.cls=.type a)(m:o.data=.seq i n)(p:∀h,(∀b d,s.heap.get? b=Bc d->h.get? b=Bc d)->s.heap.objs.size<=h.objs.size->Q i.toList {s with heap:=h})(hsz:i.size<=Ab):da (eg u w) A (collect (.ref c)) Q E s:=jd (wpAny_collect_seq c f j l m (λh k r=>p h k r) hsz)
open Builtin AutoSeq1 in theorem YU(l:Addr)(o:Obj)(items:Array Value)(n:Nat)(hc:o.cls=.type "list")(hd:o.data=.seq items n)(hsz:items.size<=sizeLine):Meets (Builtin.«tuple.__new__» ⟨[.type "tuple",.ref l],[]⟩) (λY R s=>s.heap.get? l=some o/\∀h':Heap,(∀b o',s.heap.get? b=some o'->h'.get? b=some o')->s.heap.objs.size<=h'.objs.size->R (.ok (.ret (.ref h'.objs.size))) {s with heap:=h'.push {cls:=.type "tuple",data:=.seq items}}):=.of_wp λprog w A R s h=>by obtain⟨hp,g,d,tk,os⟩:=s;obtain⟨ht,h⟩:=h;haveI afn:=sub_tuple_self;haveI afL:=init_tuple_lookup;haveI hmh:=madeHere_tuple;haveI hT:Shared.TypeIs ⟨hp,g,d,tk,os⟩ (.ref l) "list":=(aF o ht hc);wp_walk using wpAny_loadPart' ht,wpAny_typeOf hT,RW (hsz:=hsz) l (.inl rfl) ht hc hd;intro h' hk sz;show wpAny _ _ (Builtin.Tuple.tupleExact items.toList.toArray>>=λv=>ret v) _ _ _;unfold Builtin.Tuple.tupleExact;refine wpAny_bind (wpAny_newObj_type ?_ (by show items.toList.toArray.size<=sizeLine;simpa using hsz));refine wpAny_pure (aF _ rfl ?_);haveI e:items.toList.toArray=items:=rfl;exact aa e (h h' hk sz)
theorem Yl(i:s.heap.get? l=Bc (bc v n))(c:v.length<=Ab)(h:∀a:ff,(∀b f,s.heap.get? b=Bc f->a.get? b=Bc f)->s.heap.objs.size<=a.objs.size->Q (.ref a.objs.size) {s with heap:=a.push (eH v 0)}):da (eg u w) A (call (.type "tuple") [.ref l]) Q E s:=callType_new F.called_tuple rfl (F.typeCall_tuple_1 _) (F.newCall_tuple_1 _) (λd=>F.args_object_init_2 d _) F.entry_tuple_new (YU l _ v.toArray n rfl rfl (c)) ⟨i,λa j k=>⟨(aF _ (kK _ rfl) rfl),h a j k⟩⟩
end
section
variable{C:Cx}{n:ak}{p:aA}
theorem yJ(u:∀A i cs(s:a8)t j(Q X:Yj->a8->Prop),bx C A n p->Inv C j i [] cs ⟨[],h⟩ s.heap->aC C.w.params cs (Sb i s.heap) l t->(∀m w v,(∀a b,s.heap.get? a=Bc b->m.get? a=Bc b)->Rd C.w.params cs (Sb i m) d v->Q v {s with heap:=m,toks:=w})->da (eg C.prog C.w) A (call f t) Q X s):du C n p f l h (.sh d) h:=by intro A i cs s t j Q X B I F G c;refine jd (u A i cs s t j _ X B I G λm w v k r y=>?_);exact c i cs m w v [] (I.grow k y) (iz i cs k y) F (.sh r) nM .nil
theorem tF(k:∀a b,h.get? a=Bc b->d.get? a=Bc b):∀a b,Sb f h a b->Sb f d a b:=λa b c=>⟨k a b c.1,c.2⟩
def gS(C:Cx)(n:ak)(p:aA)(f:Yj)(h:ai Cell)(b d:D):Prop:=∀{A:ip}{i:Ro}{cs:ai CA}{s:a8}{v:Yj}{j:gn}{Q X:Yj->a8->Prop},bx C A n p->Inv C j i [] cs ⟨[],h⟩ s.heap->Rd C.w.params cs (Sb i s.heap) d v->(∀k t l,(∀a c,s.heap.get? a=Bc c->k.get? a=Bc c)->Rd C.w.params cs (Sb i k) b l->Q l {s with heap:=k,toks:=t})->da (eg C.prog C.w) A (call f [v]) Q X s
theorem mZ(h:gS C n p f c e d):du C n p f [d] c (.sh e) c:=yJ λA k cs s l b Q X i I j a=>j.A5 λv r=>h i I r a
section
variable{d e:D}{c:ai Cell}
theorem vq{l:ai a}(h:yL l=Bc e):l.length<=100000/\D.int l.length=e:=⟨fS (bZ h).1,(bZ h).2⟩
theorem RH(h:NZ d=Bc e):du C n p (.builtin "len") [d] c (.sh e) c:=mZ (Am (P:=(.=Bc e)) (M:=gS C n p (.builtin "len") c e) h (λl h Y k cs s Y Y Y Y u I r f=>r.gz λa w m j i=>by
refine api ⟨_,j.1,rfl,_,rfl⟩ (aa lT (aa i.len (by have :=(vq h).1;exact uO))) ?_
rw[lT,i.len];exact f s.heap _ _ (λY Y e=>e) ((vq h).2▸.int _ _)) λh=>IU (P:=(.=Bc e)) (M:=gS C n p (.builtin "len") c e) h (λl h Y k cs s Y Y Y Y u I r f=>r.Gz λa w m j i=>by refine PySem.P.len_tuple j.1 (aa lT (aa i.len (by have :=(vq h).1;lia))) ?_;rw[lT,i.len];exact f s.heap _ _ (λY Y e=>e) ((vq h).2▸.int _ _)) λh=>I9 (P:=(.=Bc e)) (M:=gS C n p (.builtin "len") c e) (a:=VG) nofun h λl h Y k cs s Y Y Y Y u I r f=>r.Jn λb t y=>by
have v:b.size=l.length:=by rw[<-y,fx];exact VS.symm
refine len_bytes (aa v (by have :=(vq h).1;exact q0)) ?_;exact aa v (f s.heap _ _ (λY Y e=>e) ((vq h).2▸.int _ _)))
theorem NR(h:Fk d=Bc e):du C n p (.type "list") [d] c (.sh e) c:=mZ (Am (P:=(.=Bc e)) (M:=gS C n p (.type "list") c e) h (λl h Y u cs s Y Y Y Y v I r b=>r.gz λa w m j i=>call_list_seq _ (.inl rfl) j.1 rfl rfl (λt y k f=>b t s.toks _ k ((bZ h).2▸.list ⟨f,I.none_of _ (ir _)⟩ (i.mono (.refl _) (tF k)))) (NA i.len (fS (bZ h).1))) λh=>Bo (P:=(.=Bc e)) (M:=gS C n p (.type "list") c e) (a:=VG) nofun h λl h Y u cs s Y Y Y Y v I r b=>r.Gz λa w m j i=>call_list_seq _ (.inr rfl) j.1 rfl rfl (λt y k f=>b t s.toks _ k ((bZ h).2▸.list ⟨f,I.none_of _ (ir _)⟩ (i.mono (.refl _) (tF k)))) (NA i.len (fS (bZ h).1)))
theorem ZK(h:Kj d=Bc e):du C n p (.type "tuple") [d] c (.sh e) c:=mZ (ux (P:=(.=Bc e)) (M:=gS C n p (.type "tuple") c e) (a:=VG) nofun h λl h Y y cs s Y Y Y Y A I r b=>r.gz λa v m t i=>by refine Yl t.1 (jX (i.len▸fS (bZ h).1)) λu k w=>?_;have j:∀a f,s.heap.get? a=Bc f->(u.push (eH v 0)).get? a=Bc f:=λa f e=>cn _ _ a f (k a f e);exact b _ s.toks _ j ((bZ h).2▸.u ⟨kK _ rfl,I.none_of _ w⟩ (i.mono (.refl _) (tF j))))
theorem Sv{i:a0}(h:0<=i/\i<256):i.toNat=(i.toNat.toUInt8).toNat:=by exact aa Nat.toUInt8_eq (aa UInt8.toNat_ofNat' ((Nat.mod_eq_of_lt (Int.toNat_lt' (by decide)|>.mpr h.2)).symm))
theorem adz(h:NS d=Bc e):du C n D1 (.type "bytes") [d] c (.sh e) c:=mZ (ux (P:=(.=Bc e)) (M:=gS C n D1 (.type "bytes") c e) (a:=VG) nofun h λl h Y G cs s Y Y Y Y v I r b=>r.gz λa H m w j=>by refine aj (dA h) λf y h=>?_;have A:=(iA (bZ h).1).1;have u:∀i∈f,0<=i/\i<256:=λi m=>have h:=iA (lg.mp (iA (bZ h).1).2 i m);⟨hQ h.1,hQ h.2⟩;refine call_bytes_ints ⟨_,w.1,rfl,_,rfl⟩ (O7 j y) u (jX (j.len▸fS A)) (v.hd rfl) λB t k F=>b B k _ F ((bZ h).2▸?_);rw[show f.map e?=(byteArr f).toList.map Ge by unfold byteArr;refine aa arh (aa nA ?_);exact C' λi m=>Sv (u i m)];exact .bytes _ _)
theorem adv(h:intD d=Bc e):du C n p (.type "int") [d] c (.sh e) c:=mZ (E6 (P:=(.=Bc e)) (M:=gS C n p (.type "int") c e) h (λl h Y b cs s Y Y Y Y f I r a=>r.ofBool▸call_int_bool (a s.heap _ _ (λY Y e=>e) (eF h▸.int _ _))) λh=>lW (P:=(.=Bc e)) (M:=gS C n p (.type "int") c e) (a:=VG) nofun h λl h Y b cs s Y Y Y Y f I r a=>r.qr λt=>call_int_int (a s.heap _ _ (λY Y e=>e) (eF h▸.int _ _)))
end
end
section
variable{f:uV}{w:jw}{A:ip}{E:Yj->a8->Prop}{s:a8}
theorem none_bool(h:Q (.bool Un) {s with toks:=s.toks+1}):da (eg f w) A (call (.builtin "isinstance") [.none,.type "bool"]) Q E s:=call_isinstance (isinstance_false_none (by decide+kernel) F.isi_meta_bool (by rw[isSubtype_type];rfl')) h
theorem IY(i:s.heap.get? l=Bc (bc v n))(h:∀d,(∀b a,s.heap.get? b=Bc a->d.get? b=Bc a)->d.IsListIter s.heap.objs.size l 0/\d.IsList l v.toArray->(∀b∈[s.heap.objs.size,l],b<d.objs.size)->l≠s.heap.objs.size->Q (.ref s.heap.objs.size) {s with heap:=d}):da (eg f w) A (G9 (.ref l)) Q E s:=by
 haveI j:=ib i
 refine u? ⟨_,i,rfl,n,rfl⟩ (h _ (λb a c=>sy _ c) ⟨(dX _ (kK _ rfl) rfl rfl),⟨_,sy _ i,rfl,n,rfl⟩⟩ (λb k=>?_) (l4 j))
 rw[l7]
 simp only[hZ,lR,ox]at k
 clear i h
 rcases k with rfl|rfl
 .exact zC _
 .exact P0 j
theorem N5(i:s.heap.get? l=Bc (eH v n))(h:∀d,(∀b a,s.heap.get? b=Bc a->d.get? b=Bc a)->d.IsTupleIter s.heap.objs.size l 0/\d.IsTuple l v.toArray->(∀b∈[s.heap.objs.size,l],b<d.objs.size)->l≠s.heap.objs.size->Q (.ref s.heap.objs.size) {s with heap:=d}):da (eg f w) A (G9 (.ref l)) Q E s:=by
 haveI j:=ib i
 refine θ ⟨_,i,rfl,n,rfl⟩ (h _ (λb a c=>sy _ c) ⟨(dX _ (kK _ rfl) rfl rfl),⟨_,sy _ i,rfl,n,rfl⟩⟩ (λb k=>?_) (l4 j))
 rw[l7]
 simp only[hZ,lR,ox]at k
 clear i h
 rcases k with rfl|rfl
 .exact zC _
 .exact P0 j
end
section
variable{C:Cx}{n:ak}{hn:aA}
theorem zi{h d f:ff}(i:∀b a,h.get? b=Bc a->d.get? b=Bc a)(j:I=h.objs.size)(k:∀b a,b∉[I]->d.get? b=Bc a->f.get? b=Bc a):∀b a,h.get? b=Bc a->f.get? b=Bc a:=λb a c=>k b a (λm=>by haveI :b=I:=hX.mp m;clear m;obtain rfl:=this.symm;exact aL (ib c) (aa j (MR _))) (i b a c)
theorem Vs(h:G5 d=Bc e):du C n D1 (.builtin "any") [d] f (.sh e) f:=mZ (ux (P:=(.=Bc e)) (M:=gS C n D1 (.builtin "any") f e) (a:=VG) nofun h λl h A N cs s Y Y Y Y p I r b=>r.gz λa t m u w=>by
refine aj (nI h) λy B h=>?_
have j:=adq w B
refine call_any_walk (IY u.1 λO k F P G=>?_)
refine⟨_,_,_,_,_,_,λi=>y.getD i Un,rfl,R' (A:=A.in1) (p.hd rfl) _ a G t.toArray,F,λi v s Q c H J=>?_,λK L M=>?_⟩
.exact aa (j.2 i v ((wv ..).symm.trans H)) (C8 J)
.exact aa lT (aD j.1 (b K L _ (zi k rfl M) (h▸.bool _))))
theorem ad7(h:minD d=Bc b):du C n D1 (.builtin "min") [d] f (.sh b) f:=mZ (ux (P:=(.=Bc b)) (M:=gS C n D1 (.builtin "min") f b) (a:=VG) nofun h λl h A W cs s Y Y Y Y G I r c=>r.gz λa H m J j=>by
refine aj (dA h) λK y h=>?_
have L:0<l.length:=Lx (oZ _) (List.getElem?_eq_some_iff.mp h).1
refine call_min_walk (IY J.1 λX k M N O=>?_)
refine⟨_,_,_,_,_,_,_,rfl,R' (A:=A.in1) (G.hd rfl) _ a O H.toArray,M,N,aa lT (aa j.len L),ι (λi=>K.getD i 0) λi v p=>?_,λv P Q B U=>?_⟩
.have p:=(wv ..).symm.trans p
 have V:i<l.length:=j.len▸(List.getElem?_eq_some_iff.mp p).1;refine aj (j.get (adj y V)) λw t u=>(eF (t.symm.trans p)▸u).int_inv
.have F:=zi k rfl U;rw[lT,j.len,<-aei y]at B;refine aj (j.get h) λw t u=>?_;have b:=eF (t.symm.trans ((wv ..).symm.trans B));exact c P Q v F (b▸u.mono (.refl _) (tF F)))
theorem adT(h:Du d=Bc a):du C n hn (.builtin "isinstance") [d,.val (.type "bool")] j (.sh a) j:=yJ λA k cs s l m Q X B I p c=>p.nY λv l r w=>w.A5 λu y=>y.CV▸E6 (P:=(.=Bc a)) (M:=λd=>Rd C.w.params cs (Sb k s.heap) d v->da (eg C.prog C.w) A (call (.builtin "isinstance") [v,.type "bool"]) Q X s) h (λb h r=>r.ofBool▸IsiPair.bool_bool (c s.heap s.toks _ (λY Y a=>a) (eF h▸.bool _))) (λh=>NC (P:=(.=Bc a)) (M:=λd=>Rd C.w.params cs (Sb k s.heap) d v->da (eg C.prog C.w) A (call (.builtin "isinstance") [v,.type "bool"]) Q X s) h (λi h r=>r.qr λt=>IsiPair.int_bool (c s.heap _ _ (λY Y a=>a) (eF h▸.bool _))) (λh=>NP (P:=(.=Bc a)) (M:=λd=>Rd C.w.params cs (Sb k s.heap) d v->da (eg C.prog C.w) A (call (.builtin "isinstance") [v,.type "bool"]) Q X s) h (λi h r=>r.HJ λf t Y=>IsiPair.str_bool (c s.heap _ _ (λY Y a=>a) (eF h▸.bool _))) (λh=>EW (P:=(.=Bc a)) (M:=λd=>Rd C.w.params cs (Sb k s.heap) d v->da (eg C.prog C.w) A (call (.builtin "isinstance") [v,.type "bool"]) Q X s) (a:=VG) nofun h λh r=>r.AV▸none_bool (c s.heap _ _ (λY Y a=>a) (eF h▸.bool _))))) r
theorem OR(i:ak)(v:Yj):#[Mh a t,Mh b u][i]?=Bc v->∃w,v=.int ([a,b].getD i 0) w:=match i with|0=>λh=>⟨t,(eF h).symm⟩|1=>λh=>⟨u,(eF h).symm⟩|_+2=>bh
theorem OE{c:Prop}[Bs c]{a y v:Yj}(h:#[a,y][if decide c=D1 then 1 else 0]?=Bc v):(if c then y else a)=v:=by
 by_cases b:c
 .rw[eI (mM b)]at h;rw[eI b];exact eF h
 .rw[ej (by rw[Lc b];exact xa)]at h;rw[ej b];exact eF h
theorem Nr{P:ei}{cs:ai CA}{S:a7->Obj->Prop}{c:Prop}[Bs c]{a b:a0}{t u:Tok}:Rd P cs S (.int (if c then b else a)) (if c then .int b u else .int a t):=by split<;>exact .int _ _
theorem Uv:du C n D1 (.builtin "max") [.int a,.int b] h (.sh (.int (if b>a then b else a))) h:=yJ λA N cs s j l Q X m I p c=>p.nY λv j r y=>y.A5 λw B=>r.qr λt=>B.qr λu=>by refine call_max_two (N5 (s:={s with heap:=s.heap.push (eH [.int a t,.int b u] 0)}) (kK _ rfl) λO k F G H=>?_);exact⟨_,_,_,_,_,_,_,rfl,V? (A:=A.in1) (m.hd rfl) _ s.heap.objs.size H #[.int a t,.int b u],F,G,Q! _,CmpOf.ints_gt (λi=>[a,b].getD i 0) OR,λv J K L M=>c J K _ (λb d f=>zi k rfl M b d (cn _ _ _ _ f)) (OE L▸Nr)⟩
theorem R6:du C n D1 (.builtin "min") [.int a,.int b] h (.sh (.int (if b<a then b else a))) h:=yJ λA N cs s j l Q X m I p c=>p.nY λv j r y=>y.A5 λw B=>r.qr λt=>B.qr λu=>by refine call_min_two (N5 (s:={s with heap:=s.heap.push (eH [.int a t,.int b u] 0)}) (kK _ rfl) λO k F G H=>?_);exact⟨_,_,_,_,_,_,_,rfl,V? (A:=A.in1) (m.hd rfl) _ s.heap.objs.size H #[.int a t,.int b u],F,G,Q! _,ι (λi=>[a,b].getD i 0) OR,λv J K L M=>c J K _ (λb d f=>zi k rfl M b d (cn _ _ _ _ f)) (OE L▸Nr)⟩
end
noncomputable def tA(p:ai ak)(l:ai (ai ak)):ai (ai ak):=match l with|[]=>[p]|q::r=>if pt p q then p::q::r else q::tA p r
noncomputable def bE:ai (ai ak)->ai (ai ak)|[]=>[]|p::r=>tA p (bE r)
abbrev gV(a b:ai ak):Prop:=pt b a=Un
theorem uv:gV a b↔a<=b:=by unfold gV;rw[ltCps_eq,Bl];exact List.not_lt
theorem H7(d:gV a b)(y:gV b c):gV a c:=uv.mpr (List.le_trans (uv.mp d) (uv.mp y))
theorem JN(h:pt a b=D1):gV a b:=uv.mpr (List.le_of_lt (hQ ((ltCps_eq ..).symm.trans h)))
theorem EG(c:gV a b)(y:gV b a):a=b:=List.le_antisymm (uv.mp c) (uv.mp y)
theorem JP(p a:ai ak)(r:ai (ai ak)):tA p (a::r)=if pt p a then p::a::r else a::tA p r:=rfl
theorem Je(p:ai ak)(l:ai (ai ak)):(tA p l).Perm (p::l):=by induction l with|nil=>exact .refl _|cons a r i=>
rw[JP]
split
.exact .refl _
.exact(i.cons a).trans (.swap p a r)
theorem sZ(l:ai (ai ak)):(bE l).Perm l:=by induction l with|nil=>exact .refl _|cons p r i=>exact(Je p _).trans (i.cons p)
theorem UL(p:ai ak):l.Pairwise gV->(tA p l).Pairwise gV:=by induction l with|nil=>exactλY=>List.pairwise_cons.mpr ⟨nM,.nil⟩|cons a r i=>
intro h
have f:=List.pairwise_cons.mp h
rw[JP]
by_cases d:pt p a=D1
.exact aa (eI d) (List.pairwise_cons.mpr ⟨λb m=>(hZ.mp m).elim (λc=>c▸JN d) λm=>H7 (JN d) (f.1 b m),h⟩)
.exact aa (ej d) (List.pairwise_cons.mpr ⟨λb m=>(hZ.mp ((Je p r).mem_iff.mp m)).elim (λc=>c▸Bool.eq_false_iff.mpr d) λm=>f.1 b m,i f.2⟩)
theorem zH(l:ai (ai ak)):(bE l).Pairwise gV:=by induction l with|nil=>exact .nil|cons p r i=>exact UL p i
theorem U9:∀{p:Str},risingS p l=D1->(p::l).Pairwise λa b=>gV a.cps.toList b.cps.toList:=by induction l with|nil=>exactλY=>List.pairwise_cons.mpr ⟨nM,.nil⟩|cons c r i=>intro p h;have f:gV p.cps.toList c.cps.toList:=(D8 _).mp (iA h).1;have i:=i (iA h).2;exact List.pairwise_cons.mpr ⟨λy m=>(hZ.mp m).elim (λd=>d▸f) λm=>H7 f ((List.pairwise_cons.mp i).1 y m),i⟩
theorem acs(h:sortedS l=D1):l.Pairwise λa b=>gV a.cps.toList b.cps.toList:=by cases l with|nil=>exact .nil|cons=>exact U9 h
def uk(l:ai D):aw (ai (ai ak)):=nU dJ l
def qK(l:ai D):aw D:=(uk l).bind λs=>bY (ys s.length 60) (.list ((bE s).map .str))
def xR(cs:ai Cell)(d:D):aw D:=jF d (wu d VG λr=>cY cs[r]? VG λc=>vT c VG λk Y=>(bY (fF dJ k) ()).bind λY=>qK k) qK
noncomputable abbrev w6(l:ai ak):Str:=⟨l.toArray⟩
theorem abq(h:dJ d=Bc i):d=.str i:=A1 (P:=(.=Bc i)) (M:=λd=>d=.str i) (a:=VG) nofun h λY a=>gO D.str (eF a)
theorem abL{S:a7->Obj->Prop}(r:aC P cs S l c)(h:uk l=Bc f):QE c (f.map w6):=vF r h .nil λd v a c r i j k=>(show Rd P cs S (.str a) v from abq j▸i).HJ λs t b=>b▸.cons s t k
theorem IA(h:uk l=Bc s):s.length=l.length:=EI h
theorem Jz{S:a7->Obj->Prop}(h:QE v a):aC P cs S (a.map λs=>.str s.cps.toList) v:=by induction h with|nil=>exact .nil|cons y t r i=>exact .cons (.str y t) i
theorem K7(p:l.Perm (f.map w6))(s:sortedS l=D1):(l.map λs=>D.str s.cps.toList)=(bE f).map .str:=by have c:=p.map λs=>s.cps.toList;rw[nA,show(f.map ((λs:Str=>s.cps.toList)∘w6))=f from S5 (λd=>rfl) f]at c;refine aD (apn (λa b Y Y d y=>EG d y) (List.pairwise_map.mpr (acs s)) (zH f) (c.trans (sZ f).symm)) (aa nA ?_);rfl
section
variable{f:uV}{w:jw}{A:ip}{E:Yj->a8->Prop}{s:a8}
theorem S3(j:s.heap.get? a=Bc (bc v n))(k:QE v u)(m:v.length<64)(h:∀p(i:ai Yj)(l:ai Str)c,QE i l->l.Perm u->sortedS l=D1->p.get? a=Bc (bc i c)->(∀b d,b≠a->s.heap.get? b=Bc d->p.get? b=Bc d)->Q .none {s with heap:=p}):da (eg f w) A (call (.builtin "list.sort") [.ref a]) Q E s:=by refine Ix n? ⟨_,j,rfl⟩ p! (list_sort_treeK strKind_oneLt j k.keysOf (λK L r c=>keyKind_strs (aD c k)) m λt y B=>aF _ rfl ?_) (args_list_sort _);refine cJ (sorted_out_str k y B) λl C F G=>eE (sortedHeap_at (out:=(Le t).map (·.2)) j) λc I=>?_;refine h _ ((Le t).map (·.2)).toList l c C F G (I.trans (by unfold bc z0;rw[Array.toArray_toList])) λb d J H=>?_;exact aa (sortedHeap_old J (ib H)) H
end
section
variable{C:Cx}{n:ak}{hn:aA}
theorem abS{S:a7->Obj->Prop}(k:KV (dS C) cs S b w c):∀{s:ai (ai ak)},uk b=Bc s->c.map (·.1)=s.map w6:=by induction k with|nil=>exactλh=>eF h▸rfl|cons d l k i=>exactλh=>aj (dA h) λa f h=>aj (nI h) λr j h=>aD h (aa l6 (aa (i j) (aa (eF (d.symm.trans f)) rfl)))
theorem YK(l:f=strKind C.prog C.w):∀{c:ai (Str×Yj)},d.length=c.length->(∀(i:ak)v,d[i]?=Bc v->∃k a,c[i]?=Bc (k,a)/\f.is k v=D1)->QE d (c.map (·.1)):=by induction d with
|nil=>intro c h _;cases c with|nil=>exact .nil|cons _ _=>cases h
|cons v d m=>intro c h j;cases c with|nil=>cases h|cons s c=>refine aS (j 0 v rfl) λk a p r=>aa l6 (aa (eF p) ?_);subst l;exact(ar0 r).elim λt b=>b▸.cons _ t (m (SX h) λi=>j (i+1))
theorem TX(O:dz C)(P:cells[r]?=Bc (.dict ks ws))(U:fF dJ ks=D1)(h:qK ks=Bc e):gS C n D1 (.builtin "sorted") cells e (.ref r):=by intro A ρ cs s v env Q X V I rd q;refine rd.ym λp W=>aj (dA h) λY M h=>?_;have Z:=mc (bZ h).1;have j:=IA M;refine bD (I.cells r _ p P W) λu w nd=>aU u.inv λpn cx=>dG cx λes m y c d=>cJ (c.kv (κ:=dS C) U) λG kv H J=>?_;have f:s.heap.DictAt (dS C).knd p.a G m:=(pa _ es.toArray y ⟨rfl,rfl,rfl⟩ rfl J H (kv.nodup d));refine apf f' i? i' (args_sorted1 _) ?_;unfold Lf.«sorted»;refine ct (gP ?_);have K:G.length<60:=aa kv.len (aD j Z);refine ct (jd (kdu_collect (kdl_dict (yu I O.sm (w _ (.head _)))) (V.hd rfl) f (jX (gY (Ej K) (by decide))) λk l F kk N L=>?_));have L:s.heap.objs.size<=k.objs.size:=L;have B:F.toList.length=G.length:=aa VS N.1;refine ct (gl ?_ (jX (B▸gY (Ej K) (by decide))));have t:QE F.toList (Y.map w6):=abS kv M▸YK rfl B λi v e=>N.2 i v (aD (wf) e);refine ct (wq (S3 (kK _ rfl) t (B▸nB K (by decide)) λH out lr e J a h5 h6 h7=>?_));have ko:∀b o,s.heap.get? b=Bc o->H.get? b=Bc o:=λb o q=>h7 b o (l4 (ib (kk b o q))) (cn _ _ _ _ (kk b o q));exact gP (aF _ rfl (q _ l _ ko ((bZ h).2▸.list ⟨h6,I.none_of _ L⟩ (K7 a h5▸Jz J))))
theorem ack(w:dz C)(h:xR k d=Bc f):du C n D1 (.builtin "sorted") [d] k (.sh f) k:=mZ (Am (P:=(.=Bc f)) (M:=gS C n D1 (.builtin "sorted") k f) h (λl h A M cs s Y Y Y Y N I r i=>r.gz λa v m y t=>by
refine aj (dA h) λO u h=>jd (sorted_strs ⟨_,y.1,rfl,_,rfl⟩ (abL t u) (t.len▸IA u▸nB (mc (bZ h).1) (by decide)) λp P B F G Q=>?_)
refine(sortedAll_at s.heap v p).elim λf H=>?_
have J:∀b j,s.heap.get? b=Bc j->(sortedAll s.heap v p).get? b=Bc j:=λY Y=>sortedAll_old;exact i _ s.toks _ J ((bZ h).2▸.list ⟨H,I.none_of _ (tm _)⟩ (K7 F G▸Jz B))) λh=>DR (P:=(.=Bc f)) (M:=gS C n D1 (.builtin "sorted") k f) (a:=VG) nofun h λr h=>gC (P:=(.=Bc f)) (M:=λj=>k[r]?=j->gS C n D1 (.builtin "sorted") k f (.ref r)) (b:=VG) nofun h (λc h=>My (P:=(.=Bc f)) (M:=λc=>k[r]?=Bc c->gS C n D1 (.builtin "sorted") k f (.ref r)) (a:=VG) nofun h λU V h K=>aj (dA h) λY L h=>TX w K (bZ L).1 h) rfl)
end
section
open Sem(wp)
section
variable{j:uV}{w:jw}{A:ip}{E:Yj->a8->Prop}{s:a8}{b:iO Bq}{t:Tok}
theorem WM(h:Q Un s):da (eg j w) A (aph (.bytes b t)) Q E s:=by unfold aph;refine ct (wpAny_specialOf (Ml s b t) FB.slot_bytes_len.lookup ?_);generalize N:("bytes.__len__":e8)=T8;wp_delta;refine aa (show splitId T8=Bc ("bytes","__len__")from by subst N;decide+kernel) ?_;subst N;refine ct (wpAny_isInstance (b:=D1) (Ml s b t) (by rw[isSubtype_type];rfl') ?_);refine q' (λa=>aL a (by decide)) (λY=>?_);refine q' (λY=>?_) (λa=>aL (by decide+kernel) a);exact ct (k! (Ml s b t) (gP h))
theorem ad5{d:Cw->a8->Prop}(hh:A.handled=VG)(V:b.size<=2^24)(S:a7)(r:Yj)(p:ak)(X:s.heap.get? S=Bc {cls:=.type "list",data:=.seq #[] p})(hR:∀I C G B,(∀a k,a≠S->s.heap.get? a=Bc k->I.get? a=Bc k)->I.get? S=Bc {cls:=.type "list",dict:=VG,data:=.seq G B,slots:=#[]}->ItemsOf (λi v=>∃c u,b[i]?=Bc c/\v=.int (c.toNat:a0) u) G b.size->d (.ok (.ret r)) {s with heap:=I,toks:=C}):da (eg j w) A.in1 (H' (.ref S) (.bytes b t) r) (λJ y=>match J with|.done f=>d (.ok f) y|.again B=>B.quiet=D1/\mO (eg j w) A B d y) (λl y=>d (.error l) y) s:=by
 haveI K:S<s.heap.objs.size:=ib X
 haveI L:S≠s.heap.objs.size:=l4 K
 haveI Sp:S∉[s.heap.objs.size]:=λH=>L (hX.mp H)
 haveI W:=(KBw.walks (prog:=j) (w:=w) (A:=A.in1) hh s.heap.objs.size b t).toS
 haveI M:∀(h:ff)(m C:ak),t? h s.heap.objs.size b t 0->(∀a k,a≠S->s.heap.get? a=Bc k->h.get? a=Bc k)->h.get? S=Bc {cls:=.type "list",data:=.seq #[] m}->mO (eg j w) A (.builtin "list.extend.loop" ⟨[.ref S,.ref s.heap.objs.size,r],[]⟩) d {s with heap:=h,toks:=C}:=by
  intro h m C N hk O
  refine codeAny_extend_loopS W (aa l3 (by omega)) S Sp r b.size 0 _ #[] m rfl (oZ _) N O (ItemsOf.nil _) λy G B H P qe=>?_
  refine aa (Moved.eq_with H) (hR y.heap y.toks G B (λa k Z l=>H.heap a k (λQ=>?_) (hk a k Z l)) P qe)
  rcases hZ.mp Q with e'|Q
  .exact Z e'
  .exact aL (ib l) (aa (hX.mp Q) (MR _))
 unfold H'
 refine ct (k! (Ml s b t) ?_)
 haveI h1:av7 (.ref S) (.bytes b t)=Un:=rfl
 haveI h2:(Da "bytes"==Da "list")=Un:=rfl;haveI h3:(Da "bytes"==Da "tuple")=Un:=rfl;simp only[h1,h2,h3,GE,D9,hE];refine ct (υ ?_);refine ct (wq (WM ?_));haveI U:t? (s.heap.push {cls:=.type "bytes_iterator",data:=.fields #[.bytes b t,.int 0 0]}) s.heap.objs.size b t 0:=(dX _ (kK _ rfl) rfl rfl);haveI O:=sy {cls:=.type "bytes_iterator",data:=.fields #[.bytes b t,.int 0 0]} X;exact q' (λl=>aL l (by decide)) (λY=>gP ⟨plainId_quiet F.plain_extend_loop _,M _ p _ U (λa k Y l=>sy _ l) O⟩)
theorem aaD{d:Cw->a8->Prop}(J:A.handled=VG)(m:b.size<=2^24)(S:a7)(C:s.heap.get? S=Bc {cls:=.type "list",data:=.seq #[]})(K:∀p F r l,(∀a h,a≠S->s.heap.get? a=Bc h->p.get? a=Bc h)->p.get? S=Bc {cls:=.type "list",dict:=VG,data:=.seq r l,slots:=#[]}->ItemsOf (λi v=>∃c u,b[i]?=Bc c/\v=.int (c.toNat:a0) u) r b.size->d (.ok (.ret .none)) {s with heap:=p,toks:=F}):da (eg j w) A.in1 (Lf.«list.__init__» ⟨[.ref S,.bytes b t],[]⟩) (λG y=>match G with|.done f=>d (.ok f) y|.again l=>l.quiet=D1/\mO (eg j w) A l d y) (λk y=>d (.error k) y) s:=by
 show da _ _ (do let old<-apl (.ref S);apk (.ref S) (λY=>#[]);letGo old.toList.reverse;H' (.ref S) (.bytes b t) .none) _ _ s
 refine ct ?_
 unfold apl;refine ct (wpAny_seqItems C rfl (gP ?_));refine ct (wpAny_updateSeq C rfl ?_);have H:=UB (vy (λY=>(#[]:iO Yj))) C rfl;have L:∀a h,a≠S->s.heap.get? a=Bc h->(s.heap.update S (vy (λY=>(#[]:iO Yj)))).get? a=Bc h:=λa h B k=>(P2 _ _ (ng B)).trans k;refine ct (wpAny_letGo ?_);refine ad5 J m S .none _ H λp F r l M I N=>K p F r l (λa h B k=>M a h B (L a h B k)) I N
theorem WG(G:A.handled=VG)(h:b.size<=2^24)(H:∀k p m r,(∀a d,s.heap.get? a=Bc d->k.get? a=Bc d)->k.get? s.heap.objs.size=Bc {cls:=.type "list",dict:=VG,data:=.seq m r,slots:=#[]}->ItemsOf (λi v=>∃c u,b[i]?=Bc c/\v=.int (c.toNat:a0) u) m b.size->Q (.ref s.heap.objs.size) {s with heap:=k,toks:=p}):da (eg j w) A (call (.type "list") [.bytes b t]) Q E s:=by
 refine callType_codes (Q₁:=λl B=>l=.ref s.heap.objs.size/\B={s with heap:=s.heap.push {cls:=.type "list",data:=.seq #[]}}) F.called_list (F.typeCall_list_1 _) F.entry_list_init (code_list_new _ ⟨rfl,rfl⟩) λl B I=>?_;obtain⟨rfl,rfl⟩:=I;have C:(s.heap.push {cls:=.type "list",data:=.seq #[]}).get? s.heap.objs.size=Bc {cls:=.type "list",data:=.seq #[]}:=kK _ rfl;refine⟨(aF _ C rfl),F.args_list_init_2 _ _,aaD (A:=A.in1) G h _ C λk p m r J y K=>?_⟩;exact⟨rfl,H k p m r (λa d f=>J a d (l4 (ib f)) (sy _ f)) y K⟩
end
def IH(d:D):aw D:=xb d VG λl=>bY (aM l) (.list (l.map λ(i:ak)=>.int i))
theorem aee{S:a7->Obj->Prop}(l:ai Bq):∀(d:ai Yj),d.length=l.length->(∀(i:ak)(v:Yj),d[i]?=Bc v->∃c u,l[i]?=Bc c/\v=.int (c.toNat:a0) u)->aC P cs S ((l.map Ge).map λ(i:ak)=>D.int i) d:=by induction l with
|nil=>intro d a _;cases d with|nil=>exact .nil|cons=>cases a
|cons c l f=>intro d a h;cases d with|nil=>cases a|cons v d=>exact aS (h 0 v rfl) λk u j b=>b▸eF j▸.cons (.int _ _) (f d (SX a) λi=>h (i+1))
theorem aaP(h:IH d=Bc e):du C n D1 (.type "list") [d] j (.sh e) j:=mZ (I9 (P:=(.=Bc e)) (M:=gS C n D1 (.type "list") j e) (a:=VG) nofun h λl h A M cs s Y Y Y Y w I r a=>r.Jn λb t p=>by have y:b.size<=100000:=aD VS (aD (fx (f:=Ge)) (aa p (fS (bZ h).1)));refine WG (w.hd rfl) (gY y (by decide)) λB F m c k f u=>?_;refine a B F _ k ((bZ h).2▸p▸.list ⟨f,I.none_of _ (ir _)⟩ (aee b.toList m.toList u.1 λi v G=>?_));exact aS (u.2 i v (wf.symm.trans G)) λH J K L=>dm H J (wf.trans K) L)
end
theorem IM:xz 2=.ask 1 0 λc=>if c=D1 then .ret #[1,0]else .ret #[0,1]:=by
 haveI a:xz 2=.ask 1 0 λc=>(if c=D1 then(KasT.ret 1:KasT ak)else .ret 2).bind (λb=>if(b==2)=D1 then .ret (b,#[0,1])else if b>1 then .ask 0 (#[0,1].getD (b-1) 0) λc=>if c=D1 then .ret (b,#[0,1])else kas_descPart b 2 (kas_rev #[0,1] 0 b)else kas_descPart b 2 #[0,1])|>.bind (λr=>if r.1<2 then kas_bin (2-max r.1 1) r.2 (max r.1 1)else .ret r.2):=by rfl
 refine aa a ?_;congr 1;funext c;cases c<;>rfl
section
variable{f:uV}{w:jw}{A:ip}{E:Yj->a8->Prop}{s:a8}
def J8(f:uV)(w:jw)(A:ip)(s:a8)(a:a7)(b:aA)(i j:Yj):Prop:=∃k,∀h:ff,(∀c d,c≠a->s.heap.get? c=Bc d->h.get? c=Bc d)->(∀(Q:SortKind->a8->Prop)E,Q k {s with heap:=h}->da (eg f w) A (keyKind' [i,j].toArray) Q E {s with heap:=h})/\∀(Q:aA->a8->Prop)E,Q b {s with heap:=h}->da (eg f w) A (keyLt' k j i) Q E {s with heap:=h}
theorem adk(B:s.heap.get? a=Bc (bc v n))(O:v.length<2->b=Un)(Q:v.length<=2)(U:∀r u,v=[r,u]->J8 f w A s a b r u)(h:∀L d,L.get? a=Bc (bc (ja b v) d)->(∀c j,c≠a->s.heap.get? c=Bc j->L.get? c=Bc j)->P (.done (.ret .none)) {s with heap:=L}):da (eg f w) A (Lf.«list.sort» ⟨[.ref a],[]⟩) P E s:=by
 rw[list_sort_plain]
 haveI V:a<s.heap.objs.size:=ib B
 refine ct (i! B rfl ?_)
 refine ct (SP B rfl ?_)
 obtain⟨I,W⟩:∃I,(s.heap.update a (vy λY=>#[])).get? a=Bc (z0 "list" #[] I):=⟨_,ii B (λY=>#[])⟩
 refine ct (AC W rfl ?_)
 refine ct (wpAny_newTuple ?_ (jX (gY Q (by decide))))
 refine ct (gl ?_ (oZ _))
 refine wq ?_
 generalize X:((s.heap.update a (vy λY=>#[])).push (z0 "tuple" v.toArray 0)).push (z0 "list" #[] 0)=h6
 haveI M:h6.get? a=Bc (z0 "list" #[] I):=by exact aD X (aa (Gq _ _ _ (by rw[Mi,BR];exact l4 (P0 V))) (aa (Gq _ _ _ (by rw[BR];exact l4 V)) W))
 have Z:∀c j,c≠a->s.heap.get? c=Bc j->h6.get? c=Bc j:=λc j J K=>by haveI eQ:c<s.heap.objs.size:=ib K;exact aD X (aa (Gq _ _ _ (by rw[Mi,BR];exact l4 (P0 eQ))) (aa (Gq _ _ _ (by rw[BR];exact l4 eQ)) (aa (AZ _ _ _ _ J) K)))
 dsimp only
 have y:∀(l:ai Yj)(F:SortSt),l=ja b v->(Le F).map (·.2)=l.toArray->YN F=VG->da (eg f w) A (do
let m:=(Le F).map (·.2)
let t:=(<-seqEpoch a)!=I
apk (.ref a) λY=>m
if let Bc d:=YN F then rule "list.sort.comparison-raised";throw d
if t then rule "list.sort.modified";raiseError"ValueError""list modified during sort"
ret .none) P E {s with heap:=h6}:=by
  intro l F eo es ef
  refine aa es (aa ef ?_)
  haveI lo:l.length=v.length:=aa eo (by unfold ja;split<;>simp)
  refine ct (AC M rfl ?_)
  refine ct (SP M rfl ?_ (oZ _) (aa lT (aa lo (aa l3 q0))))
  simp only[LN,D9,hE]
  obtain⟨N,yF⟩:∃N,(h6.update a (vy λY=>l.toArray)).get? a=Bc (z0 "list" l.toArray N):=⟨_,ii M (λY=>l.toArray)⟩
  refine gP (h _ N (aa yF (aa eo rfl)) λc j J K=>?_);exact aa (AZ _ _ _ _ J) (Z c j J K)
 by_cases C:v.toArray.size<2
 .refine aa (eI C) (aa (eI C) ?_)
  refine ct (gP ?_)
  rw[as7]
  refine ct (gP ?_)
  dsimp only
  haveI d:((Le (l! general' (v.toArray.zip v.toArray) #[] 7 VG)).map (·.2))=v.toArray:=by
   show((v.toArray.zip v.toArray).map (·.2))=v.toArray
   apply Array.toList_inj.mp;simp[List.map_zip_eq_zipWith,List.zipWith_self]
  exact y v (l! general' (v.toArray.zip v.toArray) #[] 7 VG) (aa (O (C)) rfl) d rfl
 .refine aa (ej C) (aa (ej C) ?_)
  clear O h
  refine qd (B4 (λk=>C k) Q) λr u k=>?_
  subst k
  obtain⟨κ,L9⟩:=U r u rfl
  clear U
  obtain⟨k1,k2⟩:=L9 h6 Z
  refine ct (k1 _ _ ?_)
  refine ct (nL (kat_run (Q:=λG H=>H={s with heap:=h6}/\(Le G).map (·.2)=(ja b [r,u]).toArray/\YN G=VG) (G:=λp H=>H={s with heap:=h6}/\p.toList.map (λi=>[r,u].getD i BK)=ja b [r,u]) rfl (ir _) (by simp) (λp G H z1 z2 z3 z4=>cV z4.1 (aa (kat_snds rfl z2) (aa z4.2 rfl)) z3) ?_) ?_ λY Y d=>d)
  .show(xz 2).kasWp _ _ _
   refine aa IM (k2 _ _ ?_);clear k2 L9 y;cases b<;>exact⟨rfl,rfl⟩
  .rintro⟨⟨⟩,G⟩H⟨rfl,B,hf⟩;exact y _ G rfl B hf
end
noncomputable def zK(p a:a0×a0):aA:=if p.1==a.1 then(if p.2==a.2 then Un else decide (p.2<a.2))else decide (p.1<a.1)
def ON(d:D):aw D:=jF d VG λl=>(AO l).bind λp=>bY (qA p.length 2) (.list (ja (ue zK p) l))
section
variable{f:uV}{w:jw}{A:ip}{s:a8}
theorem WN(i:s.heap.get? x=Bc (eH [.int l B,.int F C] n))(j:s.heap.get? y=Bc (eH [.int d H,.int G I] m))(p:x≠a)(r:y≠a):J8 f w A s a (zK (d,G) (l,F)) (.ref x) (.ref y):=by
 refine⟨tuples' D1,λJ k=>⟨λQ b c=>?_,λQ b c=>?_⟩⟩
 .refine kat_kind (fs:=[.int l B,.int d H]) (T:=.type "int") (.cons (k _ _ p i) rfl rfl rfl (.cons (k _ _ r j) rfl rfl rfl .nil)) (by simp) (λv h=>?_) rfl c
  rcases hZ.mp h with rfl|h
  .exact M!
  .rcases hZ.mp h with rfl|h
   .exact M!
   .cases h
 .refine kat_lt (k _ _ r j) rfl (k _ _ p i) rfl (kat_cons (T! ?_))
  unfold zK at c
  dsimp only at c
  cases t:(d==l)with
|true=>refine kat_yes (kat_cons (T! ?_));simp only[t,oO]at c;cases u:(G==F)with|true=>simp only[u,oO]at c;exact kat_yes (kat_nil c)|false=>simp only[u,D9,hE]at c;exact kat_no (kat_one _ _ (apu c))
|false=>simp only[t,D9,hE]at c;exact kat_no (oneLt_int c)
end
section
variable{C:Cx}{n:ak}{hn:aA}
theorem pairs_len(h:AO l=Bc p):p.length=l.length:=EI h
def IsPair(S:a7->Obj->Prop)(v:Yj)(p:a0×a0):Prop:=∃a t u m,v=.ref a/\S a (eH [.int p.1 t,.int p.2 u] m)
def zD(S:a7->Obj->Prop)(a:ai Yj):ai (a0×a0)->Prop:=match a with|[]=>λb=>b=[]|v::a=>λb=>∃p c,b=p::c/\IsPair S v p/\zD S a c
theorem Qp{S:a7->Obj->Prop}(h:pairD d=Bc p)(r:Rd P cs S d v):IsPair S v p:=Bo (P:=(.=Bc p)) (M:=λd=>Rd P cs S d v->IsPair S v p) (a:=VG) nofun h (λl h=>B7 (P:=(.=Bc p)) (M:=λl=>Rd P cs S (.u l) v->IsPair S v p) (c:=VG) nofun h λb y h=>lW (P:=(.=Bc p)) (M:=λb=>Rd P cs S (.u [b,y]) v->IsPair S v p) (a:=VG) nofun h λi h=>lW (P:=(.=Bc p)) (M:=λy=>Rd P cs S (.u [.int i,y]) v->IsPair S v p) (a:=VG) nofun h λj h r=>mJ r.oR λa H n c s k=>dG k.iZ λI J m w f=>dG f.iZ λK L A f B=>eE w.ofInt λt F=>eE f.ofInt λu G=>by rw[m,A,F,G,B.jf]at s;exact Dy a t u n c (eF h▸s)) r
theorem Og{S:a7->Obj->Prop}(r:aC P cs S l b)(h:AO l=Bc p):zD S b p:=vF r h rfl λd v a b r c f i=>gy a r rfl (Qp f c) i
theorem JD{S:a7->Obj->Prop}(b:aA)(r:aC P cs S l v):aC P cs S (ja b l) (ja b v):=by cases b with|false=>exact r|true=>exact r.reverse
theorem J6{l:ai b}(h:l.length<2):ue lt l=Un:=by cases l with|nil=>rfl|cons a r=>cases r with|nil=>rfl|cons=>exact aL (aqq (aqq h)) (Nat.not_lt_zero _)
theorem acm(h:ON d=Bc e):du C n D1 (.builtin "sorted") [d] cells (.sh e) cells:=mZ (ux (P:=(.=Bc e)) (M:=gS C n D1 (.builtin "sorted") cells e) (a:=VG) nofun h λl h A Q cs s Y Y Y Y w I r q=>r.gz λa F m U H=>by
refine aj (dA h) λJ L h=>?_
have V:=mc (bZ h).1
have M:J.length=F.length:=(pairs_len L).trans H.len.symm
have K:F.length<=2:=M▸V
refine apf f' i? i' (args_sorted1 _) ?_
unfold Lf.«sorted»
refine ct (gP ?_)
refine ct (collect_list ⟨_,U.1,rfl,_,rfl⟩ ?_ (jX (gY K (by decide))))
refine ct (gl ?_ (jX (gY K (by decide))))
generalize N:(s.heap.push (z0 "list" #[] 0)).update s.heap.objs.size (vy (.++F.toArray))=h1
have W:s.heap.objs.size<=h1.objs.size:=by rw[<-N,BR,Mi];exact tm _
have k1:∀b o,s.heap.get? b=Bc o->h1.get? b=Bc o:=λb o q=>by exact aD N (aa (AZ _ _ _ _ (l4 (ib q))) (aa (Gq _ _ _ (l4 (ib q))) q))
have k2:∀b o,s.heap.get? b=Bc o->(h1.push (bc F 0)).get? b=Bc o:=λb o q=>cn _ _ _ _ (k1 b o q)
have B:∀b o,s.heap.get? b=Bc o->b≠h1.objs.size:=λb o q=>l4 (ib (k1 b o q))
refine ct (wq (Ix (n?) ⟨_,kK _ rfl,rfl⟩ p! (adk (s:={s with heap:=h1.push (bc F 0)}) (b:=ue zK J) (kK _ rfl) (λG=>J6 (M▸G)) K (λX Z e=>?_) λG e g k=>aF _ rfl ?_) (args_list_sort _)))
.refine dG (e▸Og H L:zD (Sb Q s.heap) [X,Z] J) λp qs j p1 z=>dG z λp2 qs u p2 v=>CL p1 λx t1 c m1 f1 O=>CL p2 λy t2 f m2 f2 P=>aa j (aa u (aa (show _=[]from v) (aa f1 (aa f2 (WN (k2 _ _ O.1) (k2 _ _ P.1) (B _ _ O.1) (B _ _ P.1))))))
.have k3:∀b o,s.heap.get? b=Bc o->G.get? b=Bc o:=λb o q=>k b o (B b o q) (k2 b o q);exact gP (aF _ rfl (q G s.toks _ k3 ((bZ h).2▸.list ⟨g,I.none_of _ W⟩ ((JD _ H).mono (.refl _) (tF k3))))))
def qJ(cs:ai Cell)(d:D):aw D:=(xR cs d).or (ON d)
theorem Sw(b:dz C)(h:qJ c d=Bc e):du C n D1 (.builtin "sorted") [d] c (.sh e) c:=by refine(Option.or_eq_some_iff.mp h).elim (λa=>ack b a) λa=>acm a.2
end
section
variable{d:uV}{w:jw}{A:ip}{E:Yj->a8->Prop}{b:a8}{a l f:a7}
def td(a:a7)(h j:ff):Prop:=∀c i,c≠a->h.get? c=Bc i->j.get? c=Bc i
def FN(d:uV)(w:jw)(A:ip)(b:a8)(f a:a7)(v:Yj)(i:a0):Prop:=∀h m,td a b.heap h->∀(Q:Yj->a8->Prop)E,(∀t p k,(∀c j,h.get? c=Bc j->k.get? c=Bc j)->Q (.int i t) {b with heap:=k,toks:=p})->da (eg d w) A (call (.ref f) [v]) Q E {b with heap:=h,toks:=m}
inductive qS(prog:uV)(w:jw)(A:ip)(Dx:a8)(f a:a7):ai Yj->ai a0->Prop|nil:qS prog w A Dx f a [] []|cons{v:Yj}{i:a0}{vs:ai Yj}{is:ai a0}:FN prog w A Dx f a v i->qS prog w A Dx f a vs is->qS prog w A Dx f a (v::vs) (i::is)
theorem qS.len(h:qS d w A b f a v i):i.length=v.length:=by induction h with|nil=>rfl|cons _ _ c=>exact gO Aj c
theorem HD(h:Fu v i):v.length=i.length:=by induction h with|nil=>rfl|cons _ _ _ c=>exact gO Aj c
theorem abE(h:Fu v [i,j]):∃t u,v=[.int i t,.int j u]:=by cases h with|cons _ t c=>cases c with|cons _ u c=>cases c;exact jY t u rfl
theorem ab5(ug:l≠a)(L:∀c p j h u i(Q:P6 PUnit->a8->Prop),P! p<60->FN d w A b f a c i->h.get? l=Bc (bc p j)->h.get? a=Bc (bc [] F)->td a b.heap h->b.heap.objs.size<=l->(∀t s v y,s.get? l=Bc (bc (p++[.int i t]) y)->s.get? a=Bc (bc [] F)->td a b.heap s->Q (.yield ⟨⟩) {b with heap:=s,toks:=v})->da (eg d w) A (body c ⟨⟩) Q E {b with heap:=h,toks:=u}):∀{r:ai Yj}{C:ai a0},qS d w A b f a r C->∀(p:ai Yj)(h:ff)(u j:ak)(Q:PUnit->a8->Prop),h.get? l=Bc (bc p j)->h.get? a=Bc (bc [] F)->td a b.heap h->b.heap.objs.size<=l->p.length+r.length<60->(∀s v B y,s.get? l=Bc (bc (p++B) y)->Fu B C->s.get? a=Bc (bc [] F)->td a b.heap s->Q ⟨⟩ {b with heap:=s,toks:=v})->da (eg d w) A (forIn r PUnit.unit body) Q E {b with heap:=h,toks:=u}:=by intro r C k;induction k with|nil=>intro p h u j Q G H I _ _ m;exact aa t! (gP (m h u [] j (by rw[lH];exact G) .nil H I))|@cons c i r C M k2 N=>intro p h u j Q G H I J K m;rw[Lp];refine ct (L c p j h u i _ (Lx (zI _ _) K) M G H I J λt s v y O P U=>?_);refine N (p++[.int i t]) s v y Q O P U J (by rw[lk,aqu,H?,P3 1];exact K) λV W B X Y Z z3 z4=>?_;exact m V W (.int i t::B) X (List.append_cons p _ B▸Y) (.cons _ _ Z) z3 z4
theorem WJ(F:b.heap.get? a=Bc (bc vs n))(X:vs.length<=2)(y:qS d w A b f a vs is)(h:∀Z m e,Z.get? a=Bc (bc (ja (ue (λp q=>decide (p<q)) is) vs) e)->td a b.heap Z->P (.done (.ret .none)) {b with heap:=Z,toks:=m}):da (eg d w) A (ksk_tree a (.ref f) Un) P E b:=by
 haveI r:a<b.heap.objs.size:=ib F
 unfold ksk_tree
 refine ct (i! F rfl ?_)
 refine ct (SP F rfl ?_)
 obtain⟨G,wZ⟩:∃G,(b.heap.update a (vy λY=>#[])).get? a=Bc (z0 "list" #[] G):=⟨_,ii F (λY=>#[])⟩
 refine ct (AC wZ rfl ?_)
 refine ct (wpAny_newTuple ?_ (jX (gY X (by decide))))
 refine ct (gl ?_ (oZ _))
 refine wq ?_
 generalize ek:((b.heap.update a (vy λY=>#[])).push (z0 "tuple" vs.toArray 0)).objs.size=l
 have j:b.heap.objs.size<=l:=by rw[<-ek,Mi,BR];exact tm _
 have L:l≠a:=λq=>aL r (Nat.not_lt.mpr (q▸j))
 generalize s:((b.heap.update a (vy λY=>#[])).push (z0 "tuple" vs.toArray 0)).push (z0 "list" #[] 0)=h6
 haveI wJ:h6.get? a=Bc (bc [] G):=by exact aD s (aa (Gq _ _ _ (by rw[Mi,BR];exact l4 (P0 r))) (aa (Gq _ _ _ (by rw[BR];exact l4 r)) wZ))
 have Gu:h6.get? l=Bc (bc [] 0):=aD s (aD ek (kK _ rfl))
 haveI k6:td a b.heap h6:=λc o H C=>by haveI eQ:c<b.heap.objs.size:=ib C;exact aD s (aa (Gq _ _ _ (by rw[Mi,BR];exact l4 (P0 eQ))) (aa (Gq _ _ _ (by rw[BR];exact l4 eQ)) (aa (AZ _ _ _ _ H) C)))
 show da (eg d w) A (ksk_rest a (.ref f) Un vs.toArray G (.ref l)) P E {b with heap:=h6,toks:=b.toks}
 unfold ksk_rest
 refine ct (d? ?_)
 first|rw[List.forIn_toArray]|(rw[<-art];simp only[arh])|rw[<-art]
 refine ct (ab5 L (λx I e h m i Q B kx g1 g2 g3 sz q=>?_) y [] h6 b.toks 0 _ Gu wJ k6 j (by rw[CM,Mn];exact Lx X (by decide)) λM u I e7 N z2 z3 z4=>?_)
 .refine ct (wpAny_attempt (kx h m g3 _ _ λt eY Z k=>?_))
  haveI xN:=k _ _ g1
  refine ct (SP xN rfl ?_ (jX (gY (Ej B) (by decide))) (gY (mu (Array.size_push ..)) (ul (jX (gY (Ej B) (by decide))))))
  have ea:(o? I).push (.int i t)=o? (I++[.int i t]):=by simp
  refine gP (q t _ eY _ (aa (ii xN (·.push (.int i t))) (aa ea rfl)) ?_ λc o H C=>?_)
  .exact aa (AZ _ _ _ _ (ng L)) (k _ _ g2)
  .clear q j L Gu xN g1;exact aa (AZ _ _ _ _ (λe=>by subst e;exact aL (ib C) (Nat.not_lt.mpr sz))) (k _ _ (g3 c o H C))
 .rw[AS]at N
  have li:is.length=vs.length:=y.len
  have N6:I.length=vs.length:=(HD z2).trans li
  clear Gu y
  refine ct (i! N rfl ?_)
  unfold ksk_end
  dsimp only
  simp only[D9,hE]
  have fin:∀(out:ai Yj)(st:SortSt),out=ja (ue (λp q=>decide (p<q)) is) vs->(Le st).map (·.2)=out.toArray->YN st=VG->da (eg d w) A (ksk_tail a Un G (.ref l) st) P E {b with heap:=M,toks:=u}:=by
   intro out st eo es ef
   have lo:out.length=vs.length:=aa eo (by unfold ja;split<;>simp)
   unfold ksk_tail
   dsimp only
   refine aa es (aa ef ?_)
   refine ct (SP N rfl ?_ (aa lT (aa l3 AQ)) (oZ _))
   refine ct (wpAny_letGo ?_)
   have v:(M.update l (vy λY=>(#[]:iO Yj))).get? a=Bc (z0 "list" #[] G):=by exact aa (AZ _ _ _ _ (ng L)) z3
   refine ct (AC v rfl ?_)
   refine ct (SP v rfl ?_ (oZ _) (by simp only[D9,hE];rw[lT,lo,l3];exact q0))
   simp only[LN,D9,hE]
   clear N L
   obtain⟨c2,yF⟩:∃c2,((M.update l (vy λY=>(#[]:iO Yj))).update a (vy λY=>out.toArray)).get? a=Bc (z0 "list" out.toArray c2):=⟨_,ii v (λY=>out.toArray)⟩
   refine gP (h _ u c2 (aa yF (aa eo rfl)) λc o H C=>?_)
   clear yF v;exact aa (AZ _ _ _ _ H) (aa (AZ _ _ _ _ (λe=>by subst e;exact aL (ib C) (Nat.not_lt.mpr j))) (z4 c o H C))
  by_cases B:vs.toArray.size<2
  .refine aa (eI B) (aa (eI B) ?_)
   refine ct (gP ?_)
   rw[as7]
   refine ct (gP ?_)
   haveI B:vs.length<2:=B
   refine fin vs (l! general' (I.toArray.zip vs.toArray) #[] 7 VG) ?_ ?_ rfl
   .exact aa (J6 (li▸B)) rfl
   .show((I.toArray.zip vs.toArray).map (·.2))=vs.toArray
    apply Array.toList_inj.mp;simp[List.map_snd_zip (mu N6.symm)]
  .refine aa (ej B) (aa (ej B) ?_)
   haveI B:¬vs.length<2:=B
   clear N N6 h
   refine qd (B4 B X) λO U q1=>?_
   subst q1
   refine qd (B4 (li▸B) (li▸X)) λJ K q2=>?_
   subst q2
   refine qd (abE z2) λn8 oN q3=>aa q3 ?_
   haveI fin:=λst=>fin (ja (decide (K<J)) [O,U]) st rfl
   haveI kk:keyKind' (o? [Mh J n8,.int K oN])=pure oneType':=keyKind_ints (.cons _ _ (.cons _ _ .nil))
   refine aa kk (ct (gP ?_))
   refine ct (nL (kat_run (Q:=λV W=>W={b with heap:=M,toks:=u}/\(Le V).map (·.2)=(ja (decide (K<J)) [O,U]).toArray/\YN V=VG) (G:=λp W=>W={b with heap:=M,toks:=u}/\p.toList.map (λi=>[O,U].getD i BK)=ja (decide (K<J)) [O,U]) rfl (ir _) (by simp) (λp V W y1 y2 y3 y4=>cV y4.1 (aa (kat_snds (ks:=[.int J n8,.int K oN]) (vs:=[O,U]) rfl y2) (aa y4.2 rfl)) y3) ?_) ?_ λY Y e=>e)
   .show(xz 2).kasWp _ _ _
    refine aa IM (kat_lt_int ?_)
    by_cases hd:K<J
    .simp only[hd,decide_true];exact⟨rfl,rfl⟩
    .simp only[hd,J?];exact⟨rfl,rfl⟩
   .rintro⟨⟨⟩,V⟩W⟨rfl,F,hf⟩;exact fin V F hf
end
structure ye(C:Cx):Prop where
mg:∃mg,C.h₀.Ns Hr mg/\C.h₀.BuiltinsAt mg C.tab
hd:CodeHd C.h₀ C.yG C.tab
ne:Hr≠C.tab
lim:C.h₀.NoLimit
def DQ(h:ff)(f:a7)(p:E0)(b:dt)(s:uz)(a:Str):Prop:=∃d c l,h.get? f=Bc {cls:=.type "function",data:=.func (kla_fn "<lambda>" a p b s [] d c l)}/\h.CodeRec c a
section
variable{C:Cx}{d:gn}{c:TC}{B:ai Pl}{w:Ro}{cs:ai CA}{F:St}{s:a8}{A:ip}{X:Yj->a8->Prop}
theorem ZE(h:∀a∈y.names,a.2≠.free):Z9 y d=pure []:=by
 unfold Z9
 haveI :∀(l:ai (Str×Aa)),(∀a∈l,a.2≠.free)->∀u:ai (Str×a7),(forIn l u λb r=>(do let(name,kind):=b if kind==rt then pure (Gg ((name,<-cellOf d name)::r))else pure (Gg r)):Sem _)=pure u:=by intro l;induction l with|nil=>intro _ u;rfl|cons a l ih=>
  intro N u
  obtain⟨f,k⟩:=a
  rw[Lp]
  haveI hk:(k==rt)=Un:=by simpa using N _ (.head _)
  simp only[hk,D9,hE];exact ih (λa m=>N a (.tail _ m)) u
 haveI i:=this y.names h [];exact(gO (.>>=λs=>pure s) i).trans rfl
@[elab_as_elim]theorem Pk{M:E0->dt->Prop}{H:E0}{G:dt}{y:uz}(h:vw H G y=D1)(k:∀p I J K L,y.kind=.function->y.isCoroutine=Un->y.isGenerator=Un->y.names.lookup p.arg=Bc .local->(∀a∈y.names,a.2≠.cell/\a.2≠.free)->(p.arg==("__debug__":Str))=Un->(p.arg==("__classdict__":Str))=Un->M ⟨[],[p],VG,[],[],VG,[]⟩ (.Subscript (.Name p.arg I) (.Constant (.int 0) J K) L)):M H G:=by revert h;cases H with|mk po ar va ko kd kw df=>?_;intro h;refine i0 (l:=po) h λh=>i1 (l:=ar) h λp h=>iN (c:=va) h λh=>i0 (l:=ko) h λh=>i0 (l:=kd) h λh=>iN (c:=kw) h λh=>i0 (l:=df) h λh=>ku h λv s L h=>dD h λb I h=>pB h λc J K h=>zW h λj h=>?_;have O:=iA h;have P:=iA O.1;have Q:=iA P.1;have U:=iA Q.1;have V:=iA U.1;have W:=iA V.1;have Y:=iA W.1;have Z:=iA Y.1;have i:=beq_iff_eq.mp Z.2;refine aa (hQ Z.1) (aa i ?_);refine k p I J K L (beq_iff_eq.mp Y.2) ((D8 _).mp W.2) ((D8 _).mp V.2) (i▸beq_iff_eq.mp U.2) (λa m=>?_) (i▸(D8 _).mp P.2) (i▸(D8 _).mp O.2);have t:=iA (lg.mp Q.2 a m);exact⟨bne_iff_ne.mp t.1,bne_iff_ne.mp t.2⟩
theorem Qd(lc:ye C)(eo:bq C d c B)(hl:c.lam=D1)(hb:vw ps body sc=D1)(e1:p.line=c.jk.line)(e2:p.col=c.jk.col)(I:Inv C d w B cs F s.heap)(q:∀h' tk f,Inv C d w B cs F h'->Go C w w cs cs s.heap h'->cy d B s.heap h'->DQ h' f ps body sc C.mU->w f=VG->Q (.ref f) {s with heap:=h',toks:=tk}):da (eg C.prog C.w) A (jM (.Lambda ps body sc p) d) Q X s:=by
 revert q
 refine Pk hb λp1 q1 q2 q3 q4 hk sA sY hx hn d1 d2 q=>?_
 obtain⟨zp,DV⟩:=eo.lam hl
 rw[eo.lp]at e1 e2
 refine kla_eval rfl (aa DV (aj lc.mg λmg qx Wb=>?_))
 have base:∀a o,C.h₀.get? a=Bc o->s.heap.get? a=Bc o:=I.tok
 have IS:s.heap.BuiltinsAt mg C.tab:=by refine Y8 Wb λbm o b1 b2 b3 b4 b5 b6=>pa bm o b1 b2 b3 b4 (base _ _ b5) b6
 refine aj I.tab λvs tb lo=>?_
 haveI cl:Z9 sc d=pure []:=ZE λq m=>(hn q m).2
 rcases lo with rfl|⟨c',oc,fs,t,rfl,sb,hd,hq⟩
 .refine kla_makeFunction cl eo.glob (qx.keeps base) zp (lc.hd.keeps base) tb trivial rfl lc.ne IS λc' lx h' tk Gp ge lt rec Y6=>?_
  generalize eO:kla_obj "<lambda>" C.mU ⟨[],[p1],VG,[],[],VG,[]⟩ (.Subscript (.Name p1.arg q1) (.Constant (.int 0) q2 q3) q4) sc [] ((mg "__name__").getD .none) c' lx=oF
  have kk:∀a o,a≠C.tab->s.heap.get? a=Bc o->(h'.push oF).get? a=Bc o:=λa o n e=>cn _ _ a o (Gp a o n e)
  haveI zz:s.heap.objs.size<=(h'.push oF).objs.size:=by rw[l7];exact q29
  have nt:∀a,w a≠Bc .f->a≠C.tab:=λa n e=>n (e▸I.cM)
  refine lz rec λc2 oc fs t ec g1 g2 g3=>?_
  obtain rfl:=io ec
  haveI rc:w c'=VG:=I.none_of _ ge
  haveI g:Go C w w cs cs s.heap (h'.push oF):=⟨.refl _,λa o x=>⟨kk a o (nt a (aa x.2 (by simp))) x.1,x.2⟩,λa e=>⟨e,λn=>.fh λo y=>kk a o n y⟩,λa e=>e,zz⟩
  haveI vk:cy d B s.heap (h'.push oF):=g.Dj (λa e=>.fh λo y=>kk a o (nt a (aa e (by simp))) y) I
  refine q _ tk _ (I.same g (λa r e n=>⟨e,λo y=>kk a o (nt a (aa e (by simpa using n))) y⟩) (λY Y e=>e) (λa e=>nB (I.lt a e) zz) (aF _ (cn _ _ _ _ Y6) (.inr (qf c' oc fs t ?_ ⟨cn _ _ _ _ g1,rc⟩ g2 g3)))) g vk ⟨(mg "__name__").getD .none,.ref c',lx,?_,c',oc,fs,t,rfl,cn _ _ _ _ g1,g2,g3⟩ (I.none_of _ (by lia))
  .exact aa e1 (aa e2 rfl)
  .exact aD eO (kK _ rfl)
 .refine kla_makeFunctionHit (cv:=.ref c') cl eo.glob (qx.keeps base) zp (lc.hd.keeps base) tb trivial (by simp[codeAmong,mB,e1,e2]) IS λlx h' tk k sz=>?_
  have kk:∀a o,s.heap.get? a=Bc o->(h'.push {cls:=.type "function",data:=.func (kla_fn "<lambda>" C.mU ⟨[],[p1],VG,[],[],VG,[]⟩ (.Subscript (.Name p1.arg q1) (.Constant (.int 0) q2 q3) q4) sc [] ((mg "__name__").getD .none) (.ref c') lx)}).get? a=Bc o:=λa o e=>cn _ _ a o (k a o e)
  have zz:s.heap.objs.size<=(h'.push {cls:=.type "function",data:=.func (kla_fn "<lambda>" C.mU ⟨[],[p1],VG,[],[],VG,[]⟩ (.Subscript (.Name p1.arg q1) (.Constant (.int 0) q2 q3) q4) sc [] ((mg "__name__").getD .none) (.ref c') lx)}).objs.size:=by rw[l7];exact H! sz
  exact q _ tk _ (I.grow kk zz) (iz w cs kk zz) (iT I kk zz) ⟨_,_,_,kK _ rfl,c',oc,fs,t,rfl,kk _ _ sb.1,hd,hq⟩ (I.none_of _ sz)
theorem ab1(lc:ye C)(N:vw ps I L=D1)(rm:A.depth<Nk)(G:∀b k,C.h₀.get? b=Bc k->y.heap.get? b=Bc k/\b≠a)(K:DQ y.heap f ps I L C.mU)(fa:f≠a)(cf:∀b k vs,y.heap.get? b=Bc k->k.data=.fields vs->b≠a)(O:y.heap.get? x=Bc (eH [.int i t,.int j u] n))(P:x≠a):FN C.prog C.w A y f a (.ref x) i:=by
 intro h tk k Q l p
 revert K
 refine Pk N λJ q1 q2 q3 q4 U sA sY V hn d1 d2 K=>so K λpm cv lx g1 r=>lz r λW oc fs tt q0 Y Z g4=>?_
 subst q0
 clear N K r
 haveI xN:=k _ _ fa g1
 haveI RY:=k _ _ (cf _ _ _ Y Z) Y
 refine Mj (kla_callFunE rm xN rfl sA sY rfl ⟨W,oc,fs,tt,rfl,RY,Z,g4⟩ ?_)
 haveI bt:z8 {y with heap:=h,toks:=tk} (kla_fn "<lambda>" C.mU ⟨[],[J],VG,[],[],VG,[]⟩ (.Subscript (.Name J.arg q1) (.Constant (.int 0) q2 q3) q4) L [] pm (.ref W) lx) ⟨[.ref x],[]⟩ [(J.arg,.ref x)]:=by exact DO (t:=[J.arg]) rfl rfl (List.nodup_cons.mpr ⟨lR,.nil⟩) (.inl ⟨rfl,rfl⟩) (ir _) (ir _) (oZ _)
 refine bt _ _ _ _ (z? (λr m=>(hn r m).1) (λr m=>?_) (λh1 jg gp=>⟨?_,?_⟩) U)
 .rcases hZ.mp m with rfl|m
  .exact V
  .exact nomatch m
 .exact(lc.lim.keeps λb H v=>k _ _ (G b H v).2 (G b H v).1).fresh _ gp
 .haveI M:∀b H,h.get? b=Bc H->h1.get? b=Bc H:=λb H v=>gp.extBut b H (l4 (ib v)) (sy _ v)
  refine kla_codeExpr (DY (an ?_ d1))
  refine wY (p:=.l J.arg) (by show L.kind=_;exact U) d2 ⟨V,_,jg,aa List.reverse_singleton E'⟩ ?_
  refine Lr (iJ ⟨_,M _ _ (k _ _ P O),rfl⟩ VC.lookup (av1 (j:=0) (x:=.int i t) ⟨_,M _ _ (k _ _ P O),rfl,_,rfl⟩ ?_ ?_ rfl rfl ?_))
  .simp
  .simp
  .exact p t _ h1 M
theorem Wr(K:ye C){S:a7->Obj->Prop}(L:vw M r N=D1)(O:A.depth<Nk)(y:∀b i,C.h₀.get? b=Bc i->l.heap.get? b=Bc i/\b≠a)(P:DQ l.heap f M r N C.mU)(Q:f≠a)(U:∀b i G,l.heap.get? b=Bc i->i.data=.fields G->b≠a)(H:∀b i,S b i->l.heap.get? b=Bc i/\b≠a):∀{I:ai (a0×a0)},zD S G I->qS C.prog C.w A l f a G (I.map (·.1)):=by induction G with|nil=>exactλh=>(show _=[]from h)▸.nil|cons v G V=>exactλh=>dG h λp Y j W h=>j▸.cons (CL W λk t u m j J=>j▸ab1 K L O y P Q U (H _ _ J).1 (H _ _ J).2) (V h)
theorem ab8(Z:ye C):LM C:=by
 intro A d c B w cs F s ps body sc p l l' v Q X rm eo hl hb u M I J K h
 refine Qd Z eo hl hb u M I λk aQ f y N k1 G rf=>⟨y.tok,?_⟩
 have K:=K.mono N.cs N.st
 refine aj (dA J) λpp hp J=>mJ K.ofList λa t m T6 sa O=>?_
 clear K
 refine aa T6 ?_
 have P:t.length<=2:=O.len▸pairs_len hp▸mc (bZ J).1
 refine call_function_entry_kw f' i? i' (ksk_s1 _ _) ?_
 unfold Lf.«sorted»
 refine ct (gP ?_)
 refine ct (collect_list ⟨_,sa.1,rfl,_,rfl⟩ ?_ (jX (gY P (by decide))))
 refine ct (gl ?_ (jX (gY P (by decide))))
 generalize eh:(k.push (z0 "list" #[] 0)).update k.objs.size (vy (.++t.toArray))=h2
 haveI sz:h2.objs.size=k.objs.size+1:=by rw[<-eh,BR,Mi]
 have ka:∀b i,k.get? b=Bc i->h2.get? b=Bc i:=λb i h=>by haveI eQ:b<k.objs.size:=ib h;exact aD eh (aa (AZ _ _ _ _ (l4 eQ)) (aa (Gq _ _ _ (l4 eQ)) h))
 haveI H:∀b i,k.get? b=Bc i->(h2.push (bc t 0)).get? b=Bc i:=λb i h=>cn _ _ _ _ (ka b i h)
 have r:∀b i,k.get? b=Bc i->b≠h2.objs.size:=λb i h j=>aL (ib (ka b i h)) (aa j (MR _))
 haveI U:(h2.push (bc t 0)).get? h2.objs.size=Bc (bc t 0):=kK _ rfl
 have WE:A.in1.in1.depth<Nk:=rm.U2
 refine ct (wq (wpAny_call_entry_kw n? ⟨_,U,rfl⟩ p! ?_ (ksk_l1 _ _)))
 rw[ksk_t1]
 refine WJ (b:={s with heap:=h2.push (bc t 0),toks:=aQ}) (is:=pp.map (·.1)) U P ?_ λV fH e3 z1 z2=>aF _ rfl ?_
 .refine Wr Z hb WE (λb i j=>⟨H b i (y.tok b i j),r b i (y.tok b i j)⟩) ?_ ?_ (λb i Gj u M e3=>?_) (λb i j=>⟨H b i j.1,r b i j.1⟩) (Og O hp)
  .obtain⟨pm,cv,lx,W,y2⟩:=G;exact wm pm cv lx (H _ _ W) (y2.keeps H)
  .obtain⟨pm,cv,lx,W,y2⟩:=G;exact r _ _ W
  .subst e3
   have u:(h2.push (bc t 0)).get? h2.objs.size=Bc i:=u
   rw[U]at u
   cases u;cases M
 .have L:∀b i,k.get? b=Bc i->V.get? b=Bc i:=λb i h=>z2 b i (r b i h) (H b i h);have Y:k.objs.size<=V.objs.size:=gY (sz▸tm _:k.objs.size<=h2.objs.size) (Ej (ib z1));refine gP (aF _ rfl (h V fH _ (y.grow L Y) (N.trans (iz w cs L Y)) (k1.trans (iT y L Y)) (.list ⟨z1,y.none_of _ (aa sz (tm _))⟩ ?_)));exact(bZ J).2▸(JD _ O).mono (.refl _) (tF L)
end
structure BadCx(C:Cx):Prop where
dI:C.K.In C.h₀
ga:l5 C.K (.ref C.bad) "__getattribute__"=Bc (Bc (.builtin "BaseException.__getattribute__"))
gh:l5 C.K (.ref C.bad) "__getattr__"=Bc VG
sub:mroIn C.K C.bad (.type "BaseException")=Bc D1
tl:l5 C.K (.ref C.bad) "told"=Bc VG
hd:(GW C.K C.bad).any (·.hasDict)=D1
nm:C.nm C.om=("told":Str)
section
variable{C:Cx}{A:ip}{E:Yj->a8->Prop}{s:a8}{e dx:a7}{j:Obj}
theorem Z0(b:BadCx C){i:Qg}{a:Cw->a8->Prop}(X:C.K.In h)(I:InstAt h e j C.bad k)(l:WR C.K C.bad k "told"=Bc (.value v))(m:a (.ok (.ret v)) ⟨h,g,d,t,i⟩):mO (eg C.prog C.w) A (.call (.builtin "BaseException.__getattribute__") ⟨[.ref e,.str "told" p],[]⟩) a ⟨h,g,d,t,i⟩:=by
 haveI c:zZ (eg C.prog C.w) h (typeOf (.ref e)) (.ref C.bad):=I.cls▸(zZ.ld I.at_).andThen .now
 refine Θ F.attr_Exception.ga.plain F.entry_bexc_ga ?_
 haveI r:builtinKind "BaseException.__getattribute__"=Bc .slot:=by decide+kernel
 haveI f:splitId "BaseException.__getattribute__"=Bc ("BaseException","__getattribute__"):=by decide+kernel
 haveI u:=F.args_bexc_ga (.ref e) (.str "told" p)
 simp only[R!,r,f];haveI S:zZ (eg C.prog C.w) h (c! (.ref e) (.type "BaseException")) D1:=c.andThen (looks_mroIn X b.sub);refine ct (S.at ?_);simp only[Y?,D9,hE];refine bn u ?_;unfold Lf.«object.__getattribute__»;refine ct (bn rfl ?_);refine ct (gP (ct (c.at (ct ((looks_find X I l).at ?_)))));exact gP m
theorem aa3(b:BadCx C)(X:C.K.In s.heap)(I:InstAt s.heap e j C.bad c)(f:WR C.K C.bad c "told"=Bc (.value v))(i:handedIn v=D1)(h:Q v {s with toks:=s.toks+1}):da (eg C.prog C.w) A (getAttr (.ref e) "told" expr) Q E s:=by
 obtain⟨k,a,d,t,r⟩:=s
 haveI L:zZ (eg C.prog C.w) k (typeOf (.ref e)) (.ref C.bad):=I.cls▸(zZ.ld I.at_).andThen .now
 haveI l:=ch (M:=eg C.prog C.w) X b.ga
 haveI m:=ch (M:=eg C.prog C.w) X b.gh
 unfold getAttr getAttrBy
 refine ct (j? (wq (ct (L.at (ct (l.at ?_))))))
 unfold getAttrByItsOwn
 refine ct (show da _ _ (ac (.ref C.bad) "__getattr__") _ _ _ from m.at ?_)
 refine ct (wpAny_attempt (wq ?_))
 haveI p:callGetattribute (.ref e) (.str "told" t) (.builtin "BaseException.__getattribute__") expr=boundAndCalled (.builtin "BaseException.__getattribute__") (.ref e) (.str "told" t):=by cases expr<;>rfl
 refine aa p ?_;unfold boundAndCalled;refine ct (bn (F.attr_Exception.ga.bind (.ref e)) ?_);refine Mj (Z0 b X I f ?_);show da _ _ (handedOut v) _ _ _;exact aa (handedOut_of i) (gP h)
end
section
variable{C:Cx}{N:Env}{n:ak}{a:T->St->R}
theorem ad9{K:Frag}(h:l5 K (.ref c) "told"=Bc VG)(b:(GW K c).any (·.hasDict)=D1):WR K c (Bc (bP [⟨lF P "told",.str "told" t,v⟩] n)) "told"=Bc (.value v):=by refine aj (any_some b) λd F j=>?_;unfold WR;refine aa F ?_;rw[PA,h,PA];simp only[PA];unfold W.ownOf;refine aa j (aa (eI rfl) ?_);rfl
theorem JR(b:BadCx C)(i:ak):dy C N n a (.told i):=by
 intro c f py p st sl ag t
 refine pP p λo0 h uM u=>?_;clear p
 refine dD u λj uY p=>?_;clear u
 simp only[ji]at p
 obtain⟨K,B⟩:=p
 refine aj (RR t) λd0 w t=>?_
 intro A L ρ F cs s Q X rm y I M
 refine cJ (AR t) λd k O P=>?_
 clear t
 subst O
 clear t
 obtain rfl:=P.symm
 haveI U:=(List.getElem?_eq_some_iff.mp w).1
 have G:i<F.length:=aD I.dH U
 refine fN (I.vars i F[i] _ (ma G) w) λos ov v V Y Y=>?_
 clear w;cases V with|exc W H Z s4 r=>
obtain⟨e1,e2⟩:=Iz k r
clear k
subst e1
haveI hg:h=("told":Str):=by exact aD b.nm (aD y.nm (aD y.kt (beq_iff_eq.mp B)))
clear B
refine aa hg (Attribute_name (eJ y K (ma G) v ?_));haveI dI:C.K.In s.heap:=λJ l m=>I.tok J l (b.dI J l m);exact aa3 b dI ⟨W.1,H.1,H.2,aa Z s4.1⟩ (ad9 b.tl b.hd) e2 (M.val I r)
end
noncomputable def hK(U:a7):ai Yj:=[.ref U,.type "Exception",.type "BaseException",.type "object"]
structure qG(C:Cx)(U fI:a7):Prop extends BadCx C where
cd:∃cd,GW C.K C.bad=Bc cd/\cd.mro=.ref C.bad::hK U/\cd.hasDict=D1
obj:∃nm q N bs sn sub ab col dd k0 k1 k2 k3 k5,C.h₀.get? C.bad=Bc (Mk nm q C.bad N bs (hK U) D1 sn sub ab col dd k0 k1 k2 k3 k5 "Exception.__new__")
sa:l5 C.K (.ref C.bad) "__setattr__"=Bc (Bc (.builtin "object.__setattr__"))
init:l5 C.K (.ref C.bad) "__init__"=Bc (Bc (.ref fI))fn:Mb C.K (.ref fI)=Bc (.type "function")
section
variable{C:Cx}{U fI:a7}{A:ip}{E:Yj->a8->Prop}{s:a8}{x:a7}{o:Obj}{v:Yj}
theorem WW(b:qG C U fI)(X:C.K.In s.heap)(p:s.heap.get? x=Bc o)(u:o.cls=.ref C.bad)(w:o.dict=VG)(y:o.data=.fields J)(a:∀k O t f,k.get? s.heap.objs.size=Bc (bP [⟨lF C.w.params "told",.str "told" t,v⟩] f)->k.get? x=Bc {o with dict:=Bc s.heap.objs.size}->(∀c j,c≠x->s.heap.get? c=Bc j->k.get? c=Bc j)->s.heap.objs.size<k.objs.size->Q () {s with heap:=k,toks:=O}):da (eg C.prog C.w) A (setAttr (.ref x) "told" v) Q E s:=by
 refine cps λP l=>?_
 obtain⟨V,B,K,W⟩:=b.cd
 refine l ?_;clear l P
 have I:InstAt s.heap x o C.bad VG:=⟨p,u,by unfold notCls;rw[y],aa w (by trivial)⟩
 refine set_plain X I b.sa ?_
 have m:=PySem.F.store_object
 have h:zZ (eg C.prog C.w) s.heap (typeOf (.ref x)) (.ref C.bad):=I.type
 have F:zZ (eg C.prog C.w) s.heap (c! (.ref x) (.type "object")) D1:=h.andThen (looks_mroIn X (by unfold mroIn;rw[B,PA,K,ej (by simp)];simp[hK]))
 refine Θ m.slot.plain m.entry (@check_slot (eg C.prog C.w) _ _ {s with toks:=s.toks+1} "object.__setattr__" "object" "__setattr__" (.ref x) [.str "told" s.toks,v] [] _ m.kind m.split F (m.args (.ref x) (.str "told" s.toks) v) ?_)
 have Z:zZ (eg C.prog C.w) s.heap (mroOf (.ref C.bad)) V.mro:=(f? X B).andThen .now
 have L3:zZ (eg C.prog C.w) s.heap (auk VG) VG:=.now
 rw[osa_eq,refuse_eq]
 refine ct (ct (h.here (s:={s with toks:=s.toks+1}) (ct (Z.here (s:={s with toks:=s.toks+1}) ?_))))
 refine aa K ?_
 unfold hK
 rw[refuseLoop_ref,refuseLoop_ref,PySem.F.store_Exception.passes]
 refine gP (ct (h.here (s:={s with toks:=s.toks+1}) (ct ((ch X b.tl).here (s:={s with toks:=s.toks+1}) (ct (L3.here (s:={s with toks:=s.toks+1}) ?_))))))
 refine cps λP l=>?_
 obtain⟨j,od,odt,L⟩:=o
 refine l ?_;clear l P
 dsimp only at u w y
 subst u w y
 refine ct (gP (ct (ct (FS p (ct (f? X B _ _ _ _ (λY Y i=>i) ?_))))))
 refine aa W ?_
 have M:x≠s.heap.objs.size:=l4 (ib p)
 refine aa (ej (by decide)) ?_
 show da _ _ (alloc {cls:=.type "dict",data:=.dict #[]}>>=λd=>update x (λo=>{o with dict:=Bc d})>>=λY=>dictMade (.ref C.bad) x d) _ _ _
 have N:(s.heap.push {cls:=.type "dict",data:=.dict #[]}).get? x=Bc {cls:=.ref C.bad,dict:=VG,data:=.fields J,slots:=L}:=sy _ p
 refine ct (wpAny_alloc' (ct (wpAny_update' N (gP ?_))))
 generalize r:(s.heap.push {cls:=.type "dict",data:=.dict #[]}).update x (λo=>{o with dict:=Bc s.heap.objs.size})=h1
 have G:h1.get? s.heap.objs.size=Bc (bP [] 0):=aD r (aa (AZ _ _ _ _ M.symm) (kK _ rfl))
 have TA:h1.get? x=Bc {cls:=.ref C.bad,dict:=Bc s.heap.objs.size,data:=.fields J,slots:=L}:=aD r (UB _ N rfl)
 have ko:∀c j,c≠x->s.heap.get? c=Bc j->h1.get? c=Bc j:=λc j f i=>aD r (aa (AZ _ _ _ _ f) (sy _ i))
 have zz:h1.objs.size=s.heap.objs.size+1:=by rw[<-r,BR,l7]
 show da _ _ (apd s.heap.objs.size (.str "told" s.toks) "told" v) _ _ {s with heap:=h1,toks:=s.toks+1}
 unfold apd aul
 refine ct (gP (ct ?_))
 unfold nsSet
 refine ct (ct (r? (gP (ct (j? (ct (FS G ?_)))))))
 dsimp only
 rw[as5,ej (by simp)]
 refine U' G ?_
 have i:=putName_dict ("told":Str) (lF C.w.params "told") (.str "told" (s.toks+1)) v [] 0
 have H:=UB (N' ("told":Str) (lF C.w.params "told") (.str "told" (s.toks+1)) v) G (aa i rfl)
 rw[i]at H
 refine ct (T? H (by exact R? (aa lT (aa l3 (by simp[putL])))) ?_)
 refine gP (a _ _ (s.toks+1) (putN "told" [] 0) H ?_ (λc j f i=>?_) ?_)
 .exact aa (AZ _ _ _ _ M) TA
 .exact aa (AZ _ _ _ _ (l4 (ib i))) (ko c j f i)
 .rw[BR,zz];exact zC _
end
section
variable{M:Model}{a:uV}{w:jw}{A:ip}{E:Yj->a8->Prop}{h:ff}{g:iO GenState}{d:Drawn}{t:ak}{f:Qg}
variable{k q:Str}{C N U:a7}{s:ai Yj}{v:ai Str}{i:ai Yj}{j:aA}{c:aw aA}{m:aw a7}{l u G y B:aw Yj}
theorem Ao(U C:a7):(nv C::hK U).contains (.type "Exception")=D1/\(nv C::hK U).contains (.type "BaseException")=D1/\(nv C::hK U).contains (.type "AttributeError")=Un/\(nv C::hK U).contains (.type "NameError")=Un/\(nv C::hK U).contains (.ref C)=D1:=by exact⟨by rfl',by rfl',by rfl',by rfl',aa List.contains_cons (aa (fm _) rfl)⟩
theorem aaM(b:h.get? C=Bc (Mk k q C N s (hK U) D1 v i j c m l u G y B "Exception.__new__"))(p:Q () ⟨h,g,d,t,f⟩):da M A (R! "Exception.__new__" ⟨.ref C::r,[]⟩) Q E ⟨h,g,d,t,f⟩:=wpAny_check_new_subU F.excBase_Exception (by simp[hK]) .base b p
theorem QI{R:Cw->a8->Prop}(H:h.get? C=Bc (Mk k q C N s (hK U) D1 v i j c m l u G y B "Exception.__new__"))(K:R (.ok (.ret (.ref (h.objs.size+1)))) ⟨(h.push {cls:=.type "tuple",data:=.seq rest.toArray}).push {cls:=.ref C,data:=.fields #[.ref h.objs.size,.none,.none,.none,.bool Un,.none]},g,d,t,f⟩)(Q:rest.length<=Ab):mO (eg a w) A (.builtin "Exception.__new__" ⟨.ref C::rest,[]⟩) R ⟨h,g,d,t,f⟩:=by
 have F:=F.excBase_Exception
 have L:=F.ends
 obtain⟨O,_,P,I,_⟩:=Ao U C
 refine codeAny_builtinAt F.entry ?_
 unfold Lf.«BaseException.__new__»
 refine asl ?_
 show PySem.wpAt _ _ _ (stack>>=_) _ _ _
 refine asl (PySem.wpAt_stack λp J=>ar1 ?_)
 wp_walk
 refine ar1 (aa F.owner ?_)
 repeat(first|with_reducible refine wpAny_madeHere_exc F.canon H ?_|with_reducible refine TF H ?_|(with_reducible refine y' H ?_;first|rw[O]|rw[P]|rw[I])|wp_step)
 show R _ _;rw[l7];exact K
theorem Wo(I:h.get? C=Bc (Mk k q C N s (hK U) D1 v i j c m l u G y B "Exception.__new__"))(L:zZ (eg a w) h (ac (.ref C) "__init__") (Bc (.ref fI)))(O:∀H,zZ (eg a w) h (bindSpecial (.ref fI) H) (.ref fI,[H]))(P:da (eg a w) A (call (.ref fI) (.ref (h.objs.size+1)::rest)) (λr K=>r=.none/\Q (.done (.ret (.ref (h.objs.size+1)))) K) E ⟨(h.push {cls:=.type "tuple",data:=.seq rest.toArray}).push {cls:=.ref C,data:=.fields #[.ref h.objs.size,.none,.none,.none,.bool Un,.none]},g,d,t,f⟩)(V:rest.length<=Ab):da (eg a w) A (Lf.«type.__call__» ⟨.ref C::rest,[]⟩) Q E ⟨h,g,d,t,f⟩:=by
 have F:=F.excBase_Exception
 repeat(first|with_reducible refine TF I ?_|with_reducible refine wpAny_madeBy_exc I ?_|wp_step)
 refine codeAny_call_builtin_code (as0 _ F.quiet) (aaM I ?_)
 refine QI I ?_ V
 show da _ _ _ _ _ _
 have kk:∀b o,h.get? b=Bc o->((h.push {cls:=.type "tuple",data:=.seq rest.toArray}).push {cls:=.ref C,data:=.fields #[.ref h.objs.size,.none,.none,.none,.bool Un,.none]}).get? b=Bc o:=λb o e=>sy _ (sy _ e)
 have J:=kk _ _ I
 have W:((h.push {cls:=.type "tuple",data:=.seq rest.toArray}).push {cls:=.ref C,data:=.fields #[.ref h.objs.size,.none,.none,.none,.bool Un,.none]}).get? (h.objs.size+1)=Bc {cls:=.ref C,data:=.fields #[.ref h.objs.size,.none,.none,.none,.bool Un,.none]}:=by heap_get
 have X:=(Ao U C).2.2.2.2
 unfold c!
 repeat(first|with_reducible refine TF W ?_|(with_reducible refine y' J ?_;rw[X])|wp_step)
 show da _ _ (ac (.ref C) _) _ _ _
 refine L _ _ _ _ kk (wq (ct (O _ _ _ _ _ kk ?_)))
 refine ct (nL P (λr K Z=>?_) λY Y x=>x);obtain⟨rfl,p⟩:=Z;wp_walk;exact p
theorem Xh(H:h.get? C=Bc (Mk k q C N s (hK U) D1 v i j c m l u G y B "Exception.__new__"))(I:zZ (eg a w) h (ac (.ref C) "__init__") (Bc (.ref fI)))(J:∀F,zZ (eg a w) h (bindSpecial (.ref fI) F) (.ref fI,[F]))(K:da (eg a w) (A.under (.builtin "type.__call__" ⟨.ref C::rest,[]⟩)) (call (.ref fI) (.ref (h.objs.size+1)::rest)) (λr L=>r=.none/\Q (.ref (h.objs.size+1)) L) E ⟨(h.push {cls:=.type "tuple",data:=.seq rest.toArray}).push {cls:=.ref C,data:=.fields #[.ref h.objs.size,.none,.none,.none,.bool Un,.none]},g,d,t,f⟩)(O:rest.length<=Ab):da (eg a w) A (call (.ref C) rest) Q E ⟨h,g,d,t,f⟩:=by
 have f1:=tc_lookup
 have f2:=tc_bind (.ref C)
 have P:(⟨h,g,d,t,f⟩:a8).TypeIs (.ref C) "type":=(aF _ H rfl)
 refine Mj (Tw ?_)
 show da _ _ (callAny (.ref C) _) _ _ _
 repeat(any_goals(first|assumption|with_reducible refine TF H ?_|wp_step))
 refine⟨rfl,?_⟩;exact codeAny_call_builtin_at (as0 _ (by decide+kernel)) entry_typeCall (wpAny_check_type_call_sub H (Wo H I J K O))
end
section
set_option genInjectivity false
set_option genSizeOf false
structure adV(C:Cx)(fI:a7)(o:Obj)(fd:s8)(aE:ai Yj)(a b:Str)(p1 p2 p3 p4:Pos):Prop where
g1:C.h₀.get? fI=Bc o
g2:o.data=.func fd
g3:C.h₀.CodeRec fd.code fd.qualname
g4:fd.body=.stmts [.Assign [.Attribute (.Name a p1) "told" p2] (.Name b p3) p4]
g5:fd.closure=[]
g6:fd.scope.kind=.function
g7:fd.scope.isCoroutine=Un
g8:fd.scope.isGenerator=Un
g9:sW fd.params
BC:fd.params.args.map (·.arg)=[a,b]
yg:a≠b
kr:fd.scope.names.lookup a=Bc .local
sR:fd.scope.names.lookup b=Bc .local
tw:∀x∈fd.scope.names,x.2≠.cell
d1:(a==("__debug__":Str))=Un
d2:(b==("__debug__":Str))=Un
d3:(a==("__classdict__":Str))=Un
d4:(b==("__classdict__":Str))=Un
zE:(fd.defaults=.none/\aE=[])\/∃T o n,fd.defaults=.ref T/\C.h₀.get? T=Bc o/\o.data=.seq aE.toArray n
zg:aE.length<=2
structure tZ(C:Cx)(fI:a7):Prop where
fd:∃(o:Obj)(fd:s8)(aE:ai Yj)(a b:Str)(p1 p2 p3 p4:Pos),adV C fI o fd aE a b p1 p2 p3 p4
lim:C.h₀.NoLimit
section
variable{C:Cx}{U d:a7}{A:ip}{E:Yj->a8->Prop}{s:a8}{v:Yj}
theorem Wu(b:qG C U d)(J:tZ C d)(X:A.depth<Nk)(p:∀a f,C.h₀.get? a=Bc f->s.heap.get? a=Bc f)(Y:s.heap.get? x=Bc f)(Z:f.cls=.ref C.bad)(hd:f.dict=VG)(hf:f.data=.fields vs)(i:∀r B t j F,s.heap.objs.size<=F->r.get? F=Bc (bP [⟨lF C.w.params "told",.str "told" t,v⟩] j)->r.get? x=Bc {f with dict:=Bc F}->(∀c u,c≠x->s.heap.get? c=Bc u->r.get? c=Bc u)->s.heap.objs.size<=r.objs.size->Q .none {s with heap:=r,toks:=B}):da (eg C.prog C.w) A (call (.ref d) [.ref x,v]) Q E s:=by
 obtain⟨oF,fd,K,a,c,p1,p2,p3,p4,⟨g1,g2,g3,g4,g5,G,g7,g8,g9,BC,L,M,N,tw,d1,d2,d3,d4,zE,zg⟩⟩:=J.fd
 refine Mj ?_
 have O:z8 s fd ⟨[.ref x,v],[]⟩ ([a,c].zip ([.ref x,v]++K.drop K.length)):=DO g9 BC (List.nodup_cons.mpr ⟨λm=>L (hX.mp m),List.nodup_cons.mpr ⟨lR,.nil⟩⟩) (zE.imp id λh=>mJ h λk f j q1 q2 q3=>rP k f j q1 (p _ _ q2) q3) (ir _) (zI _ _) zg
 rw[Φ]at O
 refine B' X (p _ _ g1) g2 g7 g8 g4 (g3.keeps p) (O _ _ _ _ ?_)
 refine aa g5 (z? tw (λy m=>?_) (λP V H=>⟨(J.lim.keeps p).fresh _ H,h! ?_⟩) G)
 .rcases hZ.mp (show y∈[(a,nv x),(c,v)]from m)with l|m
  .exact l▸M
  .exact hX.mp m▸N
 have I:∀b w,s.heap.get? b=Bc w->P.get? b=Bc w:=λb w l=>H.extBut b w (l4 (ib l)) (sy _ l)
 have W:s.heap.objs.size<=P.objs.size:=by rw[H.1,l7];exact tm _
 have la:([(a,nv x),(c,v)].reverse.lookup a)=Bc (.ref x):=by show Sz a [(c,v),(a,nv x)]=_;exact aa pD (aa (show(a==c)=Un from beq_eq_false_iff_ne.mpr L) E')
 have lb:([(a,nv x),(c,v)].reverse.lookup c)=Bc v:=by show Sz c [(c,v),(a,nv x)]=_;exact E'
 refine J9 (aq1 ?_ (mR rfl _ _ _));refine an ?_ d2;refine wY (p:=.l c) G d4 ⟨N,_,V,lb⟩ (an ?_ d1);refine wY (p:=.l a) G d3 ⟨M,_,V,la⟩ (WW b (λb' o' i=>I _ _ (p _ _ (b.dI b' o' i))) (I _ _ Y) Z hd hf λr B t j z1 z2 z3 z4=>Nu (i r B t j _ W z1 z2 (λc u j l=>z3 c u j (I _ _ l)) (gY W (Ej z4))))
end
end
section
variable{M:Model}{A:ip}{E:Yj->a8->Prop}
variable{nm q:Str}{K N U:a7}{bs:ai Yj}{sn:ai Str}{sub:ai Yj}{ab:aA}{col:aw aA}{dd:aw a7}{k0 k1 k2 k3 k5:aw Yj}{env:gn}
theorem W5(k:A.handled=VG)(h:da M A a (λv f=>∃b t i,v=.ref b/\f.heap.get? K=Bc (Mk nm q K N bs (hK U) D1 sn sub ab col dd k0 k1 k2 k3 k5 "Exception.__new__")/\f.heap.get? b=Bc {cls:=.ref K,dict:=Bc i,data:=.fields #[.ref t,.none,.none,.none,.bool Un,.none]}/\E (.ref b) f) E s):da M A (ZB env (Bc a) VG) Q E s:=by
 have l:=(Ao U K).2.1
 unfold ZB
 refine ct (nL h (λv f m=>?_) λY Y a=>a)
 obtain⟨b,t,i,rfl,j,p,r⟩:=m
 obtain⟨u,c,d,w,y⟩:=f
 repeat(first|with_reducible refine TF p ?_|with_reducible refine TF j ?_|(with_reducible refine y' j ?_;rw[l])|wp_step)
 exact wpAny_raiseNew_none k r
end
section
variable{C:Cx}{U fI:a7}{A:ip}{E:Yj->a8->Prop}{s:a8}{v:Yj}
theorem acF(b:qG C U fI)(O:tZ C fI)(P:A.depth+1<Nk)(r:∀a f,C.h₀.get? a=Bc f->s.heap.get? a=Bc f)(h:∀u G t i B j V,s.heap.objs.size<=B->s.heap.objs.size<=j->B≠j->u.get? B=Bc (bP [⟨lF C.w.params "told",.str "told" t,v⟩] i)->u.get? j=Bc {cls:=.ref C.bad,dict:=Bc B,data:=.fields #[.ref V,.none,.none,.none,.bool Un,.none]}->(∀c y,s.heap.get? c=Bc y->u.get? c=Bc y)->s.heap.objs.size<=u.objs.size->j<u.objs.size->Q (.ref j) {s with heap:=u,toks:=G}):da (eg C.prog C.w) A (call (.ref C.bad) [v]) Q E s:=by
 refine cps λW H=>?_
 obtain⟨nm,qn,N,bs,sn,X,ab,Y,dd,k0,k1,k2,k3,k5,Z⟩:=b.obj
 have I:C.K.In s.heap:=λb' o' h=>r _ _ (b.dI b' o' h)
 obtain⟨p,l,d,t,os⟩:=s
 refine H ?_;clear H W
 refine Xh (r _ _ Z) (ch I b.init) (λF=>bind_fn I F b.fn) ?_ (aa l3 (by simp))
 have k:∀c y,p.get? c=Bc y->((p.push {cls:=.type "tuple",data:=.seq [v].toArray}).push {cls:=.ref C.bad,data:=.fields #[.ref p.objs.size,.none,.none,.none,.bool Un,.none]}).get? c=Bc y:=λc y j=>cn _ _ _ _ (cn _ _ _ _ j)
 have hx:((p.push {cls:=.type "tuple",data:=.seq [v].toArray}).push {cls:=.ref C.bad,data:=.fields #[.ref p.objs.size,.none,.none,.none,.bool Un,.none]}).get? (p.objs.size+1)=Bc {cls:=.ref C.bad,data:=.fields #[.ref p.objs.size,.none,.none,.none,.bool Un,.none]}:=by have :=kK (p.push {cls:=.type "tuple",data:=.seq [v].toArray}) (o:={cls:=.ref C.bad,data:=.fields #[.ref p.objs.size,.none,.none,.none,.bool Un,.none]}) rfl;rwa[l7]at this
 have J:((p.push {cls:=.type "tuple",data:=.seq [v].toArray}).push {cls:=.ref C.bad,data:=.fields #[.ref p.objs.size,.none,.none,.none,.bool Un,.none]}).objs.size=p.objs.size+2:=by rw[l7,l7]
 refine Wu b O (by
have w:Db (.builtin "type.__call__" ⟨.ref C.bad::[v],[]⟩)=1:=by rfl
show A.depth+Db _<_
refine aa w ?_;exact P) (λa f j=>k a f (r a f j)) hx rfl rfl rfl λu G t i B K z1 L z3 M=>⟨rfl,?_⟩
 have XN:p.objs.size+2<=B:=gY (mu J.symm) K
 have z4':p.objs.size+2<=u.objs.size:=gY (mu J.symm) M
 clear K M
 refine h u G t i B (p.objs.size+1) p.objs.size ?_ ?_ ?_ z1 L (λc y j=>z3 c y (λh=>?_) (k c y j)) ?_ (ib L)
 .show p.objs.size<=B;exact gY (zI _ _) ‹_›
 .exact tm _
 .exact cr (nB (zC _) XN)
 .have m:c<p.objs.size:=ib j
  rw[h]at m;exact aL m (Nat.not_lt.mpr (tm _))
 .show p.objs.size<=u.objs.size;exact gY (zI _ _) ‹_›
end
section
variable{C:Cx}{N:Env}{n:ak}{rec:T->St->R}
theorem GS(nk:kY C N n)(b:qG C U fI)(bi:tZ C fI)(gv:jj C (C.nm C.ju) (.ref C.bad))(kp:eD C (.ref C.bad))(ih:bG C n rec)(k:ak)(a:E):fT C n rec (.pW k a):=by
 intro c f py u st
 refine VY u λe0 u0 O w=>?_;clear u
 refine iS w λd0 y=>?_;clear w
 refine iN y λB=>?_;clear y
 refine jm B λh es kw tB F=>?_;clear B
 refine dD F λi xp G=>?_;clear F
 refine i1 G λv H=>?_;clear G
 refine i0 H λu=>?_;clear H
 simp only[ji]at u
 refine cps λP J=>?_
 obtain⟨⟨⟨hn,t1⟩,t2⟩,V⟩:=u
 refine J ?_;clear J P
 intro A r ρ af cs s Q X L W Y ot Z I K
 have hk:k=C.ju:=aD Z.kb (eq_of_beq t1)
 subst hk
 refine cps λP J=>?_
 obtain⟨d,st1,h1,K⟩:=pE K
 obtain⟨_,K⟩:=K
 obtain⟨nm,qn,N,bs,sn,sub,ab,col,dd,k0,k1,k2,k3,k5,hC⟩:=b.obj
 refine J ?_;clear J P
 rw[arm_exec_Raise]
 refine ct (wz ?_)
 show da _ _ (ZB r (Bc (do let v<-jM (.Call (.Name i xp) [v] [] tB) r;Lg O;pure v)) VG) _ _ _
 refine W5 (K:=C.bad) (U:=U) (nm:=nm) (q:=qn) (N:=N) (bs:=bs) (sn:=sn) (sub:=sub) (ab:=ab) (col:=col) (dd:=dd) (k0:=k0) (k1:=k1) (k2:=k2) (k3:=k3) (k5:=k5) (Y.hd hn) (ct ?_)
 refine Li rfl (qX nk.dN Z I t2 gv ?_)
 refine AI (by rw[gZ V];rfl) kp ?_
 rw[gZ V]
 refine Lw (Eh (ih c f a v V st d st1 h1 A r ρ af cs s _ _ Y Z I ?_))
 intro aG aH bo aQ v1 p g1 k1 r1
 refine Lu ⟨p.tok,?_⟩
 refine acF b bi (by have :=Y.dp;exact nh) p.tok λh' eY t m dx j t0 y1 M y3 y4 y5 CQ Ny iW=>?_
 refine ct (wz (gP (qj j t0 dx rfl (CQ _ _ (p.tok _ _ hC)) y5 ?_)))
 have I2:=p.qV CQ Ny (λa m=>by rw[hX]at m;subst m;exact⟨M,iW⟩)
 have g2:=oP (C:=C) (cs:=aH) (r:=.f) CQ Ny (λa m=>by rw[hX]at m;subst m;exact M) p.lt
 have re:(aG.plus [j] .f) j=Bc .f:=Ro.fo (.head _)
 have rd:(aG.plus [j] .f) dx=VG:=by exact aa (Ro.eP (by simpa using y3)) (p.none_of _ y1)
 refine K _ aH h' eY j VG [j] I2 (g1.trans g2) (.fresh re ?_ y5 rfl rfl ⟨y4,rd⟩ (r1.mono (.refl _) g2.st) rfl rfl) (.inl rfl) λa m=>?_
 .intro l;have :=p.lt C.tab (aa p.cM (yf _));rw[<-l]at this;exact aL this (Nat.not_lt.mpr M)
 .rw[hX]at m
  refine aa m ?_
  intro l;have :=(g1.kp _ l).1;rw[p.none_of _ M]at this;cases this
end
section
variable{C:Cx}{N:Env}{n:ak}{P:T->St->R}
variable{j:gn}{u U K:Ro}{l:ai Pl}{cs cs' V:ai CA}{B:St}{s:a8}{A:ip}{h Z F:ff}
theorem ExcAt.obj(a:ExcAt C cs u h e d I W):e∈W/\u e=Bc .f/\∃b y G t v m,h.get? e=Bc b/\b.cls=.ref C.bad/\b.data=.fields G/\b.dict=Bc y/\Sb u h y (bP [⟨lF C.w.params "told",.str "told" t,v⟩] m)/\Rd C.w.params cs (Sb u h) d v:=by induction a with|fresh r n c f i k p w H=>exact⟨.head _,r,_,_,_,_,_,_,c,f,w,i,k,p⟩|lB r n c f i k p w H J L M O Q X=>exact⟨.head _,r,_,_,_,_,_,_,c,f,w,i,k,p⟩
theorem CF{W f:ai a7}(b:Go C K u V cs F h)(I:Inv C j u l cs B h)(w:∀a∈W,K a≠Bc .f)(n:∀a∈f,a∈W\/h.objs.size<=a):∀a∈f,K a≠Bc .f:=λa m c=>(n a m).elim (λd=>w a d c) λd=>bh ((I.none_of a d).symm.trans (b.kp a c).1)
section
variable{L:a7}{Q:Flow->a8->Prop}{X G:Yj->a8->Prop}{J H:aA}
theorem aX.Jd(k:aX C j u l cs s J L Q X (.ok p B))(d:∀f s,Q f s->m f s):aX C j u l cs s H L m G (.ok p B):=bp.casesOn p (λY=>id) (λY=>id) (λY=>id) (λk Y Y Y Y I i=>d _ _ (k _ _ _ _ I i)) (λY k Y Y Y Y Y Y I i a b c=>d _ _ (k _ _ _ _ _ _ I i a b c)) k
theorem aX.Zs(k:aX C j u l cs s J L Q X (.ok p B)):aX C j u l cs s H L Q G (.ok p B):=k.Jd λY Y=>id
theorem aX.ua(k:aX C j u l cs s J L Q X (r.ua f))(a:∀f s,Q f s->i f s)(b:∀d c,aX C j u l cs s J L Q X (f d c)->aX C j u l cs s H L i G (.exc d c)):aX C j u l cs s H L i G r:=R.casesOn r (λp B k=>k.Jd a) (λd B k=>b d B k) id k
theorem aX.zX(k:aX C j u l cs s J L Q X r.zX):aX C j u l cs s H L Q G r:=R.casesOn r (λp B k=>k.Zs) (λY Y=>D6) id k
theorem aX.yD(k:aX C j u l cs s J L Q X (r.yD i))(a:∀b,aX C j u l cs s J L Q X (.ok .ay ⟨b.l.set i .ae,b.cells⟩)->aX C j u l cs s H L c G (.ok .ay b)):aX C j u l cs s H L c G r:=R.casesOn r (λp B=>bp.casesOn p (λY=>D6) (λY=>D6) (λY=>D6) (a B) λY=>D6) (λY Y=>D6) D6 k
end
theorem UZ(a:bq C j c l)(t:c.bN i y=D1):i<l.length:=by have h:=(List.getElem?_eq_some_iff.mp (beq_iff_eq.mp t)).1;rw[<-a.names,fx]at h;exact h
theorem X8(G:bq C j c l)(ta:c.bN i y=D1)(tb:c.sc.names.lookup y=Bc .local)(O:Out C j l K V F)(I:Inv C j u l cs B s.heap)(a:Go C K u V cs F s.heap)(b:∀U Z tk,Inv C j U l cs ⟨B.l.set i .ae,B.cells⟩ Z->Go C K U V cs F Z->Q () {s with heap:=Z,toks:=tk}):da M A (do Xr j y .none;Ξ j y pos) Q X s:=by
 have H:i<l.length:=UZ G ta
 have r:l[i]?=Bc l[i]:=ma H
 have v:=G.kd _ _ tb nofun
 have J:∀p,l[i]?=Bc p->p.name=y->p∈l->da M A (do Xr j y .none;Ξ j y pos) Q X s:=λp=>Pl.casesOn p (λd r t hm=>by
have t:d=y:=t
rw[<-t]at v⊢
have L:i<B.l.length:=I.dH▸H;refine fN (I.vars i (.l d) B.l[i] r (ma L)) λY ov w Y Y Y=>aj w.2 λm1 jg Y=>?_;refine wpAny_nameGoes_keeps v jg (aa G.kind rfl) λh8 v8 W KC=>aU (I.FC a O.t0 O.c0 O.f0 r (I.locs _ hm) KC ⟨v,_,W,rfl⟩ (λb hq ne ov=>Pl.casesOn b (λz2 Y ne f=>aj f.2 λm2 a2 a3=>⟨f.1,_,W,(ej λk=>ne (gO Pl.l k)).trans ((lU (BB jg a2) z2).trans a3)⟩) (λz2 c2 b2 hq Y f=>⟨f.1,f.2.1,f.2.2.sameBut KC (I.fW _ _ _ hq).1⟩) hq ne) (.ae _) (λY m=>aL m lR) .nil (λY=>He W)) λI8 g8=>b _ h8 _ I8 g8) (λd c2 b2 r t hm=>by have t:d=y:=t;rw[<-t]at v;have L:i<B.l.length:=I.dH▸H;exact fN (I.vars i _ B.l[i] r (ma L)) λY ov w Y Y Y=>w.1.elim (λb=>aqd (eF (v.symm.trans b))) λb=>aqd (eF (v.symm.trans b)));exact J _ r (zc G ta r).1 (pr H)
theorem ZF(nk:kY C N n)(b:qG C p fI)(gv:jj C (C.nm C.ju) (.ref C.bad))(iE:gA C n P)(bb:ai S)(k:ak)(nm:aw ak)(hh:ai S):fT C n P (.oh bb k nm hh):=by
 intro c f py H B
 refine aao H λbody hs oe fb pos H=>i1 H λq0 H=>iH H λty name hb0 HW H=>iS H λw0 H=>dD H λr xp H=>Nl H λh0 hb H=>i0 H λH=>i0 H λH=>aU (iA H) λH t5=>aU (iA H) λH t4=>aU (iA H) λH t3=>aU (iA H) λH t2=>?_
 intro A j u l cs s Q X L M rm ot J I O
 have hn:=(iA H).1
 have hk:C.ju=k:=(J.kb.symm.trans (eq_of_beq (iA H).2).symm)
 rw[<-hk]at t2
 refine wpAny_Try_except (iE c f bb body t4 B A j u l cs s _ _ L M rm ot J I (O.ua (λf s w=>Flow.casesOn f Nu id id (λY=>id) w) λd st1 O=>?_))
 refine⟨hn,λaG aH h1 aQ G fl W I1 g1 x1 f1 w1=>?_⟩
 refine C7 ot I1 x1 f1 λaI W2 h2 I2 g2 Y x2 n2=>?_
 have DT:Go C u aI cs aH s.heap h2:=cq.rX g1 g2 w1
 have w2:=CF g1 I1 w1 n2
 refine yr I2 x2 λdC W3 h3 I3 g3 Y x3 n3=>?_
 have zo:Go C u dC cs aH s.heap h3:=cq.rX DT g3 w2
 have w3:=CF DT I2 w2 n3
 clear DT w2 n2 n3 g1 g2 g3 x1 x2 I1 I2 w1 f1
 refine bD x3.obj λY Y X=>Km X λoe dx vs t v m he cZ Y Y Y Y=>qz b.obj λnm0 qn N0 bs sn sub ab col X=>PY X λdd k0 k1 k2 k3 k5 hC=>wpAny_handleBy_cons (codeAny_handlers_test ?_) arv
 refine qX nk.dN J I3 t2 gv (wpAny_excMatches_sub_self (I3.tok _ _ hC) he cZ (by simp[hK]) ?_)
 have Jk:bx C (A.mark (Bc (.ref G))) (n+c.lv) Un:=⟨(λw=>xa w),rm.dp,rm.un,rm.fr⟩
 have gN:jz C (A.mark (Bc (.ref G))) j L M:=⟨ot.fr,ot.DM,ot.f⟩
 have Nw:bq C j {c with hn:=Un} l:=⟨J.kind,J.glob,J.blt,J.kd,J.kf,J.names,J.oW,J.dN,J.nm,J.gk,J.fk,J.kl,J.kt,J.vg,J.kb,J.lam,J.lp⟩
 clear he cZ hC X ot rm
 revert t3 O
 refine Pr nm ?_ λi=>?_
 .refine Pr name (λY O=>?_) λY h=>no h
  refine codeAny_handlers_suite (yr (s:={s with heap:=h3,toks:=aQ}) I3 x3 λgB W4 h4 I4 g4 Y x4 n4=>?_);exact iE {c with hn:=Un} f hh (h0::hb) t5 st1 (A.mark (Bc (.ref G))) j gB l aH {s with heap:=h4,toks:=aQ} _ _ L M Jk gN Nw I4 (O.on (cq.rX zo g4 w3)).zX
 .refine Pr name (λh=>no h) λy t3 O=>codeAny_handlers_suite_as (yr (s:={s with heap:=h3,toks:=aQ}) I3 x3 λgB W4 h4 I4 g4 Y x4 n4=>?_);have Ku:Go C u gB cs aH s.heap h4:=cq.rX zo g4 w3;have w4:=CF zo I3 w3 n4;clear g4 n4 x3 I3 zo w3;refine bD x4.obj λeW re X=>Km X λoe dx vs t v m he cZ hd eM eU rd=>aU (I4.E8 Ku I.cM I.c0 (λa m=>hX.mp m▸I4.Eu he hd) λa m=>(hX.mp m).symm▸⟨re,w4 G eW⟩) λI5 g5=>?_;have sa:dh C.w.params C.bad aH (Sb (gB.less [G]) h4) h4 (.exc d) [] (Bc (.ref G)):=.exc (⟨he,Ro.pL (.head _)⟩:Sb (gB.less [G]) h4 G oe) ⟨cZ,by unfold notCls;rw[hd]⟩ eM (i8 _ _ eU) (rd.mono (.refl _) i8);have tb:=beq_iff_eq.mp (iA t3).2;refine yi J (iA t3).1 (by unfold oJ;rw[tb];rfl) I5 g5 I.out sa (λY m=>aL m lR) .nil λVf h6 AA I6 g6 Y Y=>?_;clear sa I5 g5 eU rd eM hd cZ he re eW X x4 Ku w4;refine iE {c with hn:=Un} f hh (h0::hb) t5 ⟨st1.l.set i (.exc d),st1.cells⟩ (A.mark (Bc (.ref G))) j Vf l aH {s with heap:=h6,toks:=AA} _ _ L M Jk gN Nw I6 ((O.on g6).yD λst2 O ρ7 cs7 h7 rV I7 g7=>?_);exact X8 J (iA t3).1 tb I6.out I7 g7 λρ8 h8 Bi I8 g8=>O ρ8 cs7 h8 Bi I8 g8
end
structure tz(C:Cx)(N:Env)(n:ak)(rec:T->St->R):Prop where
x:n6 C n rec
e:bG C n rec
t:gF C n rec
b:Dg C n rec
xc:ud C n rec
ec:uP C n rec
s:MN C n rec
ss:gA C n rec
structure xh(C:Cx)(N:Env)(n:ak)(U fI:a7):Prop where
nk:kY C N n
nx:Jx C N n
b:qG C U fI
bi:tZ C fI
gv:jj C (C.nm C.ju) (.ref C.bad)kp:eD C (.ref C.bad)
section
variable{C:Cx}{N:Env}{n:ak}{U d:a7}
theorem Ks:tz C N n (λY Y=>.fail)where x:=λc f e B Y st sl F h=>nomatch h;e:=λc f e B Y st sl F h=>nomatch h;t:=λc f e B Y st sl F h=>nomatch h;b:=λc f e B Y st sl F h=>nomatch h;xc:=λc f e B Y st sl F h=>nomatch h;ec:=λc f e B Y st sl F h=>nomatch h;s:=λc f x B Y st A env G H cs s Q X L outer Y Y Y Y k=>k.elim;ss:=λc f x B Y st A env G H cs s Q X L outer Y Y Y Y k=>k.elim
theorem To(a:xh C N n U d)(S:tz C N n rec)(r:∀i b,fT C n rec (.g i b)):∀c,fT C n rec c|.g i b=>r i b|.de u l=>tL S.x u l|.i5 s b=>sE S.e S.ec s b|.dU f k b=>Vh a.nk.gW S.e f k b|.dF f i b=>Bg S.e f i b|.pK i k=>Ui i k|.app i b=>lL S.x i b|.ext i b=>uB S.e i b|.mX i j=>yT i j|.mF b=>aa6 S.e b|.iff t p m=>Qo S.t S.ss t p m|.jP t p=>Ss S.t S.ss t p|.bA s v p=>rA a.nk.gW S.e S.ss s v p|.vN b=>aaG a.nk.gW S.e b|.ret b=>nD S.e S.ec b|.xD i=>ael i|.pW k b=>GS a.nk a.b a.bi a.gv a.kp S.e k b|.oh p k w h=>ZF a.nk a.b a.gv S.ss p k w h|.av=>Ww
theorem Ir(a:xh C N n U d)(S:tz C N n rec)(B:∀i e,fT C n rec (.g i e)):tz C N n (step N rec)where
x:=TN a.nk S.e S.t λi=>JR a.b.toBadCx i
e:=aaI S.x
t:=Qc S.b S.t
b:=RP a.nk S.e S.t λi=>JR a.b.toBadCx i
xc:=Q9 a.nk a.nx S.e S.ec
ec:=UW S.xc
s:=λc f x M t st A env J K cs s Q X L outer F G H I k=>by cases f with|zero=>exact no t|succ f=>exact To a S B x c f M t st A env J K cs s Q X L outer F G H I k
ss:=λc f l O t st A env J K cs s Q X L outer F G H I k=>M1 S.s t F G H I k
theorem CP(a:xh C N n U d):∀h,tz C N n (ev N h)/\tz C N n (ev N (h+1))|0=>⟨Ks,Ir a Ks λi b c f r t u A p v w cs s Q X L l y B F I k=>k.elim⟩|h+1=>by obtain⟨m,j⟩:=CP a h;exact⟨j,Ir a j λi b=>fw a.nk.gW j.x j.xc m.e m.t i b⟩
end
mutual noncomputable def rq(k:ak):D->aA|.list l=>fq k l|.u l=>fq k l|.dict ks vs=>fq k ks&&fq k vs|.ref r=>ys r k|_=>D1 noncomputable def fq(k:ak):ai D->aA|[]=>D1|d::l=>rq k d&&fq k l end
def hV(k:ak):Cell->aA|.dict a v=>fq k a&&fq k v|.inst _ _ v=>fq k v|.bW _ _=>D1
def uH(k:ak):Slot->aA|.sh d=>rq k d|.o l=>fq k l|.bS a=>a.all (fq k)|_=>Un
section
variable{P:ei}{cs:ai CA}{S:a7->Obj->Prop}{k:ak}
theorem Cp(h:cs[i]?=Bc p)(a:i<k):(cs.take k)[i]?=Bc p:=by exact aa (A') (aa (eI a) h)
theorem Rd.cut(r:Rd P cs S d v):rq k d=D1->Rd P (cs.take k) S d v:=Rd.rec (motive_2:=λl w Y=>fq k l=D1->aC P (cs.take k) S l w) (motive_3:=λj m y Y=>fq k j=D1->fq k m=D1->cL P (cs.take k) S j m y) (λY=>.none) (λb Y=>.bool b) (λi t Y=>.int i t) (λs t Y=>.str s t) (λb t Y=>.bytes b t) (λh Y f c=>.list h (f c)) (λh Y f c=>.u h (f c)) (λh Y f c=>.dict h (f (iA c).1 (iA c).2)) (λu Y=>.val u) (λh c=>.ref (Cp h (mc c))) (λY=>.nil) (λY Y h r c=>.cons (h (iA c).1) (r (iA c).2)) (λY Y=>.nil) (λY a Y Y h d r c p=>.cons (h (iA c).1) a (d (iA p).1) (r (iA c).2 (iA p).2)) r
theorem aC.cut(r:aC P cs S l v):fq k l=D1->aC P (cs.take k) S l v:=r.ind (λY=>.nil) λY Y Y Y a Y i c=>.cons (a.cut (iA c).1) (i (iA c).2)
theorem cL.cut:∀{f:ai D}{h:ai kJ},cL P cs S i f h->fq k i=D1->fq k f=D1->cL P (cs.take k) S i f h:=by induction i with|nil=>exactλr Y Y=>aa r.jf.1 (aa r.jf.2 .nil)|cons d l m=>intro f h r;exact r.nY λb y a w p s t u c j=>.cons (p.cut (iA c).1) s (t.cut (iA j).1) (m u (iA c).2 (iA j).2)
theorem eX.cut(r:eX C cs S b ds es):fq k ds=D1->eX C (cs.take k) S b ds es:=by induction r with|nil=>exactλY=>.nil|cons a h r i=>exactλc=>.cons a (h.cut (iA c).1) (i (iA c).2)
theorem gE.cut(d:gE C cs S h c p):hV k c=D1->gE C (cs.take k) S h c p:=by induction d with|dict j r l=>exactλf=>.dict j (r.cut (iA f).1 (iA f).2) l|inst m j s t=>exactλf=>.inst m j s (t.cut f)|bW i a b=>exactλY=>.bW i a b
theorem dM.cut(a:dM P cs S h l f):l.all (fq k)=D1->dM P (cs.take k) S h l f:=by induction a with|nil=>exactλY=>.nil|cons b r d i=>exactλc=>.cons b (r.cut (iA c).1) (i (iA c).2)
theorem dh.cut{f:ai a7}(a:dh P c cs S h sl f i):uH k sl=D1->dh P c (cs.take k) S h sl f i:=by induction a with|ae=>exact no|sh r=>exactλb=>.sh (r.cut b)|o d r=>exactλb=>.o d (r.cut b)|bS d r=>exactλb=>.bS d (r.cut b)|exc=>exact no
end
noncomputable def LR(k:ak)(r:Rl):aw Rl:=Rl.casesOn (motive:=λY=>aw Rl) r (Bc .f) (Bc .sc) (λi=>Bc (.o i)) λj=>if j<k then Bc (.cell j)else VG
theorem Pa(h:LR k r=Bc b):r=b/\∀j,b=.cell j->j<k:=by cases r with
|cell j=>
have h:(if j<k then Bc (Rl.cell j)else VG)=Bc b:=h
by_cases c:j<k
.rw[eI c]at h;exact eF h▸⟨rfl,λi a=>Rl.cell.inj a▸c⟩
.rw[ej c]at h;exact bh h|_=>exact eF h▸⟨rfl,nofun⟩
noncomputable def Ro.cut(F:Ro)(k:ak):Ro:=λa=>(F a).bind (LR k)
section
variable{C:Cx}{G:gn}{F K:Ro}{cs J:ai CA}{B:ai Cell}{h H:ff}{k:ak}
theorem Ro.NJ(b:F a=VG):F.cut k a=VG:=by unfold Ro.cut;rw[b];rfl
theorem Ro.uT(b:F a=Bc r)(c:∀j,r≠.cell j):F.cut k a=Bc r:=by unfold Ro.cut;rw[b];cases r<;>first|rfl|exact aL rfl (c _)
theorem Ro.abr(b:F a=Bc (.cell j))(c:j<k):F.cut k a=Bc (.cell j):=by unfold Ro.cut;rw[b];exact eI c
theorem Ro.BQ(b:F.cut k a=Bc r):F a=Bc r/\∀j,r=.cell j->j<k:=aj (dA b) λf d c=>⟨d.trans (gO Bc (Pa c).1),(Pa c).2⟩
theorem xw(b:Sb F h a o):Sb (F.cut k) h a o:=⟨b.1,Ro.NJ b.2⟩
theorem Inv.cut(I:Inv C G F [] cs ⟨[],B⟩ h)(f:(B.take k).all (hV k)=D1):Inv C G (F.cut k) [] (cs.take k) ⟨[],B.take k⟩ h:=by
 refine⟨λa l=>I.lt a λt=>l (Ro.NJ t),λa u l=>xw (I.base a u l),I.tab.sb λY Y=>xw,Ro.uT I.cM nofun,rfl,?_,λi p s A=>bh A,λj c p M A=>?_,λa j l=>?_,I.names,λv m=>aL m lR,λv c b m=>aL m lR,λv y c b d m=>aL m lR,λv c b m=>aL m lR,λO m=>?_⟩
 .show(B.take k).length=(cs.take k).length;exact aa Gh (aa Gh (aa (show B.length=cs.length from I.d9) rfl))
 .have M:(B.take k)[j]?=Bc c:=M
  have N:j<k:=nB (List.getElem?_eq_some_iff.mp M).1 (arj _ _)
  have P:=lg.mp f c (mD M)
  rw[A',eI N]at M A;refine bD (I.cells j c p M A) λv r Q=>cV ((v.keep (.refl _) (λY Y=>xw) λY Y Y t=>t).cut P) (λa m=>Ro.abr (r a m) N) Q
 .exact aj (I.gG a j (Ro.BQ l).1) λp A U=>aF p (Cp A ((Ro.BQ l).2 j rfl)) U
 .exact aU (I.eS O m) λV t=>dG t λL u W X Z=>⟨V,L,u,W,X.imp (λw=>Ro.uT w nofun) λw=>Ro.uT w nofun,Z⟩
theorem Go.cut(b:Go C K F J cs H h)(l:J.length<=k):Go C K (F.cut k) J (cs.take k) H h:=⟨λi p c=>Cp (b.cs i p c) (nB (List.getElem?_eq_some_iff.mp c).1 l),λa d f=>xw (b.st a d f),λa j=>⟨Ro.uT (b.kp a j).1 Df,(b.kp a j).2⟩,λa j=>Ro.uT (b.sc a j) MX,b.sz⟩
theorem abT(c:∀a r,F a=Bc r->r=.f\/∃j,r=.cell j):∀a r,F.cut k a=Bc r->r=.f\/∃j,r=.cell j:=λa r b=>c a r (Ro.BQ b).1
theorem ZR(p:du C n t f i B sl l)(u:uH B.length sl=D1)(w:(l.take B.length).all (hV B.length)=D1):du C n t f i B sl (l.take B.length):=by intro A F cs s y G Q X L I M N b;haveI O:cs.length<=B.length:=mu I.d9.symm;refine p A F cs s y G Q X L I M N λah P U V v W Z c r sa j nd=>b _ _ U V v W (Z.cut w) (c.cut O) (abT r) ((sa.keep (.refl _) (λY Y=>xw) λY Y Y d=>d).cut u) (λa m=>⟨Ro.uT (j a m).1 Df,(j a m).2⟩) nd
end
section
variable{C:Cx}{u u9:gn}{w t d:Ro}{cs cs':ai CA}{l:ai Cell}{st:St}{h p i:ff}{c:gn}{af:ai Pl}
theorem Ei{Q:ai D}(F:FnAt C fa fd stmts aE Q ns aW lv body)(qc:full.length=aW){R:Cw->a8->Prop}(N:bx C A (n+lv+1) D1)(I:Inv C u w [] cs ⟨[],l⟩ s.heap)(ro:∀a r,w a=Bc r->r=.f\/∃j,r=.cell j)(bt:z8 s fd args ((ns.take aW).zip sd))(GK:aC C.w.params cs (Sb w s.heap) full sd)(k:∀c t p X,Inv (C.push c) c t (ns.map (fP c.scope c.cells)) cs ⟨full.map .sh++tI (ns.length-aW) .ae,l⟩ p->bq (C.push c) c (jy C fd ns lv) (ns.map (fP c.scope c.cells))->jz (C.push c) (A.deeper c) c c.locals C.fr->bx (C.push c) (A.deeper c) (n+lv) D1->(∀d G B i,Inv (C.push c) c d (ns.map (fP c.scope c.cells)) G B i->Go (C.push c) t d cs G p i->Inv C u d.out [] G ⟨[],B.cells⟩ i/\Go C w d.out cs G s.heap i)->(∀d G B i a,Inv (C.push c) c d (ns.map (fP c.scope c.cells)) G B i->Go (C.push c) t d cs G p i->d a=Bc .f->t a≠Bc .f->s.heap.objs.size<=a)->da (eg C.prog C.w) (A.deeper c) (DP stmts c) (λf Z=>R (.ok (.ret (match f with|.ret v=>v|_=>.none))) Z) (λe Z=>da (eg C.prog C.w) (A.deeper c) (leaving c e) (λY qt=>R (.error e) qt) (λe' qt=>R (.error e') qt) Z) {s with heap:=p,toks:=X}):mO (eg C.prog C.w) A (.call (.ref fa) args) R s:=by
 refine cps λU J=>?_
 obtain⟨o,ho,DH⟩:=F.ho
 refine J ?_;clear J U
 have H:∀a o,C.h₀.get? a=Bc o->s.heap.get? a=Bc o:=I.tok
 refine B' (by have :=N.dp;exact xi) (H _ _ ho) DH F.sA F.sY F.bd (F.cd.keeps H) (bt _ _ _ _ ?_)
 refine aa F.rQ ?_
 have kd:∀x∈ns,∀L:a7,fd.scope.names.lookup x=Bc .local\/(fd.scope.names.lookup x=Bc .cell/\((Rk (L+1) fd.scope.names []).lookup x).isSome=D1):=λx m L=>by
  rcases F.kinds x m with q|q
  .exact .inl q
  .exact .inr ⟨q,cellsFrom_some (.inr (δ q))⟩
 refine aql F.hk (λx hx=>?_) λc O s1 P=>?_
 .have :=(χ (show(x.1,x.2)∈_ from hx)).1;exact kd x.1 (ar4 this) _
 have W:c.scope=fd.scope:=aa O rfl
 have e2:c.frame=Bc c.locals:=aa O rfl
 have e3:c.cells=Rk (s.heap.objs.size+1) fd.scope.names []:=aa O rfl
 have e4:c.globals=Hr:=aa O F.tO
 have e5:c.builtins=Zn:=aa O F.blt
 have e6:s.heap.objs.size<=c.locals:=P.toInCall.fresh
 obtain⟨p,X,rfl⟩:=P.toInCall.same
 refine⟨F.lim.keeps λb o q=>P.toInCall.keep b o (H b o q),?_⟩
 obtain⟨t,I1,r1,Z6⟩:=I.dead.call (j:=ns.length-aW) P (by rw[W];exact F.hk) e2 (GK.mono (.refl _) wx) (by refine aa Gh (aa (TB F.np) ?_);exact(aqr _ _).symm) (aa qc (aa Gh (aa (TB F.np) rfl))) (aa qc (by have :=F.np;lia)) F.nd (aa W (aa e3 (λx m=>kd x m _)))
 have ex:∀a o,s.heap.get? a=Bc o->p.get? a=Bc o:=P.toInCall.keep
 have sz:s.heap.objs.size<=p.objs.size:=by
  refine cps λU J=>?_
  obtain⟨o,_,_,q,_⟩:=P.toInCall.ns
  refine J ?_;clear J U;exact Ej (Lx e6 (ib q))
 have eo:bq (C.push c) c (jy C fd ns lv) (ns.map (fP c.scope c.cells)):=
    { kind:=by rw[W];exact F.hk
      glob:=e4
      blt:=e5
      kd:=λx k q Y=>by unfold aqp;rw[W];exact q
      kf:=λx q=>aL q (F.oW x)
      names:=by exact aa nA (S5 (λy=>EB _ _ y) ns)
      oW:=λx c' m=>by
       refine cps λU J=>?_
       obtain⟨z,_,e⟩:=List.mem_map.mp m
       refine J ?_;clear J U
       unfold fP at e;split at e<;>cases e
      dN:=F.dN
      nm:=rfl
      gk:=rfl
      fk:=rfl
      kl:=rfl
      kt:=rfl
      vg:=rfl
      kb:=rfl
      lam:=λe=>by have e:vW C fd=D1:=e;unfold vW at e;simp only[ji]at e;exact aa O ⟨eq_of_beq e.1,beq_iff_eq.mp e.2⟩
      lp:=rfl}
 have ot:jz (C.push c) (A.deeper c) c c.locals C.fr:=⟨by show A.frames.map (c::.)=_;rw[N.fr];rfl,rfl,e2⟩
 have nO:bx (C.push c) (A.deeper c) (n+lv) D1:=⟨λe=>N.hd e,by have :=N.dp;show A.depth+1+3*(n+lv)+3<_;exact pX,by have :=N.un;show A.units+3+20*(n+lv)+100<_;exact pX,by show A.frames.map (c::.)=_;rw[N.fr];rfl⟩
 have yk:∀{d:Ro}{G:ai CA}{B:St}{i:ff},Inv (C.push c) c d (ns.map (fP c.scope c.cells)) G B i->Go (C.push c) t d cs G p i->Inv C u d.out [] G ⟨[],B.cells⟩ i/\Go C w d.out cs G s.heap i:=λM g2=>I.leave ro M g2 ex sz r1 λL q=>by rw[e2]at q;cases q;exact e6
 have oz:∀{d:Ro}{G:ai CA}{B:St}{i:ff}{a:a7},Inv (C.push c) c d (ns.map (fP c.scope c.cells)) G B i->Go (C.push c) t d cs G p i->d a=Bc .f->t a≠Bc .f->s.heap.objs.size<=a:=λ{d G B i a}M g2 K z2=>by
  rcases r1 a with q|q
  .exact q
  .by_cases eQ:a<s.heap.objs.size
   .exfalso;cases V:w a with|some r=>
rw[Ro.tJ V]at q
rcases ro a r V with rfl|⟨j,rfl⟩
.exact z2 q
.rw[NY I M g2.cs V]at K;cases K|none=>cases hg:s.heap.get? a with|none=>rw[Ro.Cv ⟨eQ,hg,V⟩]at q;rw[g2.sc a q]at K;cases K|some o=>rw[Ro.A2 hg,V]at q;rw[(g2.st a o ⟨ex a o hg,q⟩).2]at K;cases K
   .exact sK eQ
 exact h! (k c t p X I1 eo ot nO (λd G B i M g2=>yk M g2) λd G B i a M g2 K z2=>oz M g2 K z2)
end
section
variable{M:Model}{A:ip}{E:Yj->a8->Prop}{s:a8}{c:gn}
theorem Qv(l r:ai hI)(c:gn):DP (l++r) c=(DP l c>>=λf=>match f with|.next=>DP r c|f=>pure f):=by induction l with|nil=>rfl|cons p l i=>refine aa Lq ?_;rw[execs_cons,execs_cons,bind_assoc];congr 1;funext f;cases f<;>first|exact i|rfl
theorem S2(h:da M A (DP l c) (λf b=>match f with|.next=>da M A (DP r c) Q E b|f=>Q f b) E s):da M A (DP (l++r) c) Q E s:=by rw[Qv];refine ct (nL h (λf b k=>?_) λY Y a=>a);cases f<;>first|exact k|exact gP k
end
theorem Ep{b:Str}(h:a.cps.toList=b.cps.toList):a=b:=by cases a;cases b;simp only[Str.mk.injEq];exact Array.toList_inj.mp h
theorem Rd.str_inv{S:a7->Obj->Prop}(r:Rd P cs S (.str a.cps.toList) v):∃t,v=.str a t:=by exact r.HJ λs t h=>aa (Ep h.symm) ⟨t,rfl⟩
theorem JK{S:a7->Obj->Prop}{b:kJ}(r:Rd P cs S (.str a.cps.toList) b.key)(h:pM P (.str a.cps.toList) b.hash):∃t,b=⟨lF P a,.str a t,b.val⟩:=by obtain⟨t,c⟩:=r.str_inv;have h:b.hash=lF P ⟨a.cps.toList.toArray⟩:=h;have d:(⟨a.cps.toList.toArray⟩:Str)=a:=Ep (by simp);rw[d]at h;obtain⟨f,i,j⟩:=b;dsimp only at c h;subst c h;exact⟨t,rfl⟩
theorem OW{S:a7->Obj->Prop}(r:cL P cs S [D.str ("left":Str).cps.toList,D.str ("mixed":Str).cps.toList] [D.val (.ref b),D.int m] es):∃t a c,es=[⟨lF P "left",.str "left" t,.ref b⟩,⟨lF P "mixed",.str "mixed" a,.int m c⟩]:=by obtain⟨s,y,u,w,d,rfl,k,h,v,r⟩:=r.iZ;cases d;obtain⟨A,B,C,F,f,rfl,i,j,l,r⟩:=r.iZ;cases f;obtain⟨_,rfl⟩:=r.jf;obtain⟨t,d⟩:=JK k h;obtain⟨a,f⟩:=JK i j;obtain⟨c,p⟩:=l.ofInt;exact FE t a c (aa d (aa f (aa p (aa v.CV rfl))))
section
variable{C:Cx}{N:Env}{n i lv aW:ak}{fa:a7}{fd:s8}{p1 p2:hI}{x y:Str}{q1 q2 q3 q4 q5 q6:Pos}{i1 i2:ak}{aE:ai Yj}{j:ai D}{ns:ai Str}{b1 b2:S}{d:ai Cell}
end
theorem Vz{S:a7->Obj->Prop}:∀{w:ai Yj}{l:ai a0},Fu w l->aC P cs S (l.map .int) w:=by intro w l a;induction a with|nil=>exact .nil|cons i t r b=>exact .cons (.int _ _) b
noncomputable abbrev xI:ai ak:=("left":Str).cps.toList
noncomputable abbrev nJ:ai ak:=("mixed":Str).cps.toList
theorem F7{S:a7->Obj->Prop}:cL P cs S [.str xI,.str nJ] [.val (.ref b),.int m] [⟨lF P "left",.str "left" t1,.ref b⟩,⟨lF P "mixed",.str "mixed" t2,.int m t3⟩]:=by haveI h:∀a:Str,(⟨a.cps.toList.toArray⟩:Str)=a:=λa=>Ep rfl;exact .cons (.str _ _) (by show lF P "left"=lF P ⟨("left":Str).cps.toList.toArray⟩;rw[h]) (.val _) (.cons (.str _ _) (by show lF P "mixed"=lF P ⟨("mixed":Str).cps.toList.toArray⟩;rw[h]) (.int _ _) .nil)
section
variable{C:Cx}{d:gn}{j:Ro}{f:ai Pl}{cs:ai CA}{M:St}{s:a8}{A:ip}{c:TC}{X:Yj->a8->Prop}
structure xU(C:Cx)(env:gn)(ρ:Ro)(af:ai Pl)(cs:ai CA)(h:ff)(i r:ak)(l:ai a0)(m:a0)(a b:a7)(vs:ai Yj)(n k:ak)(t1 t2 t3:Tok):Prop where
v:∃p,af[i]?=Bc p/\dB env h p (Bc (.ref a))
p:cs[r]?=Bc ⟨a,Bc b⟩
is:Fu vs l
hb:h.get? b=Bc (bc vs n)
ha:h.get? a=Bc (bP [⟨lF C.w.params "left",.str "left" t1,.ref b⟩,⟨lF C.w.params "mixed",.str "mixed" t2,.int m t3⟩] k)
ra:ρ a=Bc (.cell r)
rb:ρ b=Bc (.cell r)ne:a≠b
theorem uj(I:Inv C d j f cs M s.heap)(y:M.l[i]?=Bc (.sh (.ref r)))(H:M.cells[r]?=Bc (.bW l m)):∃a b J h k K L N,xU C d j f cs s.heap i r l m a b J h k K L N:=by haveI O:=(List.getElem?_eq_some_iff.mp y).1;have B:i<f.length:=aD I.dH O;refine fN (I.vars i _ _ (ma B) y) λoj ov P Q Y Y=>?_;refine aU Q.inv λY t=>aj t λv U V=>aj V.oK λp F u=>?_;subst U u;refine bD (I.cells r _ _ H F) λw G W=>?_;cases w with|bW Z z2 z3=>exact⟨_,_,_,_,_,_,_,_,⟨(aF _ (ma B) P),F,Z,z2,z3,G _ (.head _),G _ (.tail _ (.head _)),λu=>(List.nodup_cons.mp W).1 (u▸.head _)⟩⟩
variable{i r:ak}{l:ai a0}{m:a0}{a b:a7}{w:ai Yj}{n k:ak}{J F K:Tok}{x:Str}{H G L:Pos}{B:ak}
theorem ND(V:xU C d j f cs s.heap i r l m a b w n k J F K)(u:bq C d c f)(t:c.bN i x=D1)(h:∀y,Q (.ref b) {s with toks:=y}):da (eg C.prog C.w) A (jM (.Subscript (.Name x H) (.Constant (.str "left") B G) L) d) Q X s:=by refine aj V.v λp I N=>DY (eJ u t I N (Uk ?_));refine iJ ⟨_,V.ha,rfl⟩ slot_dict_getitem.lookup (zV (cs:=cs) (S:=Sb j s.heap) (κ:=dS C) V.ha F7 (by rfl) rfl (.str _ _) λv O=>?_);exact aa O.CV (h _)
theorem Oo(V:xU C d j f cs s.heap i r l m a b w n k J F K)(I:bq C d c f)(t:c.bN i x=D1)(h:∀N u,Q (.int m u) {s with toks:=N}):da (eg C.prog C.w) A (jM (.Subscript (.Name x H) (.Constant (.str "mixed") B G) L) d) Q X s:=by refine aj V.v λp O P=>DY (eJ I t O P (Uk ?_));refine iJ ⟨_,V.ha,rfl⟩ slot_dict_getitem.lookup (zV (cs:=cs) (S:=Sb j s.heap) (κ:=dS C) (x:=.str nJ) V.ha F7 rfl rfl (.str _ _) λv y=>?_);refine eE y.int_inv λu U=>?_;clear y;refine aa U (h _ _)
theorem K9{U W:Pos}(V:xU C d j f cs s.heap i r l m a b w n k J F K)(Z:bq C d c f)(t:c.bN i x=D1)(hu:A.units+100<Bz)(h:∀u y,(∀a p,s.heap.get? a=Bc p->y.get? a=Bc p)->s.heap.objs.size<=y.objs.size->Q (!l.isEmpty) {s with heap:=y,toks:=u}):da (eg C.prog C.w) A (GZ (.Compare (.Subscript (.Name x H) (.Constant (.str "left") B G) L) [.NotEq] [.List [] U] W) d whole) Q X s:=by
 refine B! ?_ rfl
 refine ND V Z t λu=>am (SF ⟨aa l3 (by decide),?_⟩)
 have v:(l.map D.int).all (dat 7)=D1:=by rw[SN];exact lg.mpr λY Y=>rfl
 haveI I:aC C.w.params cs (Sb j s.heap) (l.map .int) w:=Vz V.is
 refine eE (E3 tU _ v I) λas N=>?_
 haveI k:=cn s.heap (bc [] 0)
 haveI O:Ld (s.heap.push (bc [] 0)) (.ref b) (.list (fD (l.map .int))) (b::as):=V! k (.list V.hb rfl rfl (N))
 haveI Bk:Ld (s.heap.push (bc [] 0)) (.ref s.heap.objs.size) (.list []) [s.heap.objs.size]:=.list (kK _ rfl) rfl rfl (by simpa using asj)
 haveI P:SS (.list (fD (l.map .int)))=D1:=qZ (show dat 8 (.list (l.map .int))=D1 from v)
 haveI AY:SS (.list [])=D1:=qZ (show dat 8 (.list [])=D1 from rfl)
 haveI ee:R8 (.list (fD (l.map .int))) (.list [])=l.isEmpty:=by
  clear P I O N h V
  refine(xP 8 (.list (l.map .int)) (.list []) v rfl).trans ((MY _).trans ?_)
  clear v;cases l<;>rfl
 refine ne_dataH (s:={s with heap:=s.heap.push (bc [] 0),toks:=u}) O Bk P AY xy (aa ee (C8 (h u _ k (dY _ _))))
theorem SK{q4 q5 q6:Pos}(V:xU C d j f cs s.heap i r (y::l') m a b w n k J F K)(h:bq C d c f)(t:c.bN i x=D1)(hl:w.length<=1000)(P:(q4.endLine==q6.line)=D1)(q:∀v u I n' U,Fu I l'->U.get? b=Bc (bc I n')->MJ b s.heap U->Q (.int y u) {s with heap:=U,toks:=v}):da (eg C.prog C.w) A (jM (.Call (.Attribute (.Subscript (.Name x H) (.Constant (.str "left") B G) L) "pop" q4) [.Constant (.int 0) j2 q5] [] q6) d) Q X s:=by
 refine Ch (C5 rfl) rfl P (ND V h t λv=>?_)
 obtain⟨W,I,rfl,N,rfl,B5⟩:∃W I,w=W::I/\∃N,W=.int y N/\Fu I l':=by
  have :=V.is
  clear hl V;cases this with|cons _ N r=>exact⟨_,_,rfl,N,rfl,r⟩
 have O:=V.hb
 refine pa ("list") ("list.pop") sB On aqc ⟨_,O,rfl⟩ (λb' q=>by cases q;exact aF _ O rfl) ?_
 refine AI (P:=λY=>Cm) rfl (λY Y=>aF .machine (.inr (.inl rfl)) (Tj rfl)) (Lw (Eh (Lr (Lu ⟨trivial,?_⟩))))
 haveI Z:(Mh y N::I).toArray.size<=Ab:=aa lT (aa l3 q0)
 refine Zy On ⟨_,O,rfl⟩ aq5 (PySem.F.args_list_pop_2 _ _) (aup b (Mh y N::I).toArray n 0 _ 0 (.int y N) rfl (by simp[DU]) rfl Z) ⟨O,?_⟩
 haveI er:(Mh y N::I).toArray.eraseIdxIfInBounds 0=I.toArray:=by haveI h2:=kl_erase [] I (Mh y N);simpa using h2
 haveI p:=Ln (f:=λxs=>xs.eraseIdxIfInBounds 0) O;rw[er]at p;exact q _ _ I _ _ B5 (p) (Ls ..)
end
section
variable{C:Cx}{n lv:ak}{fa:a7}{fd:s8}{x y:Str}{a1 a2 a3 a4 a5 a6 b1 b2 b3 b4 b5 b6 b7 b8 b9 c1 c2 c3 c4 c5 c6 c7 c8 c9 pq pG n9 oM d1 d2 d3 d4 d5 d6 d7 d8:Pos}{j1 j2 j3 j4 j5 j6 j7 j8 j9 pV:ak}{aE:ai Yj}{dflt:ai D}{cells:ai Cell}{r:ak}{m:a0}
noncomputable abbrev vm(x y:Str)(a1 a2 a3 a4 a5 a6 b1 b2 b3 b4 b5 b6 b7 b8 b9:Pos)(j1 j2 j3:ak):hI:=.If (.Compare (.Subscript (.Name x a1) (.Constant (.str "left") j1 a2) a3) [.NotEq] [.List [] a4] a5) [.Return (Bc (.BinOp (.Call (.Attribute (.Subscript (.Name x b1) (.Constant (.str "left") j2 b2) b3) "pop" b4) [.Constant (.int 0) j3 b5] [] b6) .Mod (.Name y b7) b8)) b9] [] a6
noncomputable abbrev wX(x:Str)(c1 c2 c3 c4 c5 c6 c7 c8 c9 pq pG n9 oM:Pos)(j4 j5 j6 j7 j8:ak):hI:=.Assign [.Subscript (.Name x c1) (.Constant (.str "mixed") j4 c2) c3] (.BinOp (.BinOp (.BinOp (.Subscript (.Name x c4) (.Constant (.str "mixed") j5 c5) c6) .Mult (.Constant (.int 4801) j6 c7) c8) .Add (.Constant (.int 97) j7 c9) pq) .Mod (.Constant (.int 1000003) j8 pG) n9) oM
noncomputable abbrev xe(x y:Str)(d1 d2 d3 d4 d5 d6 d7 d8:Pos)(j9 pV:ak):hI:=.Return (Bc (.BinOp (.BinOp (.Subscript (.Name x d1) (.Constant (.str "mixed") j9 d2) d3) .FloorDiv (.Constant (.int 7) pV d4) d5) .Mod (.Name y d6) d7)) d8
theorem Fc(F:FnAt C fa fd stmts aE dflt ns aW lv body)(base:∀a o,C.h₀.get? a=Bc o->s.heap.get? a=Bc o)(FR:vs.length=aW):z8 s fd ⟨vs,[]⟩ ((ns.take aW).zip vs):=by have h:=F.binds base (mu FR) (aa FR (zI _ _));rw[FR,m?,P?,Φ,lH]at h;exact h
theorem OD{st:St}{i:ak}(I:Inv C env ρ af cs st h)(hi:st.l[i]?=Bc (.sh (.int k))):∃p t,af[i]?=Bc p/\dB env h p (Bc (.int k t)):=by have qm:i<af.length:=aD I.dH ((List.getElem?_eq_some_iff.mp hi).1);refine fN (I.vars i _ _ (ma qm) hi) λoj ov vj xj Y Y=>?_;refine aU xj.inv λY z=>aj z λv e r=>r.ofInt.elim λt e2=>dm _ t (ma qm) (e2▸e▸vj)
section
variable{c:TC}{env:gn}{ρ:Ro}{af:ai Pl}{cs:ai CA}{st:St}{s:a8}{A:ip}{Q:Flow->a8->Prop}{X:Yj->a8->Prop}
noncomputable abbrev ad3(x y:Str)(a1 a2 a3 a4 a5 a6 b1 b2 b3 b4 b5 b6 b7 b8 b9 c1 c2 c3 c4 c5 c6 c7 c8 c9 pq pG n9 oM d1 d2 d3 d4 d5 d6 d7 d8:Pos)(j1 j2 j3 j4 j5 j6 j7 j8 j9 pV:ak):ai hI:=[vm x y a1 a2 a3 a4 a5 a6 b1 b2 b3 b4 b5 b6 b7 b8 b9 j1 j2 j3,wX x c1 c2 c3 c4 c5 c6 c7 c8 c9 pq pG n9 oM j4 j5 j6 j7 j8,xe x y d1 d2 d3 d4 d5 d6 d7 d8 j9 pV]
theorem adW(I:Inv C env ρ af cs st s.heap)(eo:bq C env c af)(tx:c.bN 0 x=D1)(ty:c.bN 1 y=D1)(hu:A.units+100<Bz)(h0:st.l[0]?=Bc (.sh (.ref r)))(h1:st.l[1]?=Bc (.sh (.int k)))(yv:(b4.endLine==b6.line)=D1)(hc:st.cells[r]?=Bc (.bW (y0::l') m))(hl:(y0::l').length<=1000)(hm:dE .Mod (.int y0) (.int k)=Bc (.sh (.int d)))(q:∀h' tk u,Inv C env ρ af cs ⟨st.l,st.cells.set r (.bW l' m)⟩ h'->Go C ρ ρ cs cs s.heap h'->Q (.ret (.int d u)) {s with heap:=h',toks:=tk}):da (eg C.prog C.w) A (DP (vm x y a1 a2 a3 a4 a5 a6 b1 b2 b3 b4 b5 b6 b7 b8 b9 j1 j2 j3::rest) env) Q X s:=by
 refine qz (uj I h0 hc) λa b vv nn kk t1 t2 t3 V=>J9 (wpAny_If (K9 V eo tx hu λtk h' k1 sz=>?_))
 have I2:=I.grow k1 sz
 have g2:=iz (C:=C) ρ cs k1 sz;refine qz (uj (s:={s with heap:=h',toks:=tk}) I2 h0 hc) λa b vv nn kk t1 t2 t3 V=>aa (show(!(y0::l').isEmpty)=D1 from rfl) (aa (eI rfl) ?_);have hlen:vv.length<=1000:=aa (HD V.is) hl;refine J9 (lw (Hs (SK V eo tx hlen yv λbF u cX n' h2 B5 hb' sb=>?_)));obtain⟨I3,g3,_⟩:=I2.Bd V.p (mu sb.1.symm) (λc o e nr=>(sb.2 c λz=>nr (by subst z;exact V.rb)).trans e) (.bW B5 hb' ((sb.2 a V.ne).trans V.ha));refine aS (OD I3 h1) λp1 tt e1 e2=>eJ eo ty e1 e2 (AE hm λv fH=>?_);exact q h2 fH v I3 (g2.trans g3)
theorem Td{Q:ur->a8->Prop}(I:Inv C env ρ af cs st s.heap)(eo:bq C env c af)(tx:c.bN 0 x=D1)(h0:st.l[0]?=Bc (.sh (.ref r)))(hc:st.cells[r]?=Bc (.bW [] m))(q:∀h' tk,Inv C env ρ af cs ⟨st.l,st.cells.set r (.bW [] m')⟩ h'->Go C ρ ρ cs cs s.heap h'->Q () {s with heap:=h',toks:=tk}):da (eg C.prog C.w) A (jM (.Name x c1) env) (λov lD=>da (eg C.prog C.w) A (jM (.Constant (.str "mixed") j4 c2) env) (λiv DW=>da (eg C.prog C.w) A (setItem ov iv (.int m' v)) Q X DW) X lD) X s:=by
 refine qz (uj I h0 hc) λa b vv nn kk t1 t2 t3 V=>aj V.v λp0 z1 z2=>eJ eo tx z1 z2 (Uk ?_)
 have hp:putK dJ nJ (.str nJ) (.int m') [.str xI,.str nJ] [.val (.ref b),.int m]=Bc ([.str xI,.str nJ],[.val (.ref b),.int m']):=by rfl
 have hU:[D.str xI,D.str nJ].Nodup:=List.nodup_cons.mpr ⟨λmm=>aL (D.str.inj (hX.mp mm)) (by decide),iU⟩
 have rr:cL C.w.params cs (Sb ρ s.heap) [.str xI,.str nJ] [.val (.ref b),.int m] _:=F7 (t1:=t1) (t2:=t2) (t3:=t3)
 refine aj (En V.ha rr (Nx (κ:=dS C) hp) hU) λaP kv AW=>?_
 have hx:(dS C).knd.is ((dS C).e nJ) (.str "mixed" s.toks)=D1:=(dS C).rd (cs:=cs) (S:=Sb ρ s.heap) (d:=.str nJ) rfl (.str _ _);refine τ hx AW (λh6 A4 sb=>?_) (aa kv.len (aa l3 (by decide)));refine Bt A4 λo' nE ep y1 y2 y3 y4 y5 y6=>?_;have q0:=Br y2 y3;subst q0;have Cb:=(KV.put rfl (Rd.int m' v) kv hU hp).1;refine FQ (OW (Cb.back y5 y4)) λw1 w2 w3 Em=>?_;rw[Em]at y1;obtain⟨I6,Gk,_⟩:=I.Bd V.p (mu sb.1.symm) (λc o e nr=>(sb.2 c λz=>nr (by subst z;exact V.ra)).trans e) (.bW V.is ((sb.2 b (ng V.ne)).trans V.hb) y1);exact q h6 _ I6 Gk
theorem RL(I:Inv C env ρ af cs st s.heap)(eo:bq C env c af)(tx:c.bN 0 x=D1)(ty:c.bN 1 y=D1)(hu:A.units+100<Bz)(h0:st.l[0]?=Bc (.sh (.ref r)))(h1:st.l[1]?=Bc (.sh (.int k)))(hc:st.cells[r]?=Bc (.bW [] m))(g1:dE .Mult (.int m) (.int 4801)=Bc (.sh (.int e1)))(g2:dE .Add (.int e1) (.int 97)=Bc (.sh (.int e2)))(g3:dE .Mod (.int e2) (.int 1000003)=Bc (.sh (.int m')))(g4:dE .FloorDiv (.int m') (.int 7)=Bc (.sh (.int e3)))(g5:dE .Mod (.int e3) (.int k)=Bc (.sh (.int d)))(q:∀h' tk u,Inv C env ρ af cs ⟨st.l,st.cells.set r (.bW [] m')⟩ h'->Go C ρ ρ cs cs s.heap h'->Q (.ret (.int d u)) {s with heap:=h',toks:=tk}):da (eg C.prog C.w) A (DP (ad3 x y a1 a2 a3 a4 a5 a6 b1 b2 b3 b4 b5 b6 b7 b8 b9 c1 c2 c3 c4 c5 c6 c7 c8 c9 pq pG n9 oM d1 d2 d3 d4 d5 d6 d7 d8 j1 j2 j3 j4 j5 j6 j7 j8 j9 pV) env) Q X s:=by
 refine qz (uj I h0 hc) λa b vv nn kk t1 t2 t3 V=>J9 (wpAny_If (K9 V eo tx hu λtk h' k1 sz=>?_))
 have I2:=I.grow k1 sz
 have gg:=iz (C:=C) ρ cs k1 sz
 refine qz (uj (s:={s with heap:=h',toks:=tk}) I2 h0 hc) λa b vv nn kk t1 t2 t3 V=>aa (show(!([]:ai a0).isEmpty)=Un from rfl) (aa (ej (by decide)) ?_)
 refine Nu (J9 (as3 ?_ (mR rfl _ _ _)))
 refine Hs (Hs (Hs (Oo V eo tx λbF u=>zA (s:={s with heap:=h',toks:=bF}) g1 λu3 fH=>zA (s:={s with heap:=h',toks:=fH}) g2 λu4 l8=>zA (s:={s with heap:=h',toks:=l8}) g3 λu5 kP=>?_)))
 refine Td (s:={s with heap:=h',toks:=kP}) I2 eo tx h0 hc λh6 AA I6 Gk=>J9 (lw (Hs (Hs ?_)))
 have hr:(st.cells.set r (.bW [] m'))[r]?=Bc (Cell.bW [] m'):=by exact aa (UQ (List.getElem?_eq_some_iff.mp hc).1) rfl
 refine qz (uj (M:=⟨st.l,st.cells.set r (.bW [] m')⟩) (s:={s with heap:=h6,toks:=AA}) I6 h0 hr) λa b vv nn kk t1 t2 t3 V=>Oo (s:={s with heap:=h6,toks:=AA}) V eo tx λrV u7=>zA (s:={s with heap:=h6,toks:=rV}) g4 λu8 Bi=>aS (OD I6 h1) λp1 tt f1 f2=>eJ (s:={s with heap:=h6,toks:=Bi}) eo ty f1 f2 (AE (s:={s with heap:=h6,toks:=Bi}) g5 λv9 Tv=>?_);exact q h6 Tv v9 I6 (gg.trans Gk)
end
theorem XZ(F:FnAt C fa fd [vm x y a1 a2 a3 a4 a5 a6 b1 b2 b3 b4 b5 b6 b7 b8 b9 j1 j2 j3,wX x c1 c2 c3 c4 c5 c6 c7 c8 c9 pq pG n9 oM j4 j5 j6 j7 j8,xe x y d1 d2 d3 d4 d5 d6 d7 d8 j9 pV] aE dflt [x,y] 2 lv [.av,.av,.av])(yv:(b4.endLine==b6.line)=D1)(hc:cells[r]?=Bc (.bW (y0::l') m))(hl:(y0::l').length<=1000)(hm:dE .Mod (.int y0) (.int k)=Bc (.sh (.int d))):lA C (n+lv+1) D1 (.ref fa) [.ref r,.int k] cells (.sh (.int d)) (cells.set r (.bW l' m)):=by
 intro A ρ cs s vs env R rm I ro rd q
 refine Ei F rfl rm I ro (Fc F I.tok rd.len) rd λfe aG h1 aQ I1 eo ot nO vZ oz=>?_;have tx:(jy C fd [x,y] lv).bN 0 x=D1:=fm (Bc x);have ty:(jy C fd [x,y] lv).bN 1 y=D1:=fm (Bc y);refine adW (C:=C.push fe) I1 eo tx ty nO.kH rfl rfl yv hc hl hm λh' tk u I' g'=>?_;obtain⟨Io,go⟩:=vZ _ _ _ _ I' g';exact q _ _ h' tk _ [] Io go (mh _) (.sh (.int _ _)) nM .nil
theorem QX(F:FnAt C fa fd [vm x y a1 a2 a3 a4 a5 a6 b1 b2 b3 b4 b5 b6 b7 b8 b9 j1 j2 j3,wX x c1 c2 c3 c4 c5 c6 c7 c8 c9 pq pG n9 oM j4 j5 j6 j7 j8,xe x y d1 d2 d3 d4 d5 d6 d7 d8 j9 pV] aE dflt [x,y] 2 lv [.av,.av,.av])(hc:cells[r]?=Bc (.bW [] m))(g1:dE .Mult (.int m) (.int 4801)=Bc (.sh (.int e1)))(g2:dE .Add (.int e1) (.int 97)=Bc (.sh (.int e2)))(g3:dE .Mod (.int e2) (.int 1000003)=Bc (.sh (.int m')))(g4:dE .FloorDiv (.int m') (.int 7)=Bc (.sh (.int e3)))(g5:dE .Mod (.int e3) (.int k)=Bc (.sh (.int d))):lA C (n+lv+1) D1 (.ref fa) [.ref r,.int k] cells (.sh (.int d)) (cells.set r (.bW [] m')):=by
 intro A ρ cs s vs env R rm I ro rd q
 refine Ei F rfl rm I ro (Fc F I.tok rd.len) rd λfe aG h1 aQ I1 eo ot nO vZ oz=>?_;have tx:(jy C fd [x,y] lv).bN 0 x=D1:=fm (Bc x);have ty:(jy C fd [x,y] lv).bN 1 y=D1:=fm (Bc y);refine RL (C:=C.push fe) I1 eo tx ty nO.kH rfl rfl hc g1 g2 g3 g4 g5 λh' tk u I' g'=>?_;obtain⟨Io,go⟩:=vZ _ _ _ _ I' g';exact q _ _ h' tk _ [] Io go (mh _) (.sh (.int _ _)) nM .nil
end
section
variable{C:Cx}{A:ip}{tg:dt}
def stF(C:Cx)(I l:a7)(v:ai Yj)(a:ak):ai D->ai CA->(a7->Obj->Prop)->ff->Prop:=λd cs S h=>∃i,h.IsListIter I l i/\h.get? l=Bc (bc v a)/\aC C.w.params cs S d (v.drop i)
theorem abZ(M:A.handled=VG)(N:l≠I):Iter C A tg (.ref I) [I,l] (stF C I l vs n)where
frame:=λB c s k=>cJ B λi H F G=>dX i (H.at λo e=>k I (.head _) o e) (k l (.tail _ (.head _)) _ F) (G.mono c s)
next:=λ{d ds cs O s Q E}w u B q=>by
 refine cJ B λi H F G=>?_;clear B
 refine dG G.iZ λv r e rd P=>?_
 obtain⟨U,V⟩:=vU e
 refine as2 H ⟨_,F,rfl,n,rfl⟩ (by simpa using U) λK J sb=>aF v rfl ?_
 refine cJ (id J) λo W X Y=>?_
 haveI k:=kF (W:=[I,l]) (.head _) sb.extBut;haveI L:=AF w k;exact w9 W X Y rfl (q v K s.toks k (mu sb.1.symm) ⟨i+1,J,(sb.2 l N).trans F,aa V (P.mono (.refl _) L)⟩ (rd.mono (.refl _) L))
done:=λ{cs O s Q E}w B q=>by
 refine cJ B λi H F G=>?_;clear B
 haveI e:vs.drop i=[]:=by cases Z:vs.drop i with|nil=>rfl|cons _ _=>rw[Z]at G;cases G
 refine jd (B? M H ⟨_,F,rfl,n,rfl⟩ ?_ λK x j=>⟨rfl,q K s.toks (kF (.head _) x) j⟩)
 haveI :=List.drop_eq_nil_iff.mp e;simpa using this
self:=λB q=>eE B λi h=>asi h.1 q
end
theorem cq.toL{cs :ai CA}(b:Go C l r s cs j h)(c:cq C W r t cs k h p)(w:∀a∈W,l a=Bc .f->∀d,j.get? a=Bc d->p.get? a=Bc d):Go C l t s k j p:=⟨b.cs.trans c.cs,λa d f=>c.st a d (b.st a d f),λa f=>⟨(c.kp a (b.kp a f).1).1,λi=>if m:a∈W then fA.fh (w a m f)else((b.kp a f).2 i).trans ((c.kp a (b.kp a f).1).2 m i)⟩,λa f=>c.sc a (b.sc a f),gY b.sz c.sz⟩
theorem aer{S:a7->Obj->Prop}{l:ai Yj}(r:aC P cs S [] (l.drop i)):¬i<l.length:=Nat.not_lt.mpr (List.drop_eq_nil_iff.mp (List.length_eq_zero_iff.mp r.len))
section
variable{C:Cx}{N:Env}{n:ak}{u:T->St->R}
theorem V7(iE:gA C n u)(P:c.hn=D1)(t2:ia c f tg t=D1)(t4:bI (hJ c f) b bb=D1)(tx:c.bN i y=D1){U:St}(V:bx C A (n+c.lv) c.hn)(ot:jz C A env L outer)(eo:bq C env c M)(I:Inv C env J M cs U s.heap)(hp:M[i]?=Bc p)(hv:dB env s.heap p (Bc (.ref a)))(O:s.heap.get? a=Bc (bc vs m))(rd:aC C.w.params cs (Sb J s.heap) G vs)(wa:cF C M J [a])(k:aX C env J M cs s c.hn L Q X (bQ u tg b G U)):da (eg C.prog C.w) A (exec (.For t (.Name y yp) bb [] pos) env) Q X s:=by
 refine a! (eJ eo tx hp hv (u? ⟨_,O,rfl,m,rfl⟩ ?_)) λd=>rfl
 refine pF (tE I {cls:=.type "list_iterator",data:=.fields #[.ref a,.int 0 0]}) λI1 W k1 w1=>?_
 have Z:J s.heap.objs.size=VG:=I.none_of _ (ir _)
 have nx:∀{K:ff},K.get? a=Bc (bc vs m)->∀b∈[s.heap.objs.size,a],J b=Bc .f->∀l,s.heap.get? b=Bc l->K.get? b=Bc l:=λ{K}v b H r l w=>(hZ.mp H).elim (λeb=>bh (Z.symm.trans (eb▸r))) λH=>by rw[hX.mp H]at w⊢;exact v.trans (O.symm.trans w)
 refine Nv iE P t2 t4 V ot eo (abZ (V.hd P) (l4 (ib O))) (λB d h=>cq.toL B d (nx (h.elim λY h=>h.2.1))) (λ{aI ax st2 h2 bF Q' F}I2 g2 m9 mV w=>cJ mV λj x1 x2 x3=>jd (B? (V.hd P) x1 ⟨_,x2,rfl,m,rfl⟩ (wv.trans (List.getElem?_eq_none (Nat.not_lt.mp (aer x3)))) λK d sz=>bD (I2.jW (λb H=>m9 b (hX.mp H▸.head _)) (kF (.head _) d) sz) λI3 g3 Y=>w K bF I3 (cq.to g2 g3 λb H=>hX.mp H▸Z))) ⟨_,_,U,_,s.toks,G,rfl,rfl,I1,W,λb H=>(hZ.mp H).elim (λeb=>eb▸cF.of I1 I.out (λa m=>(hX.mp m).symm▸⟨w1 _ (.head _),Z⟩) _ (.head _)) λH=>wa.go W.x _ H,(dX 0 ⟨_,kK _ rfl,rfl,rfl⟩ (cn _ _ _ _ O) (rd.mono (.refl _) W.st)),k⟩
end
theorem Inv.Ql{b:St}(I:Inv C env r W cs b h)(f:W[i]?=Bc p)(t:dB env h p (Bc v)):Inv C env r W cs ⟨b.l.set i (.sh (.val v)),b.cells⟩ h:={I with
dH:=List.length_set.trans I.dH
vars:=λj a s l c=>by
 by_cases d:i=j
 .have c:=(List.getElem?_set_self').symm.trans ((gO (λk=>(b.l.set i (.sh (.val v)))[k]?) d).trans c)
  rw[ma ((I.dH.symm▸(List.getElem?_eq_some_iff.mp f).1:i<b.l.length))]at c;exact eF c▸eF (f.symm.trans ((gO (W[.]?) d).trans l))▸(hY ([]) (Bc v) t (.sh (.val v)) (λY m=>aL m lR) .nil)
 .exact I.vars j a s l ((Uz d).symm.trans c)}
theorem LV{t:St}(I:Inv C env s W cs t h)(d:s b=Bc (.o i)):cF C W (s.jA i) [b]:=λa m=>(hX.mp m).symm▸⟨Ro.Ey d,λj=>Rl.noConfusion (eF (d.symm.trans (j▸I.cM))),λf m j=>aU (I.eS f m) λY k=>dG k λL l u r Y=>by have r:=eF (u.symm.trans j)▸r;exact r.elim (λh=>Rl.noConfusion (eF (d.symm.trans h))) λh=>Rl.noConfusion (eF (d.symm.trans h)),λp c v m j=>(I.eT p c v m).elim (λh=>Rl.noConfusion (eF (d.symm.trans (j▸h.2)))) λh=>Rl.noConfusion (eF (d.symm.trans (j▸h.2)))⟩
theorem IT{s:St}{i:ak}(I:Inv C env j W cs s h)(c:s.l[i]?=Bc (.sh d)):∃p v,W[i]?=Bc p/\dB env h p (Bc v)/\Rd C.w.params cs (Sb j h) d v:=by have f:i<W.length:=I.dH▸(List.getElem?_eq_some_iff.mp c).1;exact fN (I.vars i _ _ (ma f) c) λm t k l Y Y=>aU l.inv λY a=>aj a λv b r=>gy _ v (ma f) (b▸k) r
theorem ZQ(t a:Tok):[D.str ("left":Str).cps.toList,D.str ("mixed":Str).cps.toList].Nodup:=List.nodup_cons.mpr ⟨λm=>aL (D.str.inj (hX.mp m)) (by decide),List.nodup_cons.mpr ⟨lR,.nil⟩⟩
section
variable{C:Cx}{c:TC}{G:gn}{r:Ro}{W:ai Pl}{cs:ai CA}{a:St}{s:a8}{A:ip}{Q:Yj->a8->Prop}{X:Yj->a8->Prop}{x y:Str}{p V k U F:Pos}{l P i j:ak}{m:a0}{b:a7}
theorem Yq(I:Inv C G r W cs a s.heap)(Y:bq C G c W)(tx:c.bN i x=D1)(ty:c.bN j y=D1)(H:W[i]?=Bc p1)(Z:dB G s.heap p1 (Bc (.ref b)))(hj:a.l[j]?=Bc (.sh (.int m)))(d:∀B tk J K L f,(∀h t,s.heap.get? h=Bc t->B.get? h=Bc t)->s.heap.objs.size<=B.objs.size->B.get? s.heap.objs.size=Bc (bP [⟨lF C.w.params "left",.str "left" J,.ref b⟩,⟨lF C.w.params "mixed",.str "mixed" K,.int m L⟩] f)->Q (.ref s.heap.objs.size) {s with heap:=B,toks:=tk}):da (eg C.prog C.w) A (jM (.Dict [Bc (.Constant (.str "left") l p),Bc (.Constant (.str "mixed") P V)] [.Name x k,.Name y U] F) G) Q X s:=by
 refine dG (IT I hj) λp2 v M N u=>u.ofInt.elim λtj ev=>?_
 rw[ev]at N
 clear u ev
 have kk:∀h t,s.heap.get? h=Bc t->(s.heap.push (bP [] 0)).get? h=Bc t:=cn s.heap (bP [] 0);have O:=iT I kk (dY s.heap (bP [] 0));refine O' (knd:=(dS C).knd) rfl rfl (List.cons_ne_nil _ _) (zI 2 13) (x? (Uk (eJ (s:={s with heap:=s.heap.push (bP [] 0),toks:=s.toks+1}) Y tx H (O _ (mD H) _ Z) (x? (Uk (eJ (s:={s with heap:=s.heap.push (bP [] 0),toks:=s.toks+1+1}) Y ty M (O _ (mD M) _ N) (ε ?_)))))));clear O H Z M N;refine aj (JV (C:=C) (cs:=cs) (S:=Sb r s.heap) (l:=[(N? "left" s.toks,.ref b),(N? "mixed" (s.toks+1),.int m tj)]) (.cons (.str _ _) (.cons (.str _ _) .nil)) (.cons (.val _) (.cons (.int _ _) .nil)) rfl) λaP kv ca=>dX aP ca ⟨bP [] 0,#[],0,kK _ rfl,(cV rfl rfl rfl),rfl,λw m=>aL m (ar8 _),.nil,.nil⟩ (λB qH sb=>?_);rw[π aP (kv.nodup (ZQ 0 0))]at qH;refine Bt qH λt nE ep z1 z2 z3 z4 z5 z6=>FQ (OW (kv.back z5 z4)) λJ K L Em=>d B _ J K L ep (λh t w=>(sb.2 h (l4 (ib w))).trans (kk h t w)) (sb.1▸dY _ _) (Em▸Br z2 z3▸z1)
end
section
variable{C:Cx}{N:Env}{n w J O:ak}{v:a7}{H:s8}{Y:hI}{t:dt}{I:ai hI}{x y:Str}{p V k U F q6 h q8:Pos}{l P:ak}{aE:ai Yj}{M:ai D}{B:ai Str}{d:S}{f:cO}{L:It}{Z:ai S}{u K:ai Cell}
theorem acf(G:FnAt C v H [Y,.For t (.Name x h) I [] q8,.Return (Bc (.Dict [Bc (.Constant (.str "left") l p),Bc (.Constant (.str "mixed") P V)] [.Name x k,.Name y U] F)) q6] aE M B O J [d,.bA f L Z,.av])(snd:∀fe,gA (C.push fe) n (ev N w))(qc:full.length=O)(l2:O=H.params.args.length){W:a7->ai Slot}{j:ak}(he:ev N w (.ss [d]) ⟨full.map .sh++tI (B.length-O) .ae,u⟩=.ok .ay st1)(hi:st1.l[i]?=Bc (.o Q))(he2:∀b,bQ (ev N w) f Z Q ⟨st1.l.set i (.sh (.val (.ref b))),st1.cells⟩=.ok .ay ⟨W b,K⟩)(zy:∀b,(W b)[i]?=Bc (.sh (.val (.ref b))))(hj':∀b,(W b)[j]?=Bc (.sh (.int m)))(hd:fV Q=Bc is)(hx:B[i]?=Bc x)(hy:B[j]?=Bc y):lA C (n+J+1) D1 (.ref v) full u (.sh (.ref K.length)) (K++[.bW is m]):=by
 intro A ρ cs s vs env X rm x0 ro rd x1
 refine Ei G qc rm x0 ro (Fc G x0.tok (rd.len.trans qc)) rd λfe aG h1 aQ I1 eo ot nO vZ oz=>eE G.tr λft tP=>?_
 have tP:=iA tP
 refine S2 (l:=[Y]) (snd fe (jy C H B J) ft [d] [Y] (Bool.and_eq_true_iff.mpr ⟨tP.1,rfl⟩) _ (A.deeper fe) fe aG _ cs {s with heap:=h1,toks:=aQ} _ _ fe.locals C.fr nO ot eo I1 ?_)
 refine aa he ?_
 intro ρb csb hb aZ Ib gb
 refine lz (j0 Ib hi) λpb b bv bm e1 e2 LP x2=>aU x2 λKQ Cy=>?_
 have GN:∀{i x},B[i]?=Bc x->(jy C H B J).bN i x=D1:=λx3=>beq_iff_eq.mpr x3
 refine aU (Ib.jA (i:=i)) λIc gc=>?_;have Id:=Ic.Ql e1 e2;rw[U?]at Id;have Fq:=(iA tP.2).1;cases ft with|zero=>exact no Fq|succ x4=>
have Pf:(D1&&mQ L t&&ia (jy C H B J) x4 f t&&aN.ph (jy C H B J) x4 L (.Name x h)&&bI (hJ (jy C H B J) x4) Z I)=D1:=Fq
clear Fq
refine J9 (V7 (C:=C.push fe) (snd fe) (s:={s with heap:=hb,toks:=aZ}) rfl (iA (iA (iA Pf).1).1).2 (iA Pf).2 (GN hx) nO ot eo Id e1 e2 LP (KQ.mono (.refl _) gc.st) (LV Ib Cy) ?_)
have wb:=LV Ib Cy b (.head _)
refine aa (he2 b) ?_
intro aI ax h2 bF I2 gd
have g2:=(gb.trans gc).trans gd
have MQ:=gd.kp b wb.1
have e3:h2.get? b=Bc (bc bv bm):=(MQ.2 wb.2.1).exact LP wb.2.2.1
refine dG (IT I2 (zy b)) λp1' v' e1 e2 r=>?_
rw[r.CV]at e2
refine J9 (lw (Yq (C:=C.push fe) (s:={s with heap:=h2,toks:=bF}) I2 eo (GN hx) (GN hy) e1 e2 (hj' b) λh' tk t1 t2 t3 ep k2 zt z1=>?_))
clear e1 e2 r Id
have new:∀a∈[h2.objs.size],h2.objs.size<=a/\a<h'.objs.size:=λa mm=>(hX.mp mm).symm▸⟨ir _,ib z1⟩
have I3:=I2.qV k2 zt new
have pz:=g2.trans (oP (r:=.f) k2 zt (λa mm=>(new a mm).1) I2.lt)
have blt:b<h2.objs.size:=ib e3
have Im:(aI.plus [h2.objs.size] .f) b=Bc .f:=(Ro.eP λm=>l4 blt (hX.mp m)).trans MQ.1
have Ax:(aI.plus [h2.objs.size] .f) h2.objs.size=Bc .f:=Ro.fo (.head _)
refine aU (vZ _ ax _ h' I3 pz) λIo go=>?_
have sb':s.heap.objs.size<=b:=oz _ ax _ h' b I3 pz Im λx5=>Rl.noConfusion (eF (Cy.symm.trans (gb.kp b x5).1))
have Qy:s.heap.objs.size<=h2.objs.size:=oz _ ax _ h' h2.objs.size I3 pz Ax λx5=>bh ((I2.none_of _ (ir _)).symm.trans (g2.kp _ x5).1)
have YD:h2.objs.size∉[b]:=λm=>cr blt (hX.mp m)
refine bD (Io.GY (p:=⟨h2.objs.size,Bc b⟩) (c:=.bW is m) (l:=h') go x0.cM (λx c b m=>aL m lR) x0.f0 (λa x6 x7 x8=>x7) (ir _) (λa mm=>by
rcases hZ.mp mm with rfl|mm
.exact⟨ib z1,.inl ⟨Ro.fZ Ax (λj=>Rl.noConfusion),x0.none_of _ Qy⟩⟩
.refine aa (hX.mp mm) ?_;exact⟨ib (k2 _ _ e3),.inl ⟨Ro.fZ Im (λj=>Rl.noConfusion),x0.none_of _ sb'⟩⟩) (List.nodup_cons.mpr ⟨YD,List.nodup_cons.mpr ⟨lR,.nil⟩⟩) (.bW (n:=bm) (k:=ep) (O7 (KQ.mono gd.cs (λa x6 x=>gd.st a x6 (gc.st a x6 x))) hd) (k2 _ _ e3) z1)) λI5 g5 x8=>?_
have cZ:(ax++[⟨h2.objs.size,Bc b⟩])[K.length]?=Bc (⟨h2.objs.size,Bc b⟩:CA):=(gO (λx9=>(ax++[(⟨h2.objs.size,Bc b⟩:CA)])[x9]?) (Io.d9:K.length=ax.length)).trans apv
refine x1 _ _ h' _ (.ref h2.objs.size) [] I5 g5 (λa r x7=>?_) (.sh (.ref cZ)) (λx8 mm=>aL mm lR) .nil
by_cases mm:a∈CA.all ⟨h2.objs.size,Bc b⟩
.exact .inr ⟨_,(eF (x7.symm.trans (Ro.fo mm)))⟩
.exact mh _ a r ((Ro.eP mm).symm.trans x7)
end
section
variable{C:Cx}{N:Env}{n l B G:ak}{y:a7}{J:s8}{u:ai hI}{O:ai Yj}{t:ai D}{H:ai Str}{p:ai S}{c:ak}{L:a7}{M K:D}{i w:ai Cell}{P k:Str}{r:ai Str}
theorem Sx(F:FnAt C y J u O t H G B p)(snd:∀fe,gA (C.push fe) n (ev N l))(hp:J.params.args.map (·.arg)=P::k::r)(h:kX N l H.length t G p [M,K] i=.ok sl w){Q:Cw->a8->Prop}(rm:bx C A (n+B+1) D1)(I:Inv C env ρ [] cs ⟨[],i⟩ s.heap)(ro:∀a r,ρ a=Bc r->r=.f\/∃j,r=.cell j)(rd:aC C.w.params cs (Sb ρ s.heap) [M,K] [v0,v1])(U:∀X W Z tk v os,Inv C env X [] W ⟨[],w⟩ Z->Go C ρ X cs W s.heap Z->(∀a r,X a=Bc r->r=.f\/∃j,r=.cell j)->dh C.w.params C.bad W (Sb X Z) Z sl os (Bc v)->(∀a∈os,X a=Bc .f/\s.heap.objs.size<=a)->os.Nodup->Q (.ok (.ret v)) {s with heap:=Z,toks:=tk}):mO (eg C.prog C.w) A (.call (.ref y) ⟨[v0],[(k,v1)]⟩) Q s:=by
 refine bD (Fx (P:=(.=.ok sl w)) RC.noConfusion h) λha hb h3=>ID F snd (by rw[lk,w?];exact HI ha hb) rm I ro (F.Ve I.tok hp (F.dr.len▸hb)) (F.full I rd) ?_;exact CD (P:=(.=.ok sl w)) RC.noConfusion h3 (λst V=>aU (RC.ok.inj V) λe1 e2 X W Z tk a b c=>U X W Z tk .none [] (e2▸a) b c (e1▸.sh .none) (λY m=>aL m lR) .nil) (λs0 st V=>aU (RC.ok.inj V) λe1 e2 X W Z tk v os a b c d V f=>U X W Z tk v os (e2▸a) b c (e1▸d) V f) λY Y V=>RC.noConfusion V
theorem RD(U:C.K.In C.h₀)(V:qT C c L y)(F:FnAt C y J u O t H G B p)(b:∀W,gA (C.push W) n (ev N l))(Y:J.params.args.map (·.arg)=P::k::r)(h:kX N l H.length t G p [.ref i.length,K] (i++[.inst c [] []])=.ok (.sh .none) w):uE C (n+B+1+1) D1 (.ref L) k K i (.sh (.ref i.length)) w:=by
 intro A ρ cs s v Z Q X rm I ro rd a
 refine Mj (KN U V I ro λaG h1 I1 d Fg=>?_)
 have j:(cs++[⟨s.heap.objs.size+1,Bc s.heap.objs.size⟩])[i.length]?=Bc (⟨s.heap.objs.size+1,Bc s.heap.objs.size⟩:CA):=by refine aa I.d9 ?_;simp
 refine Sx F b Y h (MS rm) I1 Fg (.cons (.ref j) (.cons (rd.mono d.cs d.st) .nil)) ?_
 intro aI ax h2 bF v os I2 m CY sa f nd
 clear f nd;cases sa with|sh r=>cases r;exact⟨rfl,a aI ax h2 bF _ [] I2 (d.trans m) CY (.sh (.ref (m.cs _ _ j))) nM .nil⟩
end
end Mine
end
section
open PySem PySem.W
namespace Mine
noncomputable def Qt:ai S:=[.dU (.l 0) 1 (.l 1)]
def S4:ai S:=[.ret (.p (.cI 0) [.LtE,.LtE] [.l 0,.aO 2])]
noncomputable def Rq:ai S:=[.ret (.p (.aO 3) [.LtE,.LtE] [.l 0,.aO 4])]
noncomputable def abn:ai S:=[.ret (.bj .And [.call 5 [.l 0],.nt (.call 6 [.l 0])])]
def Tb:ai S:=[.g 2 (.cI 0),.g 3 (.call 7 [.l 0]),.jP (.p (.l 2) [.Lt] [.l 3]) [.g 4 (.b .FloorDiv (.b .Add (.l 2) (.l 3)) (.cI 2)),.iff (.p (.sub (.l 0) (.l 4)) [.LtE] [.l 1]) [.g 2 (.b .Add (.l 4) (.cI 1))] [.g 3 (.l 4)]],.ret (.b .Sub (.l 2) (.cI 1))]
def XT:ai S:=[.ret (.p (.cI 0) [.LtE,.Lt] [.b .Sub (.l 0) (.aO 8),.aO 9])]
def adf:ai S:=[.iff (.nt (.call 10 [.l 0])) [.ret (.cN)] [],.av,.av,.av]
def X2:ai S:=[.g 2 (.b .Sub (.l 0) (.aO 11)),.g 3 (.b .Sub (.l 1) (.aO 12)),.iff (.bj .And [.p (.cI 0) [.LtE,.Lt] [.l 2,.aO 13],.p (.cI 0) [.LtE,.Lt] [.l 3,.aO 14]]) [.av] [],.iff (.bj .And [.call 10 [.l 0],.p (.b .Mod (.b .Sub (.l 0) (.aO 8)) (.aO 15)) [.Eq] [.cI 0],.p (.cI 0) [.Lt,.Lt] [.b .Sub (.l 1) (.aO 16),.aO 15]]) [.av] [],.ret (.cN)]
def adB:ai S:=[.g 3 (.call 17 [.l 0]),.iff (.p (.l 3) [.IsNot] [.cN]) [.av] [],.g 4 (.cH (.l 1) 0 [.cS [100,109],.l 0]),.iff (.bj .Or [.p (.l 4) [.Is] [.cN],.bj .And [.p (.sub (.l 4) (.cI 0)) [.NotEq] [.cS []],.nt (.l 2)]]) [.ret (.cN)] [],.av]
def Qm:ai S:=[.g 3 (.a []),.de [4,5] [.a [.l 0],.a []],.jP (.isNil 4 D1) [.g 6 (.yc 4),.iff (.p (.l 6) [.Is] [.cN]) [.av,.av] [],.g 7 (.call 18 [.l 6,.l 1,.l 2]),.iff (.p (.l 7) [.Is] [.cN]) [.app 3 (.l 6)] [.av]],.ret (.l 3)]
def sv:ai S:=[.de [2,3] [.a [],.a []],.bA (.nm 4) (.ex (.l 0)) [.g 5 (.cH (.l 1) 0 [.cS [99,99,99],.l 4]),.iff (.p (.l 5) [.Gt] [.cI 0]) [.app 3 (.u [.l 5,.l 4])] [.ext 2 (.call 19 [.l 3]),.app 2 (.l 4),.g 3 (.a [])]],.ext 2 (.call 19 [.l 3]),.ret (.l 2)]
noncomputable def ZG:ai S:=[.ret (.comp (.l 1) (.tp [.nm 0,.nm 1]) (.bM (.l 0)) [] [20,21] [])]
noncomputable def oC:ai S:=[.g 3 (.a []),.bA (.nm 4) (.ex (.l 0)) [.ext 3 (.call 22 [.l 4,.l 1,.l 2])],.ret (.call 23 [.l 3,.l 1])]
def Xb:ai S:=[.g 1 (.i7 [] []),.bA (.tp [.nm 2,.nm 3,.nm 4]) (.ex (.cH (.cH (.l 0) 24 [.cS [100,109]]) 25 [])) [.av,.av],.ret (.l 1)]
noncomputable def VQ:ai S:=[.dU (.l 0) 26 (.call 27 [.l 1]),.dU (.l 0) 28 (.i7 [] []),.vN (.bw (.l 0) 26)]
def XE:ai S:=[.g 3 (.call 29 [.l 1,.l 2]),.ret (.ite (.p (.l 3) [.IsNot] [.cN]) (.l 3) (.cH (.bw (.l 0) 26) 0 [.u [.l 1,.l 2],.cN]))]
noncomputable def SR:ai S:=[.g 2 (.p (.aO 12) [.LtE,.Lt] [.l 1,.b .Add (.aO 12) (.aO 14)]),.ret (.bj .Or [.p (.l 1) [.In] [.bw (.l 0) 28],.l 2,.p (.aO 16) [.Lt,.Lt] [.l 1,.b .Add (.aO 16) (.aO 15)]])]
def pR:ai S:=[.g 2 (.ite (.p (.l 2) [.Is] [.cN]) (.call 30 [.l 1]) (.l 2)),.de [3,4,5] [.a [],.neg (.cI 1),.neg (.cI 1)],.bA (.nm 6) (.ex (.l 0)) [.g 7 (.cH (.l 1) 0 [.cS [99,99,99],.l 6]),.iff (.bj .And [.p (.l 4) [.GtE] [.cI 0],.bj .Or [.p (.l 4) [.Eq] [.b .Sub (.ie 3) (.cI 1)],.p (.l 5) [.Lt] [.l 7]]]) [.g 8 (.cH (.l 2) 31 [.jC 3 (.l 4),.l 6]),.iff (.p (.l 8) [.IsNot] [.cN]) [.av,.av] []] [],.iff (.p (.l 7) [.Eq] [.cI 0]) [.de [4,5] [.ie 3,.neg (.cI 1)]] [.g 5 (.call 32 [.l 5,.l 7])],.app 3 (.l 6)],.ret (.l 3)]
def sj:ai S:=[.g 4 (.call 33 [.l 0,.l 1,.p (.l 2) [.In] [.u [.cS [110,102,107,100],.cS [110,102,107,99]]]]),.ret (.ite (.p (.l 2) [.In] [.u [.cS [110,102,100],.cS [110,102,107,100]]]) (.l 4) (.call 34 [.l 4,.l 1,.l 3]))]
def ED:ai S:=[.ret (.call 35 [.l 0,.l 1,.cS [110,102,99]])]
def Vx:ai S:=[.iff (.p (.call 35 [.a [.l 0],.l 1,.l 2,.l 3]) [.NotEq] [.a [.l 0]]) [.av] [],.iff (.p (.l 2) [.In] [.u [.cS [110,102,100],.cS [110,102,107,100]]]) [.av] [],.g 4 (.sub (.call 22 [.l 0,.l 1,.p (.l 2) [.Eq] [.cS [110,102,107,99]]]) (.cI 0)),.ret (.ite (.cH (.l 3) 36 [.l 4]) (.cS [109,97,121,98,101]) (.cS [121,101,115]))]
def Xm:ai S:=[.g 3 (.ite (.p (.l 3) [.Is] [.cN]) (.call 30 [.l 1]) (.l 3)),.de [4,5] [.cS [121,101,115],.cI 0],.bA (.nm 6) (.ex (.l 0)) [.g 7 (.cH (.l 1) 0 [.cS [99,99,99],.l 6]),.g 8 (.call 37 [.l 6,.l 1,.l 2,.l 3]),.iff (.bj .Or [.p (.l 8) [.Eq] [.cS [110,111]],.p (.cI 0) [.Lt,.Lt] [.l 7,.l 5]]) [.av] [],.iff (.p (.l 8) [.Eq] [.cS [109,97,121,98,101]]) [.av] [],.g 5 (.l 7)],.ret (.l 4)]
def aep:ai S:=[.g 3 (.ite (.p (.l 3) [.Is] [.cN]) (.call 30 [.l 1]) (.l 3)),.g 4 (.call 38 [.l 0,.l 1,.l 2,.l 3]),.ret (.bj .Or [.p (.l 4) [.Eq] [.cS [121,101,115]],.bj .And [.p (.l 4) [.Eq] [.cS [109,97,121,98,101]],.p (.call 35 [.l 0,.l 1,.l 2,.l 3]) [.Eq] [.call 39 [.l 0]]]])]
noncomputable def ad2:ai S:=[.dU (.l 0) 40 (.l 1),.dU (.l 0) 41 (.l 2),.dU (.l 0) 42 (.l 3),.dU (.l 0) 43 (.l 4),.dU (.l 0) 44 (.l 5),.dU (.l 0) 45 (.l 6),.dU (.l 0) 46 (.l 7)]
noncomputable def QT:ai S:=[.g 3 (.b .Sub (.b .Mult (.bw (.l 0) 40) (.l 1)) (.l 2)),.ret (.ite (.p (.l 3) [.Lt] [.bw (.l 0) 41]) (.bw (.l 0) 41) (.ite (.p (.l 3) [.Gt] [.bw (.l 0) 42]) (.bw (.l 0) 42) (.l 3)))]
def adQ:ai S:=[.g 1 (.ite (.l 3) (.b .FloorDiv (.l 1) (.bw (.l 0) 44)) (.b .FloorDiv (.l 1) (.cI 2))),.g 1 (.b .Add (.l 1) (.b .FloorDiv (.l 1) (.l 2))),.g 4 (.cI 0),.jP (.p (.l 1) [.Gt] [.b .FloorDiv (.b .Mult (.b .Sub (.bw (.l 0) 40) (.bw (.l 0) 41)) (.bw (.l 0) 42)) (.cI 2)]) [.g 1 (.b .FloorDiv (.l 1) (.b .Sub (.bw (.l 0) 40) (.bw (.l 0) 41))),.g 4 (.b .Add (.l 4) (.cI 1))],.ret (.b .Add (.b .Mult (.bw (.l 0) 40) (.l 4)) (.b .FloorDiv (.b .Mult (.b .Add (.b .Sub (.bw (.l 0) 40) (.bw (.l 0) 41)) (.cI 1)) (.l 1)) (.b .Add (.l 1) (.bw (.l 0) 43))))]
noncomputable def Wl:ai S:=[.iff (.p (.l 0) [.GtE] [.aO 47]) [.ret (.b .Sub (.b .Add (.aO 48) (.l 0)) (.aO 47))] [],.ret (.b .Add (.ite (.l 1) (.aO 49) (.aO 50)) (.l 0))]
noncomputable def XX:ai S:=[.iff (.p (.aO 50) [.LtE,.Lt] [.l 0,.b .Add (.aO 50) (.aO 47)]) [.ret (.b .Sub (.l 0) (.aO 50))] [],.iff (.p (.aO 49) [.LtE,.Lt] [.l 0,.b .Add (.aO 49) (.aO 47)]) [.av] [],.iff (.p (.aO 48) [.LtE,.Lt] [.l 0,.b .Add (.aO 48) (.aO 51)]) [.ret (.b .Add (.b .Sub (.l 0) (.aO 48)) (.aO 47))] [],.av]
def abK:ai S:=[.de [4,5] [.a [],.cI 1],.jP (.cT D1) [.g 6 (.cH (.l 2) 52 [.l 5,.l 1]),.iff (.p (.l 0) [.Lt] [.l 6]) [.app 4 (.call 53 [.l 0,.l 3]),.ret (.l 4)] [],.g 7 (.b .Sub (.bw (.l 2) 40) (.l 6)),.app 4 (.call 53 [.b .Add (.l 6) (.b .Mod (.b .Sub (.l 0) (.l 6)) (.l 7))]),.g 0 (.b .FloorDiv (.b .Sub (.l 0) (.l 6)) (.l 7)),.g 5 (.b .Add (.l 5) (.cI 1))]]
def Yd:ai S:=[.de [4,5,6] [.cI 0,.cI 1,.cI 1],.jP (.cT D1) [.iff (.p (.l 1) [.GtE] [.call 7 [.l 0]]) [.pW 54 (.a [.cS [115,104,111,114,116]])] [],.g 7 (.call 55 [.sub (.l 0) (.l 1)]),.iff (.bj .Or [.p (.l 7) [.Is] [.cN],.p (.l 7) [.GtE] [.bw (.l 3) 40]]) [.av] [],.g 1 (.b .Add (.l 1) (.cI 1)),.g 4 (.b .Add (.l 4) (.b .Mult (.l 7) (.l 5))),.g 8 (.cH (.l 3) 52 [.l 6,.l 2]),.iff (.p (.l 7) [.Lt] [.l 8]) [.ret (.u [.l 4,.l 1])] [],.g 5 (.b .Mult (.l 5) (.b .Sub (.bw (.l 3) 40) (.l 8))),.g 6 (.b .Add (.l 6) (.cI 1))]]
noncomputable def abx:ai S:=[.ret (.p (.l 0) [.Lt] [.bw (.l 1) 46])]
noncomputable def Ta:ai S:=[.bA (.nm 1) (.ex (.l 0)) [.iff (.nt (.call 56 [.l 1])) [.av] []]]
noncomputable def Wp:ai S:=[.ret (.call 57 [.comp (.l 0) (.nm 0) (.ex (.l 0)) [.p (.l 0) [.GtE] [.l 1]] [58] [1]])]
def Uu:ai S:=[.iff (.bj .Or [.p (.l 1) [.Is] [.cN],.nt (.p (.aO 50) [.LtE,.Lt] [.b .BitOr (.l 0) (.aO 59),.b .Add (.aO 50) (.aO 47)])]) [.ret (.l 0)] [],.av]
def Vq:ai S:=[.mF (.call 60 [.l 0]),.g 1 (.ite (.p (.l 1) [.Is] [.cN]) (.call 61 []) (.l 1)),.g 3 (.ite (.p (.l 2) [.Is] [.cN]) (.b .Mult (.a [.cN]) (.call 7 [.l 0])) (.l 2)),.g 4 (.a []),.bA (.tp [.nm 5,.nm 6]) (.gq (.l 0)) [.iff (.call 62 [.l 6,.l 1]) [.app 4 (.call 63 [.l 6,.sub (.l 3) (.l 5)])] []],.g 7 (.ie 4),.g 8 (.l 7),.iff (.p (.l 7) [.Gt] [.cI 0]) [.app 4 (.aO 64)] [],.de [6,9,10] [.bw (.l 1) 46,.cI 0,.bw (.l 1) 45],.jP (.p (.l 8) [.Lt] [.call 7 [.l 0]]) [.g 11 (.call 65 [.l 0,.l 6]),.g 9 (.b .Add (.l 9) (.b .Mult (.b .Sub (.l 11) (.l 6)) (.b .Add (.l 8) (.cI 1)))),.g 6 (.l 11),.bA (.tp [.nm 5,.nm 12]) (.gq (.l 0)) [.iff (.p (.l 12) [.Lt] [.l 6]) [.g 9 (.b .Add (.l 9) (.cI 1))] [.iff (.p (.l 12) [.Eq] [.l 6]) [.ext 4 (.call 66 [.l 9,.l 10,.l 1,.bj .And [.p (.sub (.l 3) (.l 5)) [.IsNot] [.cN],.sub (.l 3) (.l 5)]]),.g 10 (.cH (.l 1) 67 [.l 9,.b .Add (.l 8) (.cI 1),.p (.l 8) [.Eq] [.l 7]]),.de [9,8] [.cI 0,.b .Add (.l 8) (.cI 1)]] []]],.de [9,6] [.b .Add (.l 9) (.cI 1),.b .Add (.l 6) (.cI 1)]],.ret (.call 68 [.l 4])]
def abu:ai S:=[.g 1 (.b .Sub (.call 7 [.l 0]) (.cI 1)),.jP (.bj .And [.p (.l 1) [.Gt] [.cI 0],.p (.sub (.l 0) (.l 1)) [.NotEq] [.aO 64]]) [.g 1 (.b .Sub (.l 1) (.cI 1))],.iff (.p (.l 1) [.LtE] [.cI 0]) [.ret (.u [.cB [],.cI 0])] [],.ret (.u [.cU (.l 0) VG (Bc (.l 1)),.b .Add (.l 1) (.cI 1)])]
noncomputable def WX:ai S:=[.ret (.p (.aO 49) [.LtE,.Lt] [.l 0,.b .Add (.aO 49) (.aO 47)])]
def V1:ai S:=[.g 1 (.ite (.p (.l 1) [.Is] [.cN]) (.call 61 []) (.l 1)),.i5 [.nm 2,.nm 3] (.call 69 [.l 0]),.de [4,5] [.a [],.a []],.bA (.nm 6) (.ex (.l 2)) [.iff (.nt (.call 62 [.l 6,.l 1])) [.av] [],.app 4 (.l 6),.app 5 (.call 70 [.l 6])],.de [7,8,9] [.bw (.l 1) 46,.cI 0,.bw (.l 1) 45],.jP (.p (.l 3) [.Lt] [.call 7 [.l 0]]) [.i5 [.nm 10,.nm 3] (.call 71 [.l 0,.l 3,.l 9,.l 1]),.g 11 (.b .Add (.ie 4) (.cI 1)),.g 9 (.cH (.l 1) 67 [.l 10,.l 11,.bj .And [.p (.l 8) [.Eq] [.cI 0],.p (.ie 4) [.Eq] [.call 7 [.l 2]]]]),.g 8 (.b .Add (.l 8) (.l 10)),.g 7 (.b .Add (.l 7) (.b .FloorDiv (.l 8) (.l 11))),.g 8 (.b .Mod (.l 8) (.l 11)),.iff (.p (.l 7) [.Gt] [.aO 2]) [.av] [],.iff (.nt (.call 56 [.l 7])) [.av] [],.g 4 (.b .Add (.b .Add (.cU (.l 4) VG (Bc (.l 8))) (.a [.l 7])) (.cU (.l 4) (Bc (.l 8)) VG)),.g 5 (.b .Add (.b .Add (.cU (.l 5) VG (Bc (.l 8))) (.a [.call 70 [.sub (.l 0) (.b .Sub (.l 3) (.cI 1))]])) (.cU (.l 5) (Bc (.l 8)) VG)),.g 8 (.b .Add (.l 8) (.cI 1))],.ret (.u [.l 4,.l 5])]
def aaQ:ai S:=[.ret (.sub (.call 72 [.l 0,.l 1]) (.cI 0))]
noncomputable def uc:ai S:=[.dU (.l 0) 73 (.l 1),.dU (.l 0) 74 (.l 2),.dU (.l 0) 75 (.l 3),.dU (.l 0) 76 (.l 4),.dU (.l 0) 77 (.l 5),.dU (.l 0) 78 (.l 6),.dU (.l 0) 79 (.l 7)]
def UY:ai S:=[.ret (.bj .Or [.p (.cI 97) [.LtE,.LtE] [.l 0,.cI 122],.p (.cI 48) [.LtE,.LtE] [.l 0,.cI 57],.p (.l 0) [.Eq] [.aO 80]])]
def WU:ai S:=[.i5 [.nm 3,.nm 4] (.cH (.l 1) 0 [.cS [105,100,110,97],.l 0]),.iff (.p (.l 3) [.Eq] [.cS [100,105,115,97,108,108,111,119,101,100,95,83,84,68,51,95,118,97,108,105,100]]) [.av] [],.iff (.p (.l 3) [.Eq] [.cS [100,105,115,97,108,108,111,119,101,100,95,83,84,68,51,95,109,97,112,112,101,100]]) [.av] [],.ret (.u [.l 3,.l 4])]
def acb:ai S:=[.i5 [.nm 4,.nm 5] (.call 81 [.l 0,.l 1,.l 3]),.iff (.p (.l 4) [.Eq] [.cS [118,97,108,105,100]]) [.ret (.a [.l 0])] [],.iff (.p (.l 4) [.Eq] [.cS [105,103,110,111,114,101,100]]) [.ret (.a [])] [],.iff (.p (.l 4) [.Eq] [.cS [100,101,118,105,97,116,105,111,110]]) [.ret (.ite (.l 2) (.call 39 [.l 5]) (.a [.l 0]))] [],.iff (.p (.l 4) [.NotEq] [.cS [109,97,112,112,101,100]]) [.ret (.cN)] [],.iff (.nt (.l 2)) [.ret (.call 39 [.l 5])] [],.g 6 (.a []),.bA (.nm 7) (.ex (.l 5)) [.g 8 (.call 81 [.l 7,.l 1,.l 3]),.ext 6 (.ite (.p (.sub (.l 8) (.cI 0)) [.Eq] [.cS [100,101,118,105,97,116,105,111,110]]) (.call 39 [.sub (.l 8) (.cI 1)]) (.a [.l 7]))],.ret (.l 6)]
def pe:ai S:=[.de [4,5] [.a [],.a []],.bA (.nm 6) (.ex (.l 0)) [.g 7 (.call 82 [.l 6,.l 1,.l 2,.l 3]),.iff (.p (.l 7) [.Is] [.cN]) [.g 5 (.a [.cS [100,105,115,97,108,108,111,119,101,100]]),.g 7 (.a [.l 6])] [],.ext 4 (.l 7)],.ret (.u [.call 83 [.l 4,.l 1],.l 5])]
noncomputable def uR:ai S:=[.g 1 (.nest),.bA (.nm 2) (.ex (.l 0)) [.iff (.p (.l 2) [.Eq] [.aO 84]) [.app 1 (.a [])] [.mX 1 2]],.ret (.l 1)]
def Yu:ai S:=[.ret (.nt (.call 85 [.comp (.p (.l 0) [.Gt] [.cI 127]) (.nm 0) (.ex (.l 0)) [] [21] []]))]
def Rt:ai S:=[.ret (.comp (.cH (.l 1) 0 [.cS [98,99],.l 0]) (.nm 0) (.ex (.l 0)) [] [21] [1])]
def uN:ai S:=[.bA (.nm 2) (.ex (.l 0)) [.bA (.nm 3) (.ex (.call 86 [.l 2,.l 1])) [.iff (.p (.l 3) [.In] [.u [.cS [82],.cS [65,76],.cS [65,78]]]) [.ret (.cT D1)] []]],.ret (.cT Un)]
def XI:ai S:=[.bA (.nm 1) (.ex (.rev (.l 0))) [.iff (.p (.l 1) [.NotEq] [.cS [78,83,77]]) [.ret (.l 1)] []],.av]
def abQ:ai S:=[.g 2 (.call 86 [.l 0,.l 1]),.iff (.p (.l 2) [.Eq] [.a []]) [.ret (.cT D1)] [],.g 3 (.call 87 [.l 2]),.iff (.p (.sub (.l 2) (.cI 0)) [.In] [.u [.cS [82],.cS [65,76]]]) [.iff (.bj .Or [.call 85 [.comp (.p (.l 0) [.NotIn] [.aO 89]) (.nm 0) (.ex (.l 2)) [] [88] []],.bj .And [.p (.cS [69,78]) [.In] [.l 2],.p (.cS [65,78]) [.In] [.l 2]]]) [.ret (.cT Un)] [],.ret (.p (.l 3) [.In] [.u [.cS [82],.cS [65,76],.cS [69,78],.cS [65,78]]])] [],.iff (.p (.sub (.l 2) (.cI 0)) [.Eq] [.cS [76]]) [.ret (.bj .And [.nt (.call 85 [.comp (.p (.l 0) [.NotIn] [.aO 90]) (.nm 0) (.ex (.l 2)) [] [88] []]),.p (.l 3) [.In] [.u [.cS [76],.cS [69,78]]]])] [],.ret (.cT Un)]
def Vo:ai S:=[.iff (.l 1) [.g 2 (.bj .Or [.p (.cU (.l 0) VG (Bc (.cI 1))) [.Eq] [.a [.aO 80]],.p (.cU (.l 0) (Bc (.neg (.cI 1))) VG) [.Eq] [.a [.aO 80]]]),.ret (.ite (.bj .Or [.l 2,.p (.cU (.l 0) (Bc (.cI 2)) (Bc (.cI 4))) [.Eq] [.a [.aO 80,.aO 80]]]) (.a [.cS [104,121,112,104,101,110,115]]) (.a []))] [],.av]
def acL:ai S:=[.bA (.nm 4) (.ex (.l 0)) [.g 5 (.sub (.call 81 [.l 4,.l 1,.cT Un]) (.cI 0)),.g 6 (.bj .Or [.l 3,.nt (.bw (.l 2) 73)]),.iff (.bj .And [.p (.l 5) [.NotEq] [.cS [118,97,108,105,100]],.nt (.bj .And [.p (.l 5) [.Eq] [.cS [100,101,118,105,97,116,105,111,110]],.l 6])]) [.ret (.a [.cS [100,105,115,97,108,108,111,119,101,100]])] [],.iff (.bj .And [.bw (.l 2) 74,.p (.l 4) [.LtE] [.cI 127],.nt (.call 91 [.l 4])]) [.ret (.a [.cS [100,105,115,97,108,108,111,119,101,100]])] []],.ret (.a [])]
def aem:ai S:=[.g 4 (.a []),.iff (.nt (.call 92 [.l 0,.l 1,.cS [110,102,99]])) [.av] [],.ext 4 (.call 93 [.l 0,.bw (.l 2) 75]),.iff (.p (.aO 84) [.In] [.l 0]) [.av] [],.iff (.bj .And [.p (.l 0) [.NotEq] [.a []],.p (.cH (.l 1) 0 [.cS [103,99],.sub (.l 0) (.cI 0)]) [.In] [.aO 94]]) [.app 4 (.cS [109,97,114,107])] [],.ext 4 (.call 95 [.l 0,.l 1,.l 2,.l 3]),.bA (.tp [.nm 5,.nm 6]) (.gq (.l 0)) [.iff (.bj .And [.bw (.l 2) 76,.p (.l 6) [.In] [.u [.aO 96,.aO 97]],.nt (.call 98 [.l 0,.l 5,.l 1])]) [.av] [],.iff (.bj .And [.bw (.l 2) 78,.nt (.call 99 [.l 0,.l 5,.l 1])]) [.av] []],.xD 4]
def SJ:ai S:=[.oh [.g 3 (.call 100 [.call 68 [.cU (.l 0) (Bc (.call 7 [.aO 101])) VG]])] 54 VG [.ret (.u [.l 0,.a [.cS [112,117,110,121,99,111,100,101]]])],.g 4 (.call 102 [.l 3,.l 1,.l 2,.cT D1]),.iff (.call 103 [.l 3]) [.app 4 (.cS [97,115,99,105,105])] [],.ret (.u [.l 3,.l 4])]
def aa9:ai S:=[.iff (.p (.cU (.l 0) VG (Bc (.call 7 [.aO 101]))) [.NotEq] [.aO 101]) [.ret (.u [.l 0,.call 102 [.l 0,.l 1,.l 2,.cT Un]])] [],.iff (.nt (.call 103 [.l 0])) [.av] [],.ret (.call 104 [.l 0,.l 1,.l 2])]
def vz:ai S:=[.g 1 (.a []),.bA (.nm 2) (.ex (.call 105 [.l 0])) [.iff (.bj .Or [.isNil 1 Un,.p (.jC 1 (.neg (.cI 1))) [.NotEq] [.l 2]]) [.app 1 (.l 2)] []],.ret (.l 1)]
def mE:ai S:=[.i5 [.nm 3,.nm 4] (.call 106 [.l 0,.l 1,.bw (.l 2) 73,.bw (.l 2) 74]),.g 5 (.a []),.bA (.nm 6) (.ex (.call 107 [.l 3])) [.i5 [.nm 7,.nm 8] (.call 108 [.l 6,.l 1,.l 2]),.app 5 (.l 7),.g 4 (.b .Add (.l 4) (.l 8))],.iff (.bj .And [.bw (.l 2) 77,.call 109 [.l 5,.l 1]]) [.bA (.nm 6) (.ex (.l 5)) [.iff (.nt (.call 110 [.l 6,.l 1])) [.app 4 (.cS [98,105,100,105])] []]] [],.ret (.u [.l 5,.call 111 [.l 4]])]
def uG:ai S:=[.g 1 (.a []),.bA (.tp [.nm 2,.nm 3]) (.gq (.l 0)) [.ext 1 (.b .Add (.ite (.p (.l 2) [.Gt] [.cI 0]) (.a [.aO 84]) (.a [])) (.l 3))],.ret (.l 1)]
noncomputable def aav:ai S:=[.iff (.call 103 [.l 0]) [.ret (.u [.l 0,.a []])] [],.oh [.ret (.u [.b .Add (.aO 101) (.call 39 [.call 112 [.l 0]]),.a []])] 54 VG [.av]]
def qb:ai S:=[.g 1 (.a []),.g 2 (.ite (.bj .And [.p (.call 7 [.l 0]) [.Gt] [.cI 1],.p (.sub (.l 0) (.neg (.cI 1))) [.Eq] [.a []]]) (.cU (.l 0) VG (Bc (.neg (.cI 1)))) (.l 0)),.bA (.nm 3) (.ex (.l 2)) [.iff (.p (.l 3) [.Eq] [.a []]) [.app 1 (.cS [101,109,112,116,121])] [],.iff (.p (.call 7 [.l 3]) [.Gt] [.aO 113]) [.av] []],.iff (.p (.call 7 [.call 114 [.l 2]]) [.Gt] [.aO 115]) [.av] [],.ret (.l 1)]
noncomputable def mP:ai S:=[.i5 [.nm 3,.nm 4] (.call 116 [.l 0,.l 1,.l 2]),.g 5 (.a []),.bA (.nm 6) (.ex (.l 3)) [.i5 [.nm 7,.nm 8] (.call 117 [.l 6]),.app 5 (.l 7),.g 4 (.b .Add (.l 4) (.l 8))],.iff (.bw (.l 2) 79) [.g 4 (.b .Add (.l 4) (.call 118 [.l 5]))] [],.iff (.p (.l 4) [.NotEq] [.a []]) [.pW 54 (.call 111 [.l 4])] [],.ret (.call 114 [.l 5])]
noncomputable def xT:ai S:=[.i5 [.nm 3,.nm 4] (.call 116 [.l 0,.l 1,.l 2]),.ret (.u [.call 114 [.l 3],.l 4])]
noncomputable def Q6:ai S:=[.ret (.bj .And [.p (.l 0) [.Eq] [.l 1],.p (.call 119 [.l 0,.aO 120]) [.Eq] [.call 119 [.l 1,.aO 120]]])]
def aci:ai S:=[.dU (.l 0) 121 (.l 1),.dU (.l 0) 122 (.a [.cI 0]),.dU (.l 0) 123 (.a [.l 1])]
noncomputable def VU:ai S:=[.ret (.sub (.bw (.l 0) 123) (.call 124 [.bw (.l 0) 122,.l 1]))]
def Tg:ai S:=[.iff (.p (.l 1) [.Gt] [.l 2]) [.av] [],.g 4 (.b .Add (.call 124 [.bw (.l 0) 122,.b .Sub (.l 1) (.cI 1)]) (.cI 1)),.g 5 (.b .Add (.call 124 [.bw (.l 0) 122,.b .Add (.l 2) (.cI 1)]) (.cI 1)),.g 6 (.sub (.bw (.l 0) 123) (.b .Sub (.l 5) (.cI 1))),.de [7,8] [.a [.l 1],.a [.l 3]],.iff (.bj .And [.p (.l 2) [.Lt] [.aO 2],.nt (.call 125 [.l 6,.l 3])]) [.app 7 (.b .Add (.l 2) (.cI 1)),.app 8 (.l 6)] [],.iff (.bj .And [.p (.l 4) [.Gt] [.cI 0],.call 125 [.sub (.bw (.l 0) 123) (.b .Sub (.l 4) (.cI 1)),.l 3]]) [.av] [],.dU (.l 0) 122 (.b .Add (.b .Add (.cU (.bw (.l 0) 122) VG (Bc (.l 4))) (.l 7)) (.cU (.bw (.l 0) 122) (Bc (.l 5)) VG)),.dU (.l 0) 123 (.b .Add (.b .Add (.cU (.bw (.l 0) 123) VG (Bc (.l 4))) (.l 8)) (.cU (.bw (.l 0) 123) (Bc (.l 5)) VG))]
def Wj:ai S:=[.ret (.comp (.l 0) (.nm 0) (.ex (.call 127 [.l 0])) [.nt (.call 125 [.sub (.l 0) (.cI 2),.bw (.l 1) 121])] [126] [0])]
def VX:ai S:=[.de [1,2] [.bw (.l 0) 122,.a []],.bA (.tp [.nm 3,.nm 4]) (.gq (.bw (.l 0) 123)) [.g 5 (.ite (.p (.b .Add (.l 3) (.cI 1)) [.Lt] [.call 7 [.l 1]]) (.b .Sub (.sub (.l 1) (.b .Add (.l 3) (.cI 1))) (.cI 1)) (.aO 2)),.app 2 (.u [.sub (.l 1) (.l 3),.l 5,.l 4])],.ret (.l 2)]
def X0:ai S:=[.g 0 (.i7 [.cS [103,99],.cS [99,99,99],.cS [98,99],.cS [108,98],.cS [101,97],.cS [115,99],.cS [106,116],.cS [105,110,99,98]] [.cS [67,110],.cI 0,.cS [76],.cS [88,88],.cS [78],.cS [90,122,122,122],.cS [85],.cS [78,111,110,101]]),.bA (.nm 1) (.ex (.u [.cS [103,99,98],.cS [119,98],.cS [115,98]])) [.dF (.l 0) (.l 1) (.cS [79,116,104,101,114])],.bA (.nm 1) (.ex (.u [.cS [101,120],.cS [115,100],.cS [99,97,115,101,100],.cS [99,105],.cS [101,112],.cS [100,105],.cS [105,100,115],.cS [105,100,99],.cS [120,105,100,115],.cS [120,105,100,99],.cS [112,97,116,95,115,121,110],.cS [112,97,116,95,119,115],.cS [105,100,115,116]])) [.dF (.l 0) (.l 1) (.cT Un)],.bA (.nm 1) (.ex (.u [.cS [100,109],.cS [117,99],.cS [108,99],.cS [116,99],.cS [99,102],.cS [98,109],.cS [98,112,98],.cS [115,99,120],.cS [110,116],.cS [110,118],.cS [110,97,109,101],.cS [99,111,110,102],.cS [110,102,107,99,95,99,102]])) [.dF (.l 0) (.l 1) (.cN)],.bA (.nm 1) (.ex (.u [.cS [115,117,99],.cS [115,108,99],.cS [115,116,99],.cS [97,108,105,97,115]])) [.dF (.l 0) (.l 1) (.u [])],.dF (.l 0) (.cS [105,100,110,97]) (.u [.cS [100,105,115,97,108,108,111,119,101,100],.u []]),.ret (.l 0)]
noncomputable def ab0:ai S:=[.dU (.l 0) 128 (.call 129 []),.dU (.l 0) 130 (.i7 [] []),.dU (.l 0) 131 (.i7 [] []),.dU (.l 0) 132 (.i7 [] [])]
noncomputable def YT:ai S:=[.mF (.cH (.cH (.l 0) 24 [.l 1]) 133 [.l 2,.l 3,.l 4])]
noncomputable def XU:ai S:=[.iff (.p (.l 1) [.In] [.bw (.l 0) 130]) [.ret (.cH (.sub (.bw (.l 0) 130) (.l 1)) 0 [.l 2])] [],.ret (.cH (.bw (.l 0) 128) 0 [.l 1])]
noncomputable def abR:ai S:=[.iff (.p (.l 1) [.NotIn] [.bw (.l 0) 130]) [.dF (.bw (.l 0) 130) (.l 1) (.call 134 [.cH (.bw (.l 0) 128) 0 [.l 1]])] [],.ret (.sub (.bw (.l 0) 130) (.l 1))]
def nQ:ai S:=[.de [1,2] [.comp (.b .Mod (.call 136 [.l 0]) (.cI 1000003)) (.nm 0) (.ex (.cU (.l 0) VG (Bc (.cI 24)))) [] [135] [],.cI 1007],.bA (.nm 3) (.ex (.l 1)) [.g 2 (.b .Mod (.b .Add (.b .Add (.b .Mult (.l 2) (.cI 31)) (.l 3)) (.cI 1)) (.cI 1000003))],.ret (.i7 [.cS [108,101,102,116],.cS [109,105,120,101,100]] [.l 1,.l 2])]
def ad4:ai S:=[.iff (.p (.sub (.l 0) (.cS [108,101,102,116])) [.NotEq] [.a []]) [.ret (.b .Mod (.cH (.sub (.l 0) (.cS [108,101,102,116])) 137 [.cI 0]) (.l 1))] [],.dF (.l 0) (.cS [109,105,120,101,100]) (.b .Mod (.b .Add (.b .Mult (.sub (.l 0) (.cS [109,105,120,101,100])) (.cI 4801)) (.cI 97)) (.cI 1000003)),.ret (.b .Mod (.b .FloorDiv (.sub (.l 0) (.cS [109,105,120,101,100])) (.cI 7)) (.l 1))]
def abY:ai S:=[.de [0,1] [.call 138 [],.u [.cS [118,97,108,105,100],.u []]],.g 2 (.a [.u [.cI 45,.cI 46,.l 1],.u [.cI 48,.cI 57,.l 1],.u [.cI 65,.cI 65,.u [.cS [109,97,112,112,101,100],.u [.cI 97]]],.u [.cI 95,.cI 95,.l 1],.u [.cI 97,.cI 122,.l 1]]),.g 2 (.b .Add (.l 2) (.a [.u [.cI 173,.cI 173,.u [.cS [105,103,110,111,114,101,100],.u []]],.u [.cI 803,.cI 803,.l 1],.u [.cI 223,.cI 223,.u [.cS [100,101,118,105,97,116,105,111,110],.u [.cI 115,.cI 115]]],.u [.cI 252,.cI 252,.l 1]])),.g 2 (.b .Add (.l 2) (.a [.u [.cI 769,.cI 769,.l 1],.u [.cI 1488,.cI 1488,.l 1],.u [.cI 1575,.cI 1576,.l 1],.u [.cI 1632,.cI 1632,.l 1]])),.bA (.tp [.nm 3,.nm 4,.nm 5]) (.ex (.l 2)) [.mF (.cH (.l 0) 133 [.cS [105,100,110,97],.l 3,.l 4,.l 5])],.bA (.tp [.nm 6,.nm 7,.nm 8]) (.ex (.u [.u [.cI 769,.cS [77,110],.cI 230],.u [.cI 803,.cS [77,110],.cI 220]])) [.mF (.cH (.l 0) 133 [.cS [103,99],.l 6,.l 6,.l 7]),.mF (.cH (.l 0) 133 [.cS [99,99,99],.l 6,.l 6,.l 8])],.bA (.tp [.nm 6,.nm 5]) (.ex (.u [.u [.cI 769,.cS [84]],.u [.cI 803,.cS [84]],.u [.cI 1575,.cS [82]],.u [.cI 1576,.cS [68]]])) [.mF (.cH (.l 0) 133 [.cS [106,116],.l 6,.l 6,.l 5])],.g 2 (.a [.u [.cI 45,.cI 45,.cS [69,83]],.u [.cI 46,.cI 46,.cS [67,83]],.u [.cI 48,.cI 57,.cS [69,78]],.u [.cI 95,.cI 95,.cS [79,78]],.u [.cI 769,.cI 769,.cS [78,83,77]],.u [.cI 803,.cI 803,.cS [78,83,77]]]),.g 2 (.b .Add (.l 2) (.a [.u [.cI 1488,.cI 1488,.cS [82]],.u [.cI 1575,.cI 1576,.cS [65,76]],.u [.cI 1632,.cI 1632,.cS [65,78]]])),.bA (.tp [.nm 3,.nm 4,.nm 5]) (.ex (.b .Add (.l 2) (.a [.u [.cI 8226,.cI 8226,.cS [79,78]]]))) [.mF (.cH (.l 0) 133 [.cS [98,99],.l 3,.l 4,.l 5])],.ret (.l 0)]
def tM:ai S:=[.g 3 (.a []),.bA (.nm 4) (.ex (.l 0)) [.i5 [.nm 5,.nm 6] (.cU (.sub (.aO 139) (.l 4)) VG (Bc (.cI 2))),.iff (.p (.l 5) [.Eq] [.cS [100,105,115,97,108,108,111,119,101,100]]) [.dF (.l 2) (.cS [100,105,115,97,108,108,111,119,101,100]) (.cT D1)] [],.iff (.bj .Or [.p (.l 5) [.Eq] [.cS [109,97,112,112,101,100]],.bj .And [.p (.l 5) [.Eq] [.cS [100,101,118,105,97,116,105,111,110]],.l 1]]) [.ext 3 (.l 6)] [.iff (.p (.l 5) [.NotEq] [.cS [105,103,110,111,114,101,100]]) [.app 3 (.l 4)] []]],.bA (.nm 7) (.fp VG (.ie 3)) [.bA (.nm 8) (.fp (Bc (.cI 1)) (.ie 3)) [.iff (.p (.cI 0) [.Lt,.Lt] [.sub (.sub (.aO 139) (.jC 3 (.l 8))) (.cI 3),.sub (.sub (.aO 139) (.jC 3 (.b .Sub (.l 8) (.cI 1)))) (.cI 3)]) [.pK 3 8] []]],.ret (.l 3)]
def Rj:ai S:=[.g 1 (.comp (.l 1) (.tp [.nm 0,.nm 1]) (.gq (.l 0)) [.bj .Or [.p (.l 1) [.NotEq] [.cS [78,83,77]],.p (.comp (.cI 1) (.nm 0) (.ex (.cU (.l 2) (Bc (.l 0)) VG)) [.p (.l 0) [.NotEq] [.cS [78,83,77]]] [142] []) [.NotEq] [.a []]]] [140,141] [0]),.de [2,3] [.a [.cS [69,78],.cS [69,83],.cS [67,83],.cS [69,84],.cS [79,78],.cS [66,78],.cS [78,83,77]],.comp (.l 0) (.nm 0) (.ex (.u [.cS [69,78],.cS [65,78]])) [.p (.l 0) [.In] [.l 1]] [141] [0]],.iff (.p (.sub (.l 0) (.cI 0)) [.Eq] [.cS [76]]) [.ret (.bj .And [.p (.comp (.l 0) (.nm 0) (.ex (.l 0)) [.p (.l 0) [.NotIn] [.b .Add (.l 1) (.a [.cS [76]])]] [141] [2]) [.Eq] [.a []],.p (.sub (.l 1) (.neg (.cI 1))) [.In] [.u [.cS [76],.cS [69,78]]]])] [],.iff (.bj .Or [.p (.sub (.l 0) (.cI 0)) [.NotIn] [.u [.cS [82],.cS [65,76]]],.p (.call 7 [.l 3]) [.Eq] [.cI 2]]) [.ret (.cT Un)] [],.ret (.bj .And [.p (.comp (.l 0) (.nm 0) (.ex (.l 0)) [.p (.l 0) [.NotIn] [.b .Add (.l 1) (.a [.cS [82],.cS [65,76],.cS [65,78]])]] [141] [2]) [.Eq] [.a []],.p (.sub (.l 1) (.neg (.cI 1))) [.In] [.u [.cS [82],.cS [65,76],.cS [69,78],.cS [65,78]]]])]
def YO:ai S:=[.iff (.p (.comp (.l 0) (.nm 0) (.ex (.l 0)) [.p (.l 0) [.Gt] [.cI 127]] [21] []) [.Eq] [.a []]) [.ret (.call 39 [.l 0])] [],.g 1 (.comp (.l 0) (.nm 0) (.ex (.l 0)) [.p (.l 0) [.Lt] [.cI 128]] [21] []),.de [2,3] [.b .Add (.l 1) (.b .Mult (.a [.cI 45]) (.call 136 [.p (.l 1) [.NotEq] [.a []]])),.call 7 [.l 1]],.de [4,5,6] [.cI 128,.cI 0,.cI 72],.g 7 (.call 105 [.comp (.u [.l 1,.l 0]) (.tp [.nm 0,.nm 1]) (.gq (.l 0)) [.p (.l 1) [.Gt] [.cI 127]] [143,21] []]),.bA (.tp [.nm 8,.tp [.nm 9,.nm 10]]) (.gq (.l 7)) [.g 11 (.call 7 [.comp (.cI 1) (.nm 0) (.fp VG (.l 10)) [.p (.sub (.l 1) (.l 0)) [.LtE] [.l 2]] [140] [0,9]]),.g 12 (.b .Sub (.b .Add (.b .Mult (.b .Sub (.l 9) (.l 4)) (.b .Add (.l 3) (.cI 1))) (.l 11)) (.l 5)),.de [13,14,3] [.l 12,.cI 36,.b .Add (.l 3) (.cI 1)],.jP (.p (.l 13) [.GtE] [.call 57 [.cI 26,.call 32 [.cI 1,.b .Sub (.l 14) (.l 6)]]]) [.g 15 (.call 57 [.cI 26,.call 32 [.cI 1,.b .Sub (.l 14) (.l 6)]]),.g 16 (.b .Add (.l 15) (.b .Mod (.b .Sub (.l 13) (.l 15)) (.b .Sub (.cI 36) (.l 15)))),.app 2 (.b .Add (.ite (.p (.l 16) [.Lt] [.cI 26]) (.cI 97) (.cI 22)) (.l 16)),.de [13,14] [.b .FloorDiv (.b .Sub (.l 13) (.l 15)) (.b .Sub (.cI 36) (.l 15)),.b .Add (.l 14) (.cI 36)]],.app 2 (.b .Add (.ite (.p (.l 13) [.Lt] [.cI 26]) (.cI 97) (.cI 22)) (.l 13)),.de [17,18] [.b .FloorDiv (.l 12) (.sub (.a [.cI 2,.cI 700]) (.call 136 [.p (.l 8) [.Eq] [.cI 0]])),.cI 0],.g 17 (.b .Add (.l 17) (.b .FloorDiv (.l 17) (.l 3))),.jP (.p (.l 17) [.Gt] [.cI 455]) [.de [17,18] [.b .FloorDiv (.l 17) (.cI 35),.b .Add (.l 18) (.cI 36)]],.de [6,4,5] [.b .Add (.l 18) (.b .FloorDiv (.b .Mult (.cI 36) (.l 17)) (.b .Add (.l 17) (.cI 38))),.l 9,.b .Add (.l 11) (.cI 1)]],.ret (.b .Add (.a [.cI 120,.cI 110,.cI 45,.cI 45]) (.l 2))]
def eG:ai S:=[.g 2 (.l 0),.iff (.p (.cU (.l 0) VG (Bc (.cI 4))) [.Eq] [.a [.cI 120,.cI 110,.cI 45,.cI 45]]) [.g 2 (.sub (.aO 144) (.call 145 [.cU (.l 0) (Bc (.cI 4)) VG])),.iff (.p (.l 2) [.Is] [.cN]) [.dF (.l 1) (.cS [112,117,110,121,99,111,100,101]) (.cT D1),.ret (.l 0)] [],.iff (.p (.comp (.l 0) (.nm 0) (.ex (.l 2)) [.p (.l 0) [.Gt] [.cI 127]] [21] []) [.Eq] [.a []]) [.dF (.l 1) (.cS [97,115,99,105,105]) (.cT D1)] []] [],.iff (.p (.comp (.l 0) (.nm 0) (.ex (.l 2)) [.bj .Or [.p (.l 0) [.Eq] [.cI 95],.p (.sub (.sub (.aO 139) (.l 0)) (.cI 0)) [.Eq] [.cS [100,105,115,97,108,108,111,119,101,100]]]] [21] []) [.NotEq] [.a []]) [.dF (.l 1) (.cS [100,105,115,97,108,108,111,119,101,100]) (.cT D1)] [],.iff (.bj .And [.p (.l 2) [.NotEq] [.a []],.p (.sub (.sub (.aO 139) (.sub (.l 2) (.cI 0))) (.cI 2)) [.Eq] [.cS [77,110]]]) [.dF (.l 1) (.cS [109,97,114,107]) (.cT D1)] [],.iff (.bj .And [.p (.l 2) [.NotEq] [.a []],.bj .Or [.p (.sub (.l 2) (.cI 0)) [.Eq] [.cI 45],.p (.sub (.l 2) (.neg (.cI 1))) [.Eq] [.cI 45],.p (.cU (.l 2) (Bc (.cI 2)) (Bc (.cI 4))) [.Eq] [.a [.cI 45,.cI 45]]]]) [.dF (.l 1) (.cS [104,121,112,104,101,110,115]) (.cT D1)] [],.ret (.l 2)]
def oi:ai S:=[.g 3 (.cN),.oh [.g 3 (.call 39 [.call 146 [.l 0,.l 1,.l 2]])] 54 (Bc 4) [.g 3 (.b .Add (.a [.cS [119,111,114,100,115]]) (.call 178 [.told 4]))],.ret (.l 3)]
def gD:ai S:=[.de [1,2,3] [.call 147 [.l 0],.call 148 [],.i7 [] []],.g 4 (.T3 149 73 (.p (.call 150 [.l 1,.cI 4]) [.Eq] [.cI 3])),.g 5 (.a []),.bA (.nm 6) (.fp VG (.b .Add (.cI 1) (.call 150 [.l 1,.cI 3]))) [.g 5 (.b .Add (.b .Add (.l 5) (.b .Mult (.a [.cI 46]) (.call 136 [.p (.l 6) [.Gt] [.cI 0]]))) (.sub (.aO 151) (.call 150 [.l 1,.call 7 [.aO 151]])))],.de [7,8] [.call 152 [.l 5,.bw (.l 4) 73,.l 3],.nest],.bA (.nm 9) (.ex (.l 7)) [.iff (.p (.l 9) [.Eq] [.cI 46]) [.app 8 (.a [])] [.mX 8 9]],.g 10 (.comp (.call 154 [.l 0,.l 1]) (.nm 0) (.ex (.l 8)) [] [153] [3]),.g 11 (.comp (.comp (.sub (.sub (.aO 139) (.l 0)) (.cI 5)) (.nm 0) (.ex (.l 0)) [] [21] []) (.nm 0) (.ex (.l 10)) [] [153] []),.iff (.p (.sD (.cI 1) (.nm 0) (.l 11) (.nm 1) (.l 0) [.p (.l 1) [.In] [.u [.cS [82],.cS [65,76],.cS [65,78]]]] [155,141] []) [.NotEq] [.a []]) [.iff (.p (.comp (.l 0) (.nm 0) (.ex (.l 11)) [.bj .And [.p (.l 0) [.NotEq] [.a []],.nt (.call 156 [.l 0])]] [155] []) [.NotEq] [.a []]) [.dF (.l 3) (.cS [98,105,100,105]) (.cT D1)] []] [],.g 12 (.sub (.l 10) (.cI 0)),.bA (.nm 13) (.ex (.cU (.l 10) (Bc (.cI 1)) VG)) [.g 12 (.b .Add (.b .Add (.l 12) (.a [.cI 46])) (.l 13))],.g 14 (.call 157 [.call 39 [.l 5],.l 2,.l 4]),.iff (.bj .Or [.p (.call 39 [.sub (.l 14) (.cI 0)]) [.NotEq] [.l 12],.p (.call 39 [.sub (.l 14) (.cI 1)]) [.NotEq] [.call 105 [.l 3]]]) [.av] [],.iff (.p (.comp (.l 1) (.tp [.nm 0,.nm 1]) (.gq (.l 10)) [.bj .And [.p (.l 1) [.Eq] [.a []],.bj .Or [.p (.l 0) [.Eq] [.cI 0],.p (.b .Add (.l 0) (.cI 1)) [.Lt] [.call 7 [.l 2]]]]] [140,153] [10]) [.NotEq] [.a []]) [.dF (.l 3) (.cS [101,109,112,116,121]) (.cT D1)] [],.g 15 (.call 158 [.sub (.l 10) (.cI 0)]),.bA (.nm 13) (.ex (.cU (.l 10) (Bc (.cI 1)) VG)) [.g 15 (.b .Add (.b .Add (.l 15) (.a [.cI 46])) (.call 158 [.l 13]))],.iff (.p (.call 159 [.call 39 [.l 5],.l 2,.l 4]) [.NotEq] [.ite (.jB (.l 3) Un) (.l 15) (.b .Add (.a [.cS [119,111,114,100,115]]) (.call 105 [.l 3]))]) [.av] [],.iff (.jB (.l 3) D1) [.ret (.cT D1)] [],.g 16 (.call 157 [.call 39 [.l 15],.l 2,.l 4]),.ret (.bj .And [.p (.call 39 [.sub (.l 16) (.cI 0)]) [.Eq] [.l 12],.p (.call 39 [.sub (.l 16) (.cI 1)]) [.Eq] [.a []],.p (.call 159 [.call 39 [.l 15],.l 2,.l 4]) [.Eq] [.l 15]])]
set_option genCtorIdx false in inductive kG(α:Type)where|lf|nd(k:Nat)(v:α)(l r:kG α)
noncomputable abbrev kG.l1{a:Type}(k:ak)(v:a):kG a:=.nd k v .lf .lf
noncomputable def fG{a:Type}(k:ak):kG a->aw a|.lf=>VG|.nd j v l r=>gt (motive:=λY=>aw a) (js k j) (gt (motive:=λY=>aw a) (qA k j) (fG k r) (fG k l)) (Bc v)
noncomputable def jK{a:Type}(p:ak->a->aA):kG a->aA|.lf=>D1|.nd j v l r=>p j v&&(jK p l&&jK p r)
theorem kE{t:kG d}:jK p t=D1->fG k t=Bc v->p k v=D1:=by induction t with|lf=>exactλY h=>bh h|nd j w l r i m=>intro a h;obtain⟨s,c⟩:=iA a;obtain⟨c,u⟩:=iA c;replace h:gt (motive:=λY=>aw d) (js k j) (gt (motive:=λY=>aw d) (qA k j) (fG k r) (fG k l)) (Bc w)=Bc v:=h;cases b:js k j with|true=>rw[b]at h;cases rx b;cases eF h;exact s|false=>rw[b]at h;cases f:qA k j with|true=>rw[f]at h;exact i c h|false=>rw[f]at h;exact m u h
noncomputable def YZ(l:ai (ai ak)):ai D:=l.map .str
noncomputable def GD(l:ai a0):ai D:=l.map .int
noncomputable def il(l:ai a0):D:=.list (l.map .int)
noncomputable def vI:ai ak:=[118,97,108,105,100]
noncomputable def nj(a:ai ak)(t:ai a0)(k:ai ak)(c:a0)(j b:ai ak):D:=.u [.str a,.u (GD t),.str k,.int c,.str j,.str b]
noncomputable def globT:kG D:=.nd 59 (.int 32) (.nd 14 (.int 21) (.nd 9 (.int 11172) (.nd 4 (.int 57343) (.nd 3 (.int 55296) (.l1 2 (.int 1114111)) .lf) (.l1 8 (.int 44032))) (.nd 12 (.int 4449) (.l1 11 (.int 4352)) (.l1 13 (.int 19)))) (.nd 48 (.int 48) (.nd 16 (.int 4519) (.l1 15 (.int 28)) (.l1 47 (.int 26))) (.nd 50 (.int 97) (.l1 49 (.int 65)) (.l1 51 (.int 10))))) (.nd 97 (.int 8204) (.nd 89 (.u (YZ [[82],[65,76],[65,78],[69,78],[69,83],[67,83],[69,84],[79,78],[66,78],[78,83,77]])) (.nd 80 (.int 45) (.l1 64 (.int 45)) (.l1 84 (.int 46))) (.nd 94 (.u (YZ [[77,110],[77,99],[77,101]])) (.l1 90 (.u (YZ [[76],[69,78],[69,83],[67,83],[69,84],[79,78],[66,78],[78,83,77]]))) (.l1 96 (.int 8205)))) (.nd 120 (.val (.type "bool")) (.nd 113 (.int 63) (.l1 101 (il [120,110,45,45])) (.l1 115 (.int 253))) (.nd 144 (.dict [(.u (GD [116,100,97])),(.u (GD [57,57])),(.u (GD [122,99,97])),(.u (GD [97,98,99,45])),(.u []),(.u (GD [110,118,103]))] [(il [252]),.none,(il [223]),(il [97,98,99]),(.list []),(il [8226])]) (.l1 139 (.dict (GD [98,49,45,65,97,95,173,223,8226,769,803,1576,1575,1488,1632,115,252,46,57,120,110,116,100,122,99,118,103]) [(nj vI [] [76,108] 0 [85] [76]),(nj vI [] [78,100] 0 [85] [69,78]),(nj vI [] [80,100] 0 [85] [69,83]),(nj [109,97,112,112,101,100] [97] [76,117] 0 [85] [76]),(nj vI [] [76,108] 0 [85] [76]),(nj vI [] [80,99] 0 [85] [79,78]),(nj [105,103,110,111,114,101,100] [] [67,102] 0 [84] [66,78]),(nj [100,101,118,105,97,116,105,111,110] [115,115] [76,108] 0 [85] [76]),(nj [100,105,115,97,108,108,111,119,101,100] [] [80,111] 0 [85] [79,78]),(nj vI [] [77,110] 230 [84] [78,83,77]),(nj vI [] [77,110] 220 [84] [78,83,77]),(nj vI [] [76,111] 0 [68] [65,76]),(nj vI [] [76,111] 0 [82] [65,76]),(nj vI [] [76,111] 0 [85] [82]),(nj vI [] [78,100] 0 [85] [65,78]),(nj vI [] [76,108] 0 [85] [76]),(nj vI [] [76,108] 0 [85] [76]),(nj vI [] [80,111] 0 [85] [67,83]),(nj vI [] [78,100] 0 [85] [69,78]),(nj vI [] [76,108] 0 [85] [76]),(nj vI [] [76,108] 0 [85] [76]),(nj vI [] [76,108] 0 [85] [76]),(nj vI [] [76,108] 0 [85] [76]),(nj vI [] [76,108] 0 [85] [76]),(nj vI [] [76,108] 0 [85] [76]),(nj vI [] [76,108] 0 [85] [76]),(nj vI [] [76,108] 0 [85] [76])])) (.l1 151 (.list [(il [97]),(il [49,98]),(il [252]),(il [1488]),(il [1576,1575]),(il [223]),(il [65,45]),(.list []),(il [769,98]),(il [8226]),(il [120,110,45,45,116,100,97]),(il [120,110,45,45,57,57]),(il [120,110,45,45,122,99,97]),(il [120,110,45,45,97,98,99,45]),(il [120,110,45,45]),(il [98,45,97]),(il [1488,49]),(il [65,98]),(il [1488,97]),(il [97,1488]),(il [1488,45,1488]),(il [1488,8226]),(il [1488,49,1632]),(il [1488,1632]),(il [1488,769]),(il [97,769]),(il [97,95]),(il [45,97]),(il [120,110,45,45,110,118,103]),(il [97,98,45,45,99]),(il [97,173,98]),(il [97,769,803])])))))
noncomputable def wd(k:ak):aw D:=fG k globT
noncomputable def Ex:kG (kG ak):=.nd 134 (.nd 25 171 (.l1 0 169) (.l1 133 170)) (.nd 61 (.nd 67 166 (.l1 52 165) .lf) (.nd 30 (.nd 36 163 (.l1 31 162) .lf) .lf .lf) .lf) (.nd 138 (.nd 24 175 (.l1 0 174) (.l1 133 173)) .lf .lf)
noncomputable def rz(c m:ak):aw ak:=(fG c Ex).bind (fG m)
def KR:kG (ak×ai D×ak×ai S):=.nd 107 (3,[],1,uR) (.nd 63 (2,[],2,Uu) (.nd 33 (5,[(.bool Un)],3,oC) (.nd 19 (1,[],1,ZG) (.nd 10 (1,[],1,XT) (.nd 6 (1,[],1,Rq) (.l1 5 (1,[],1,S4)) .lf) (.nd 18 (5,[],3,adB) (.l1 17 (4,[],1,adf)) .lf)) (.nd 27 (6,[],1,Xb) (.nd 23 (6,[],2,sv) (.l1 22 (9,[],3,Qm)) .lf) (.l1 29 (4,[],2,X2)))) (.nd 53 (2,[(.bool Un)],2,Wl) (.nd 37 (5,[],4,Vx) (.nd 35 (5,[.none],4,sj) (.l1 34 (9,[.none],3,pR)) .lf) (.l1 38 (9,[.none],4,Xm))) (.nd 60 (2,[],1,Ta) (.nd 56 (1,[],1,abn) (.l1 55 (1,[],1,XX)) .lf) (.l1 62 (2,[],2,abx))))) (.nd 87 (2,[],1,XI) (.nd 72 (12,[.none],2,V1) (.nd 69 (2,[],1,abu) (.nd 66 (8,[(.bool Un)],4,abK) (.l1 65 (2,[],2,Wp)) .lf) (.nd 71 (9,[],4,Yd) (.l1 70 (1,[],1,WX)) .lf)) (.nd 83 (2,[],2,ED) (.nd 82 (9,[],4,acb) (.l1 81 (5,[],3,WU)) .lf) (.l1 86 (2,[],2,Rt)))) (.nd 100 (2,[.none],2,aaQ) (.nd 93 (3,[],2,Vo) (.nd 92 (5,[.none],4,aep) (.l1 91 (1,[],1,UY)) .lf) (.l1 95 (7,[],4,acL))) (.nd 104 (5,[],3,SJ) (.nd 103 (1,[],1,Yu) (.l1 102 (7,[],4,aem)) .lf) (.l1 106 (8,[(.bool D1)],4,pe)))))) (.nd 157 (5,[],3,xT) (.nd 125 (2,[],2,Q6) (.nd 114 (4,[],1,uG) (.nd 110 (4,[],2,abQ) (.nd 109 (4,[],2,uN) (.l1 108 (3,[],3,aa9)) .lf) (.nd 112 (13,[.none,.none],3,Vq) (.l1 111 (3,[],1,vz)) .lf)) (.nd 118 (4,[],1,qb) (.nd 117 (1,[],1,aav) (.l1 116 (9,[],3,mE)) .lf) (.l1 124 (5,[],2,Tb)))) (.nd 148 (9,[],0,abY) (.nd 146 (9,[],3,mP) (.nd 129 (2,[],0,X0) (.l1 127 (6,[],1,VX)) .lf) (.l1 147 (4,[],1,nQ))) (.nd 154 (3,[],2,eG) (.nd 152 (9,[],3,tM) (.l1 150 (2,[],2,ad4)) .lf) (.l1 156 (4,[],1,Rj))))) (.nd 167 (8,[(.bool Un),(.bool D1),(.bool D1),(.bool D1),(.bool D1),(.bool Un),(.bool D1)],8,uc) (.nd 162 (4,[],3,XE) (.nd 160 (2,[.none],2,Qt) (.nd 159 (5,[],3,oi) (.l1 158 (19,[],1,YO)) .lf) (.l1 161 (4,[],2,VQ))) (.nd 165 (4,[],3,QT) (.nd 164 (8,[(.int 36),(.int 1),(.int 26),(.int 38),(.int 700),(.int 72),(.int 128)],8,ad2) (.l1 163 (3,[],2,SR)) .lf) (.l1 166 (5,[],4,adQ)))) (.nd 172 (1,[],1,ab0) (.nd 170 (9,[],4,Tg) (.nd 169 (2,[],2,VU) (.l1 168 (2,[],2,aci)) .lf) (.l1 171 (1,[],1,Wj))) (.nd 175 (2,[],2,abR) (.nd 174 (3,[],3,XU) (.l1 173 (5,[],5,YT)) .lf) (.l1 176 (17,[],1,gD))))))
def oQ(k:ak):aw (ak×ai D×ak×ai S):=fG k KR
noncomputable def uU{i:Type}{d:Sort _}(l:ai i)(b:d)(f:i->d):d:=ny (motive:=λY=>d) l b λa r=>ny (motive:=λY=>d) r (f a) λY Y=>b
@[elab_as_elim]theorem CZ{i:Type}{d:Sort _}{P:d->Prop}{M:ai i->Prop}{l:ai i}{b:d}{f:i->d}(c:¬P b)(h:P (uU l b f))(k:∀a,P (f a)->M [a]):M l:=ny (motive:=λl=>P (uU l b f)->M l) l (λh=>aL h c) (λa r=>ny (motive:=λr=>P (uU (a::r) b f)->M (a::r)) r (k a) λY Y h=>aL h c) h
noncomputable def sX{d:Type}{i:Sort _}(l:ai d)(b:i)(f:d->ai d->i):i:=ny (motive:=λY=>i) l b f
@[elab_as_elim]theorem F8{d:Type}{i:Sort _}{P:i->Prop}{M:ai d->Prop}{l:ai d}{b:i}{f:d->ai d->i}(c:¬P b)(h:P (sX l b f))(k:∀a r,P (f a r)->M (a::r)):M l:=ny (motive:=λl=>P (sX l b f)->M l) l (λh=>aL h c) k h
noncomputable def Ak{α:Sort _}(c:Cell)(z:α)(f:ai a0->a0->α):α:=if h:c.ctorIdx=2 then Cell.bW.elim (motive:=λY=>α) c h f else z
@[elab_as_elim]theorem Zt{α:Sort _}{P:α->Prop}{M:Cell->Prop}{c:Cell}{z:α}{f:ai a0->a0->α}(n:¬P z)(h:P (Ak c z f))(k:∀l m,P (f l m)->M (.bW l m)):M c:=if e:c.ctorIdx=2 then Cell.bW.elim (motive:=λc=>P (Ak c z f)->M c) c e k h else aL ((dif_neg e:Ak c z f=z)▸h) n
noncomputable def Ap{d:Sort _}(r:RC)(a:d)(f:Slot->ai Cell->d):d:=RC.casesOn (motive:=λY=>d) r f (λY Y=>a) a
@[elab_as_elim]theorem QY{d:Sort _}{P:d->Prop}{M:RC->Prop}{r:RC}{a:d}{f:Slot->ai Cell->d}(b:¬P a)(h:P (Ap r a f))(k:∀s c,P (f s c)->M (.ok s c)):M r:=RC.casesOn (motive:=λr=>P (Ap r a f)->M r) r k (λY Y h=>aL h b) (λh=>aL h b) h
def fnOf(k:ak)(N:Env)(a:ak)(d:ai D)(c:ai Cell):RC:=cY (oQ k) .fail λb=>kX N a b.1 b.2.1 b.2.2.1 b.2.2.2 d c
noncomputable def EN:kG ak:=.nd 134 168 (.nd 61 164 (.l1 30 161) .lf) (.nd 149 167 (.l1 138 172) .lf)
noncomputable def initK(k:ak):aw ak:=fG k EN
def qP(d:aw D)(cs:ai Cell):RC:=cY d .fail λd=>.ok (.sh d) cs
noncomputable def zY(k m:ak):aA:=js k 149&&js m 73
def one(a:ai Cell->D->aw D)(b:ai D)(cs:ai Cell):RC:=uU b .fail λd=>qP (a cs d) cs
def G1(d:D):aw D:=xb d (Fk d) λl=>IH (.bytes l)
def IF(a b:D):aw D:=mI a λa=>mI b λb=>Bc (.int (if b<a then b else a))
def Hx(a b:D):aw D:=mI a λa=>mI b λb=>Bc (.int (if b>a then b else a))
def Hl(v:D)(a:aw D):aw D:=if h:v.ctorIdx=8 then D.val.elim (motive_1:=λY=>aw D) v h λu=>(bY (decide (u=.type "bool")) ()).bind λY=>a else VG
def two(c:D->D->aw D)(d:ai D)(cs:ai Cell):RC:=tv d .fail λa b=>qP (c a b) cs
def KL(a:ai D)(cs:ai Cell):RC:=if js a.length 1 then one (λY=>minD) a cs else two IF a cs
def yb:ai (ak×Yj×(ai D->ai Cell->RC)):=[(7,.builtin "len",one λY=>NZ),(39,.type "list",one λY=>G1),(178,.type "list",one λY=>Fk),(145,.type "tuple",one λY=>Kj),(68,.type "bytes",one λY=>NS),(136,.type "int",one λY=>intD),(85,.builtin "any",one λY=>G5),(57,.builtin "min",KL),(32,.builtin "max",two Hx),(105,.builtin "sorted",one qJ),(119,.builtin "isinstance",two λd v=>Hl v (Du d))]
def xo{a:Type}(k:ak)(l:ai (ak×a)):aw a:=l.rec VG λp Y h=>if js p.1 k then Bc p.2 else h
def EF(k:ak)(a:ai D)(cs:ai Cell):RC:=cY (xo k yb) .fail λp=>p.2 a cs
def fj(c:Me)(a b:a0):aw a0:=cY (dE c (.int a) (.int b)) VG λs=>oX s VG λd=>iG d VG Bc
def qQ:ai a0->a0->aw a0:=e! Bc λc Y h m=>((((fj .Mult m 31).bind λa=>fj .Add a c).bind λa=>fj .Add a 1).bind λa=>fj .Mod a 1000003).bind h
def sS(N:Env)(a:ak)(b:ai D)(cs:ai Cell):RC:=uU b .fail λd=>jn (ev N a (.ss (nQ.take 1)) ⟨[.sh d,.ae,.ae,.ae],cs⟩) .fail λp c=>Bw p .fail (sX c.l .fail λY r=>sX r .fail λs r=>xv s .fail λl=>sX r .fail λs r=>oX s .fail λd=>iG d .fail λm=>uU r .fail λY=>cY (fV l) .fail λi=>cY (qQ i m) .fail λm=>.ok (.sh (.ref c.cells.length)) (c.cells++[.bW i m]))
def uh(b:ai D)(cs:ai Cell):RC:=tv b .fail λa k=>wu a .fail λr=>iG k .fail λk=>cY cs[r]? .fail λc=>Ak c .fail λl m=>ny (motive:=λY=>RC) l (cY (((fj .Mult m 4801).bind λa=>fj .Add a 97).bind λa=>fj .Mod a 1000003) .fail λy=>cY ((fj .FloorDiv y 7).bind λa=>fj .Mod a k) .fail λd=>.ok (.sh (.int d)) (cs.set r (.bW [] y))) λa l=>if qA (l.length+1) 1000 then cY (fj .Mod a k) .fail λd=>.ok (.sh (.int d)) (cs.set r (.bW l m))else .fail
noncomputable def Pb(k:ak):aA:=[7,39,178,145,68,136,85,57,32,105,119].any (js k)
def AU(a:ak)(r:RC):RC:=Ap r .fail λs cs=>oX s .fail λd=>vh d .fail (.ok (.sh (.ref a)) cs)
def cu(N:Env)(k:ak)(a:ai D)(cs:ai Cell):RC:=if Pb k then EF k a cs else if js k 147 then sS N 300 a cs else if js k 150 then uh a cs else cY (initK k) (fnOf k N 300 a cs) λi=>AU cs.length (fnOf i N 300 (.ref cs.length::a) (cs++[.inst k [] []]))
noncomputable def EJ(k:ak):aA:=js k 83||(js k 108||js k 117)
def wh(a:ak)(r:RC):RC:=Ap r r λs cs=>if uH a s&&(cs.take a).all (hV a)then .ok s (cs.take a)else r
def PS(k a:ak)(r:RC):RC:=if EJ k then wh a r else r
def aq:ak->ak->ai D->ai Cell->RC|0=>λY Y Y=>.fail|d+1=>λk a cs=>PS k cs.length (cu ⟨aq d,wd,rz,zY,0⟩ k a cs)
def adC(s:ai a0):RC:=aq 45 176 [.list (s.map .int)] []
def Bv(k:ak):aw Yj:=(xo k yb).map (·.1)
theorem lV{c:Prop}[Bs c]{B:Sort _}{P:B->Prop}{a b:B}{G:Prop}(h:P (if c then a else b))(t:c->P a->G)(e:¬c->P b->G):G:=if A:c then t A ((eI A:(if c then a else b)=a)▸h)else e A ((ej A:(if c then a else b)=b)▸h)
theorem LO{l:ai (ak×a)}:xo k l=Bc x->(k,x)∈l:=by induction l with|nil=>exactλh=>bh h|cons p r i=>exactλh=>lV (P:=(.=Bc x)) (b:=xo k r) h (λc h=>rx c▸eF h▸.head _) λY h=>.tail _ (i h)
theorem Iy{P:RC->Prop}{G:Prop}(a:¬P .fail)(h:P (qP d cs))(k:∀b,d=Bc b->P (.ok (.sh b) cs)->G):G:=gC (M:=λf=>d=f->G) a h (λc h b=>k c b h) rfl
theorem acp{P:RC->Prop}{G:Prop}(b:¬P .fail)(h:P (one g i cs))(k:∀d c,i=[d]->g cs d=Bc c->P (.ok (.sh c) cs)->G):G:=CZ (M:=λa=>i=a->G) b h (λd h f=>Iy b h λc j h=>k d c f j h) rfl
theorem XD{P:RC->Prop}{G:Prop}(b:¬P .fail)(h:P (two g i cs))(k:∀d a c,i=[d,a]->g d a=Bc c->P (.ok (.sh c) cs)->G):G:=B7 (M:=λa=>i=a->G) b h (λd a h f=>Iy b h λc j h=>k d a c f j h) rfl
abbrev Be(C:Cx)(a:ak)(p:ak×Yj×(ai D->ai Cell->RC)):Prop:=∀⦃args:ai D⦄⦃cs:ai Cell⦄{P:RC->Prop}{G:Prop},¬P .fail->P (p.2.2 args cs)->(∀b,P (.ok (.sh b) cs)->du C a (p.1 !=178) p.2.1 args cs (.sh b) cs->G)->G
section
variable{C:Cx}{n k:ak}{v:Yj}
theorem oY(H:∀{cs d a},g cs d=Bc a->du C n (k !=178) v [d] cs (.sh a) cs):Be C n (k,v,one g):=λY Y Y Y c h b=>acp c h λd a f i h=>b a h (f▸H i)
theorem FU(H:∀{cs d a b},g d a=Bc b->du C n (k !=178) v [d,a] cs (.sh b) cs):Be C n (k,v,two g):=λY Y Y Y f h c=>XD f h λd a b i j h=>c b h (i▸H j)
theorem J1{f:a0->a0->D}{M:D->D->D->Prop}(h:(mI a λa=>mI b λb=>Bc (f a b))=Bc e)(k:∀i j,M (.int i) (.int j) (f i j)):M a b e:=aj (iI h) λi c h=>aj (iI h) λj d h=>c▸d▸eF h▸k i j
theorem Ys:Be C n (57,.builtin "min",KL):=λf cs P G l h c=>lV h (λY h=>oY ad7 l h c) λY h=>FU (g:=IF) (λh=>J1 (M:=λa b d=>du C n D1 (.builtin "min") [a,b] _ (.sh d) _) h λi j=>R6) l h c
theorem UH(h:G1 d=Bc e):du C n D1 (.type "list") [d] cs (.sh e) cs:=Ot (P:=(.=Bc e)) (M:=λd=>du C n D1 (.type "list") [d] cs (.sh e) cs) h (λl h=>aaP h) (λh=>NR h)
theorem ZL(h:Hx d a=Bc b):du C n D1 (.builtin "max") [d,a] cs (.sh b) cs:=J1 (M:=λd a b=>du C n D1 (.builtin "max") [d,a] cs (.sh b) cs) h λi j=>Uv
theorem VW(h:Hl a (Du d)=Bc e):du C n D1 (.builtin "isinstance") [d,a] cs (.sh e) cs:=if c:a.ctorIdx=8 then D.val.elim a c (λu h=>aj (dA h) λY b f=>(hQ (bZ b).1:u=.type "bool")▸adT f) h else bh ((dif_neg c).symm.trans h)
theorem QG(n:ak)(c:dz C):∀p∈yb,Be C n p:=List.forall_mem_cons.mpr ⟨oY RH,List.forall_mem_cons.mpr ⟨oY UH,List.forall_mem_cons.mpr ⟨oY NR,List.forall_mem_cons.mpr ⟨oY ZK,List.forall_mem_cons.mpr ⟨oY adz,List.forall_mem_cons.mpr ⟨oY adv,List.forall_mem_cons.mpr ⟨oY Vs,List.forall_mem_cons.mpr ⟨Ys,List.forall_mem_cons.mpr ⟨FU ZL,List.forall_mem_cons.mpr ⟨oY (Sw c),List.forall_mem_cons.mpr ⟨FU VW,λY m=>aL m lR⟩⟩⟩⟩⟩⟩⟩⟩⟩⟩⟩
end
theorem NM(m:dz C){P:RC->Prop}{G:Prop}(l:¬P .fail)(h:P (EF k j cs))(a:∀b f,P (.ok (.sh b) cs)->Bv k=Bc f->du C n (k !=178) f j cs (.sh b) cs->G):G:=gC (M:=λi=>xo k yb=i->G) l h (λp h b=>QG n m _ (LO b) l h λd h c=>a d p.1 h (gO (V' λp:Yj×(ai D->ai Cell->RC)=>p.1) b) c) rfl
def xu:ai S:=[.g 2 (.b .Mod (.b .Add (.b .Add (.b .Mult (.l 2) (.cI 31)) (.l 3)) (.cI 1)) (.cI 1000003))]
theorem tX(h:fj j a b=Bc c):dE j (.int a) (.int b)=Bc (.sh (.int c)):=gC (P:=(.=Bc c)) (M:=λf=>f=Bc (.sh (.int c))) (λh=>bh h) h λs h=>tY (P:=(.=Bc c)) (M:=λs=>Bc s=Bc (.sh (.int c))) (λh=>bh h) h λd h=>lW (P:=(.=Bc c)) (M:=λd=>Bc (Slot.sh d)=Bc (.sh (.int c))) (λh=>bh h) h λi h=>eF h▸rfl
def BI:ai a0->Slot->Slot:=e! (λs=>s) λc Y h Y=>h (.sh (.int c))
theorem Q7(h:fV l=Bc p):∀(m k:a0)(c:Slot),qQ p m=Bc k->bQ (ev N 300) (.nm 3) xu l ⟨[d,.sh (.val (.ref b)),.sh (.int m),c],j⟩=.ok .ay ⟨[d,.sh (.val (.ref b)),.sh (.int k),BI p c],j⟩:=by
 refine AL (M:=λl p=>∀(m k:a0)(c:Slot),qQ p m=Bc k->bQ (ev N 300) (.nm 3) xu l ⟨[d,.sh (.val (.ref b)),.sh (.int m),c],j⟩=.ok .ay ⟨[d,.sh (.val (.ref b)),.sh (.int k),BI p c],j⟩) ?_ ?_ h
 .exactλm k c a=>eF a▸rfl
 .exactλf y l s r Y t m k c a=>lW (P:=(.=Bc y)) (M:=λf=>bQ (ev N 300) (.nm 3) xu (f::l) ⟨[d,.sh (.val (.ref b)),.sh (.int m),c],j⟩=.ok .ay ⟨[d,.sh (.val (.ref b)),.sh (.int k),BI (y::s) c],j⟩) (λh=>bh h) r λi r=>eF r▸Eq.trans (by rfl') (t (y7 (m*31+i+1) 1000003) k (.sh (.int i)) (eF r▸a))
theorem Iw{P:RC->Prop}{G:Prop}(t:¬P .fail)(h:P (sS N n w cs))(k:∀d u l m c y A j,w=[d]->ev N n (.ss (nQ.take 1)) ⟨[.sh d,.ae,.ae,.ae],cs⟩=.ok .ay ⟨[u,.o l,.sh (.int m),c],j⟩->fV l=Bc y->qQ y m=Bc A->P (.ok (.sh (.ref j.length)) (j++[.bW y A]))->G):G:=by
 refine CZ (M:=λa=>w=a->G) t h (λd h B=>yd (M:=λr=>ev N n (.ss (nQ.take 1)) ⟨[.sh d,.ae,.ae,.ae],cs⟩=r->G) t h (λp v h=>aej (M:=λp=>ev N n (.ss (nQ.take 1)) ⟨[.sh d,.ae,.ae,.ae],cs⟩=.ok p v->G) t h λh=>F8 (M:=λl=>_=R.ok .ay ⟨l,v.cells⟩->G) t h λu r h=>F8 (M:=λr=>_=R.ok .ay ⟨u::r,v.cells⟩->G) t h λs r h=>G6 (M:=λs=>_=R.ok .ay ⟨u::s::r,v.cells⟩->G) t h λl h=>F8 (M:=λr=>_=R.ok .ay ⟨u::.o l::r,v.cells⟩->G) t h λs r h=>tY (M:=λs=>_=R.ok .ay ⟨u::.o l::s::r,v.cells⟩->G) t h λb h=>lW (M:=λb=>_=R.ok .ay ⟨u::.o l::.sh b::r,v.cells⟩->G) t h λm h=>CZ (M:=λr=>_=R.ok .ay ⟨u::.o l::.sh (.int m)::r,v.cells⟩->G) t h λc h f=>?_) rfl) rfl;exact gC (M:=λi=>fV l=i->G) t h (λy h C=>gC (M:=λi=>qQ y m=i->G) t h (λA h F=>k d u l m c y A v.cells B f C F h) rfl) rfl
section
variable{C:Cx}{N:Env}{n v:ak}{u:a7}{w:s8}{p1:hI}{t:dt}{bb:ai hI}{x y:Str}{q1 q2 q3 q4 q5 q6 q7 q8:Pos}{i1 i2:ak}{aE:ai Yj}{j:ai D}{x0 x3:Str}
theorem adM(F:FnAt C u w [p1,.For t (.Name x q7) bb [] q8,.Return (Bc (.Dict [Bc (.Constant (.str "left") i1 q1),Bc (.Constant (.str "mixed") i2 q2)] [.Name x q3,.Name y q4] q5)) q6] aE j [x0,x,y,x3] 1 v [nQ.headD .av,.bA (.nm 3) (.ex (.l 1)) xu,.av])(s:∀r,gA (C.push r) n (ev N 300))(A:1=w.params.args.length)(h:sS N 300 f cs=.ok sl i):lA C (n+v+1) D1 (.ref u) f cs sl i:=Iw (P:=(.=.ok sl i)) RC.noConfusion h λd K l m c L B k G a p H h=>aU (RC.ok.inj h) λI J=>G▸I▸J▸acf (i:=1) (j:=2) F s rfl A a rfl (λb=>Q7 p m B c H) (λb=>rfl) (λb=>rfl) p rfl rfl
end
theorem GQ{f:a0->aw a0}{G:Prop}(h:a.bind f=Bc c)(k:∀d,a=Bc d->f d=Bc c->G):G:=aj (dA h) k
theorem MW{P:RC->Prop}{G:Prop}(p:¬P .fail)(h:P (uh j cs))(u:∀r k a l m d,j=[.ref r,.int k]->cs[r]?=Bc (.bW (a::l) m)->qA (l.length+1) 1000=D1->fj .Mod a k=Bc d->P (.ok (.sh (.int d)) (cs.set r (.bW l m)))->G)(v:∀r k m y d,j=[.ref r,.int k]->cs[r]?=Bc (.bW [] m)->(((fj .Mult m 4801).bind λa=>fj .Add a 97).bind λa=>fj .Mod a 1000003)=Bc y->((fj .FloorDiv y 7).bind λa=>fj .Mod a k)=Bc d->P (.ok (.sh (.int d)) (cs.set r (.bW [] y)))->G):G:=by
 refine B7 (M:=λa=>j=a->G) p h (λa b h=>DR (M:=λa=>j=[a,b]->G) p h λr h=>lW (M:=λb=>j=[.ref r,b]->G) p h λk h t=>gC (M:=λf=>cs[r]?=f->G) p h (λc h=>Zt (M:=λc=>cs[r]?=Bc c->G) p h λl m h i=>?_) rfl) rfl
 revert h i
 refine ny l ?_ ?_
 .exactλh i=>gC (M:=λf=>(((fj .Mult m 4801).bind λa=>fj .Add a 97).bind λa=>fj .Mod a 1000003)=f->G) p h (λy h w=>gC (M:=λf=>((fj .FloorDiv y 7).bind λa=>fj .Mod a k)=f->G) p h (λd h s=>v r k m y d t i w s h) rfl) rfl
 .exactλa l h i=>lV h (λc h=>gC (M:=λf=>fj .Mod a k=f->G) p h (λd h s=>u r k a l m d t i c s h) rfl) λY h=>aL h p
section
variable{C:Cx}{n p:ak}{i:a7}{fd:s8}{aE:ai Yj}{f:ai D}{x y:Str}{a1 a2 a3 a4 a5 a6 b1 b2 b3 s b5 j b7 b8 b9 c1 c2 c3 c4 c5 c6 c7 c8 c9 pq pG n9 oM d1 d2 d3 d4 d5 d6 d7 d8:Pos}{j1 j2 j3 j4 j5 j6 j7 j8 j9 pV:ak}
theorem abe(F:FnAt C i fd [vm x y a1 a2 a3 a4 a5 a6 b1 b2 b3 s b5 j b7 b8 b9 j1 j2 j3,wX x c1 c2 c3 c4 c5 c6 c7 c8 c9 pq pG n9 oM j4 j5 j6 j7 j8,xe x y d1 d2 d3 d4 d5 d6 d7 d8 j9 pV] aE f [x,y] 2 p [.av,.av,.av])(B:(s.endLine==j.line)=D1)(h:uh c cs=.ok sl t):lA C (n+p+1) D1 (.ref i) c cs sl t:=MW (P:=(.=.ok sl t)) RC.noConfusion h (λr k a l m d u v G w h=>aU (RC.ok.inj h) λb A=>u▸b▸A▸XZ F B v (mc G) (tX w)) λr k m M d u v b w h=>aU (RC.ok.inj h) λH I=>u▸H▸I▸GQ b λN b J=>GQ b λO b A=>GQ w λP K L=>QX F v (tX b) (tX A) (tX J) (tX K) (tX L)
end
def oH(d:ak):Env:=⟨aq d,wd,rz,zY,0⟩
theorem du.less{C:Cx}{c m:ak}{a b:aA}{f:Yj}{j:ai D}{i p:ai Cell}{r:Slot}(k:du C c a f j i r p)(h:c<=m)(d:a=D1->b=D1):du C m b f j i r p:=λA t cs s v l Q X u=>k A t cs s v l Q X (u.less h d)
theorem uE.less{C:Cx}{a m:ak}{f:Yj}{i:Str}{d:D}{c j:ai Cell}{l:Slot}(k:uE C a D1 f i d c l j)(h:a<=m):uE C m D1 f i d c l j:=λA p cs s v b Q X r=>k A p cs s v b Q X (r.less h id)
theorem sO.less{C:Cx}{a m:ak}{f:Yj}{b:ai D}{d:D}{c j:ai Cell}(k:sO C a f b c d j)(h:a<=m):sO C m f b c d j:=λA l cs s v i Q X r=>k A l cs s v i Q X (r.less h id)
structure xX(C:Cx):Prop where
dI:C.K.In C.h₀
bf:∀k f,Bv k=Bc f->C.fv k=Bc f/\eD C f
fn:∀k Oi dflt aW body,oQ k=Bc (Oi,dflt,aW,body)->initK k=VG->k≠147->k≠150->∃fa fd stmts aE ns lv,C.fv k=Bc (.ref fa)/\eD C (.ref fa)/\lv<=3/\ns.length=Oi/\FnAt C fa fd stmts aE dflt ns aW lv body
cl:∀k i Oi dflt aW body,initK k=Bc i->oQ i=Bc (Oi,dflt,aW,body)->∃Ca fa fd stmts aE ns lv,C.fv k=Bc (.ref Ca)/\eD C (.ref Ca)/\qT C k Ca fa/\lv<=3/\ns.length=Oi/\FnAt C fa fd stmts aE dflt ns aW lv body
dk:∃f,C.fv 147=Bc f/\eD C f/\∀(n d:ak),(∀fe,gA (C.push fe) n (ev (oH d) 300))->∀args cs sl cs',sS (oH d) 300 args cs=.ok sl cs'->lA C (n+4) D1 f args cs sl cs'
dw:∃f,C.fv 150=Bc f/\eD C f/\∀(n:ak)args cs sl cs',uh args cs=.ok sl cs'->lA C (n+4) D1 f args cs sl cs'
theorem N7{P:RC->Prop}{G:Prop}{a:ak}{r:RC}(c:¬P .fail)(h:P (AU a r))(k:∀cs,r=.ok (.sh .none) cs->P (.ok (.sh (.ref a)) cs)->G):G:=QY (M:=λf=>r=f->G) c h (λs cs h=>tY (M:=λs=>r=.ok s cs->G) c h λd h=>EW (M:=λd=>r=.ok (.sh d) cs->G) c h λh b=>k cs b h) rfl
theorem OP{P:RC->Prop}{G:Prop}{k:ak}{N:Env}{c:ak}{m:ai D}{cs:ai Cell}(r:¬P .fail)(h:P (fnOf k N c m cs))(f:∀a d p b,oQ k=Bc (a,d,p,b)->P (kX N c a d p b m cs)->G):G:=gC (M:=λi=>oQ k=i->G) r h (λj h l=>f j.1 j.2.1 j.2.2.1 j.2.2.2 l h) rfl
theorem Kx{P:RC->Prop}{G:Prop}{N:Env}{k:ak}{l:ai D}{cs:ai Cell}(t:¬P .fail)(h:P (cu N k l cs))(v:P (EF k l cs)->G)(w:147=k->P (sS N 300 l cs)->G)(y:150=k->P (uh l cs)->G)(A:k≠178->∀i a d p b m,initK k=Bc i->oQ i=Bc (a,d,p,b)->kX N 300 a d p b (.ref cs.length::l) (cs++[.inst k [] []])=.ok (.sh .none) m->P (.ok (.sh (.ref cs.length)) m)->G)(B:k≠178->k≠147->k≠150->∀a d p b,initK k=VG->oQ k=Bc (a,d,p,b)->P (kX N 300 a d p b l cs)->G):G:=by
 refine lV h (λY=>v) λC h=>lV h (λc h=>w (rx c).symm h) λF h=>lV h (λc h=>y (rx c).symm h) λH h=>?_
 have u:k≠178:=λf=>C (gO Pb f)
 have I:∀j,initK k=j->P (cY j (fnOf k N 300 l cs) λi=>AU cs.length (fnOf i N 300 (.ref cs.length::l) (cs++[.inst k [] []])))->G:=λj=>Pr j (λf h=>OP t h λa d p b r h=>B u (λf=>F (gO (js . 147) f)) (λf=>H (gO (js . 150) f)) a d p b f r h) λi f h=>N7 t h λm s h=>OP (P:=(.=.ok (.sh .none) m)) RC.noConfusion s λa d p b r s=>A u i a d p b m f r s h;exact I _ rfl h
theorem OF{P:RC->Prop}{G:Prop}{k m:ak}{r:RC}(h:P (PS k m r))(b:P r->G)(i:∀s cs,r=.ok s cs->P (.ok s (cs.take m))->uH m s=D1->(cs.take m).all (hV m)=D1->G):G:=lV h (λY h=>RC.casesOn (motive:=λf=>r=f->P (wh m f)->G) r (λs cs a h=>lV h (λc h=>i s cs a h (iA c).1 (iA c).2) λY h=>b (a▸h)) (λd cs a h=>b (a▸h)) (λa h=>b (a▸h)) rfl h) λY h=>b h
theorem abd{C:Cx}(H:C.K.In C.h₀)(I:∃i l p s A t u B r,C.fv 149=Bc (.ref i)/\eD C (.ref i)/\qT C 149 i l/\u<=3/\t.length=8/\FnAt C l p s A [.bool Un,.bool D1,.bool D1,.bool D1,.bool D1,.bool Un,.bool D1] t 8 u uc/\p.params.args.map (·.arg)=B::C.nm 73::r){d a:ak}(v:∀J,gA (C.push J) a (ev (oH d) 300)){k m:ak}{b:D}{cs c:ai Cell}{j:Slot}(h:aq (d+1) k [b] cs=.ok j c)(w:zY k m=D1):∃f,C.fv k=Bc f/\eD C f/\uE C (a+5) D1 f (C.nm m) b cs j c:=by refine rx (iA w).2▸?_;have G:=rx (iA w).1;rw[G]at h⊢;clear G w;refine N7 (P:=(.=.ok j c)) RC.noConfusion (show AU cs.length (kX (oH d) 300 8 [.bool Un,.bool D1,.bool D1,.bool D1,.bool D1,.bool Un,.bool D1] 8 uc [.ref cs.length,b] (cs++[.inst 149 [] []]))=.ok j c from h) λV K h=>aU (RC.ok.inj h) λL M=>L▸M▸(qz I λi l p s A t u B y=>VI y λr y N O P Q F U=>dX _ y N ((RD H O F v U (Q.symm▸K)).less (ut (s5 (s5 P 1) 1) a)))
theorem OA{a l:ak}(b:l<=3):a+l+1<=a+5:=ut (gY (s5 b 1) (tm 4)) a
theorem UM{a l:ak}(b:l<=3):a+l+1+1<=a+5:=ut (s5 b 2) a
theorem Kv{C:Cx}(t:xX C)(Q:dz C){d c:ak}(u:∀U,gA (C.push U) c (ev (oH d) 300)){k:ak}{r:ai D}{cs s:ai Cell}{w:Slot}(h:cu (oH d) k r cs=.ok w s):∃f,C.fv k=Bc f/\eD C f/\du C (c+5) (k !=178) f r cs w s:=Kx (P:=(.=.ok w s)) RC.noConfusion h (λh=>NM (P:=(.=.ok w s)) Q RC.noConfusion h λj f h P l=>aU (RC.ok.inj h) λy A=>y▸A▸(dX f ((t.bf k f P).1) ((t.bf k f P).2) l)) (λB h=>B▸cJ t.dk λf j G m=>dX f j G ((m c d u r cs w s h).g.less (tm _) (λY=>rfl))) (λB h=>B▸cJ t.dw λf j G m=>dX f j G ((m c r cs w s h).g.less (tm _) (λY=>rfl))) (λH i a V p b ax I J K h=>aU (RC.ok.inj h) λy A=>y▸A▸adG (t.cl k i _ _ _ _ I J) λCa W X v Z ns lv L M N O e5 F=>dX _ L M ((aeH t.dI N (Od F u (e5.symm▸K))).g.less (UM O) (λY=>bne_iff_ne.mpr H))) λH n1 n2 a V p b I J K=>HK (t.fn k _ _ _ _ J I n1 n2) λW X v Z ns lv L M N O F=>dX _ L M ((Od F u (O.symm▸K)).g.less (OA N) (λY=>bne_iff_ne.mpr H))
theorem Px{C:Cx}(t:xX C)(p:dz C){d a:ak}(l:∀r,gA (C.push r) a (ev (oH d) 300)){k:ak}{i:ai D}{cs j:ai Cell}{m:Slot}(h:aq (d+1) k i cs=.ok m j):∃f,C.fv k=Bc f/\eD C f/\du C (a+5) (k !=178) f i cs m j:=OF (P:=(.=.ok m j)) h (λh=>Kv t p l h) λs c b h u v=>aU (RC.ok.inj h) λw y=>w▸y▸cJ (Kv t p l b) λf A B F=>dX f A B (ZR F u v)
theorem Rv{C:Cx}(t:xX C)(r:dz C){d c:ak}(s:∀u,gA (C.push u) c (ev (oH d) 300)){k:ak}{l:ai D}{cs j:ai Cell}{i:D}(h:aq (d+1) k l cs=.exc i j):k≠178/\∃f,C.fv k=Bc f/\eD C f/\sO C (c+5) f l cs i j:=OF (P:=(.=.exc i j)) h (λh=>Kx (P:=(.=.exc i j)) RC.noConfusion h (λh=>NM (n:=0) (P:=(.=.exc i j)) r RC.noConfusion h λY Y h=>RC.noConfusion h) (λY h=>Iw (P:=(.=.exc i j)) RC.noConfusion h λY Y Y Y Y Y Y Y Y Y Y Y h=>RC.noConfusion h) (λY h=>MW (P:=(.=.exc i j)) RC.noConfusion h (λY Y Y Y Y Y Y Y Y Y h=>RC.noConfusion h) λY Y Y Y Y Y Y Y Y h=>RC.noConfusion h) (λY Y Y Y Y Y Y Y Y Y h=>RC.noConfusion h) λv w y a L p b A B G=>HK (t.fn k _ _ _ _ B A w y) λM N m O P Q H I J K F=>⟨v,_,H,I,(Xu F s (K.symm▸G)).less (OA J)⟩) λY Y Y h=>RC.noConfusion h
structure Good(C:Cx)(U fI:a7):Prop where
tk:xX C
ck:dz C
kl:C.gz=178
kw:∃Ca fa fd stmts aE ns lv n0 r,C.fv 149=Bc (.ref Ca)/\eD C (.ref Ca)/\qT C 149 Ca fa/\lv<=3/\ns.length=8/\FnAt C fa fd stmts aE [.bool Un,.bool D1,.bool D1,.bool D1,.bool D1,.bool Un,.bool D1] ns 8 lv uc/\fd.params.args.map (·.arg)=n0::C.nm 73::r
nC:∀k f,C.fv k=Bc f->C.gk k=D1->jj C (C.nm k) f
rJ:∀k,C.gk k=D1->∃f,C.fv k=Bc f/\eD C f
glob:∀k d,wd k=Bc d->∃v,jj C (C.nm k) v/\Rd C.w.params [] (λa o=>C.h₀.get? a=Bc o) d v
dN:∀k,(C.nm k==("__debug__":Str))=Un
cH:∀c m i,rz c m=Bc i->∀a,C.cls c=Bc a->∃f,C.fv i=Bc (.ref f)/\l5 C.K (.ref a) (C.nm m)=Bc (Bc (.ref f))/\Mb C.K (.ref f)=Bc (.type "function")/\∀k,C.fk k=D1->C.nm k≠C.nm m
get:C.nm 0=("get":Str)
b:qG C U fI
bi:tZ C fI
gv:jj C (C.nm C.ju) (.ref C.bad)kp:eD C (.ref C.bad)
theorem QL{C:Cx}{U F:a7}(H:∀fr,Good {C with fr:=fr} U F)(d:ak):∀fr,xh {C with fr:=fr} (oH d) (5*d) U F:=by have G:∀N n,(∀fr,xh {C with fr:=fr} N n U F)->∀fr,∀I,gA (Cx.push {C with fr:=fr} I) n (ev N 300):=λN n h fr I=>(CP (h (I::fr)) 300).1.ss;induction d with
|zero=>exactλfr=>
    { nk:={gW:=(H fr).ck,call:=(λY Y Y Y Y h=>RC.noConfusion h),nC:=(H fr).nC,rJ:=(H fr).rJ,glob:=(H fr).glob,dN:=(H fr).dN,cH:=(H fr).cH,get:=(H fr).get,T3:=(λY Y Y Y Y Y h=>RC.noConfusion h)}
      nx:=(λY Y Y Y Y h=>RC.noConfusion h)
      b:=(H fr).b,bi:=(H fr).bi,gv:=(H fr).gv,kp:=(H fr).kp}
|succ d J=>exactλfr=>
    { nk:={gW:=(H fr).ck,call:=λk B A sl K h=>(H fr).kl▸Px (H fr).tk (H fr).ck (G _ _ J fr) h,nC:=(H fr).nC,rJ:=(H fr).rJ,glob:=(H fr).glob,dN:=(H fr).dN,cH:=(H fr).cH,get:=(H fr).get,T3:=λk m x A sl K h L=>abd (H fr).tk.dI (H fr).kw (G _ _ J fr) h L}
      nx:=λk B A e K h=>(H fr).kl▸Rv (H fr).tk (H fr).ck (G _ _ J fr) h
      b:=(H fr).b,bi:=(H fr).bi,gv:=(H fr).gv,kp:=(H fr).kp}
noncomputable def Q1:D:=.u [(.str [100,105,115,97,108,108,111,119,101,100]),(.u [])]
def Yt:D:=.u [.str vI,.u []]
noncomputable def k1:Cell:=.inst 138 [128,130,131,132] [(.ref 2),(.ref 3),(.ref 4),(.ref 5)]
def k2:Cell:=.dict (YZ [[103,99],[99,99,99],[98,99],[108,98],[101,97],[115,99],[106,116],[105,110,99,98],[103,99,98],[119,98],[115,98],[101,120],[115,100],[99,97,115,101,100],[99,105],[101,112],[100,105],[105,100,115],[105,100,99],[120,105,100,115],[120,105,100,99],[112,97,116,95,115,121,110],[112,97,116,95,119,115],[105,100,115,116],[100,109],[117,99],[108,99],[116,99],[99,102],[98,109],[98,112,98],[115,99,120],[110,116],[110,118],[110,97,109,101],[99,111,110,102],[110,102,107,99,95,99,102],[115,117,99],[115,108,99],[115,116,99],[97,108,105,97,115],[105,100,110,97]]) [(.str [67,110]),(.int 0),(.str [76]),(.str [88,88]),(.str [78]),(.str [90,122,122,122]),(.str [85]),(.str [78,111,110,101]),(.str [79,116,104,101,114]),(.str [79,116,104,101,114]),(.str [79,116,104,101,114]),(.bool Un),(.bool Un),(.bool Un),(.bool Un),(.bool Un),(.bool Un),(.bool Un),(.bool Un),(.bool Un),(.bool Un),(.bool Un),(.bool Un),(.bool Un),.none,.none,.none,.none,.none,.none,.none,.none,.none,.none,.none,.none,.none,(.u []),(.u []),(.u []),(.u []),Q1]
def k3:Cell:=.dict (YZ [[105,100,110,97],[103,99],[99,99,99],[106,116],[98,99],[100,109]]) [(.ref 6),(.ref 7),(.ref 8),(.ref 9),(.ref 10),(.ref 15)]
noncomputable def k4:Cell:=.dict [] []
def k6:Cell:=.inst 134 [121,122,123] [Q1,(il [0,45,47,48,58,65,66,95,96,97,123,173,174,223,224,252,253,769,770,803,804,1488,1489,1575,1577,1632,1633]),(.list [Q1,Yt,Q1,Yt,Q1,(.u [(.str [109,97,112,112,101,100]),(.u (GD [97]))]),Q1,Yt,Q1,Yt,Q1,(.u [(.str [105,103,110,111,114,101,100]),(.u [])]),Q1,(.u [(.str [100,101,118,105,97,116,105,111,110]),(.u (GD [115,115]))]),Q1,Yt,Q1,Yt,Q1,Yt,Q1,Yt,Q1,Yt,Q1,Yt,Q1])]
def k7:Cell:=.inst 134 [121,122,123] [(.str [67,110]),(il [0,769,770,803,804]),(.list (YZ [[67,110],[77,110],[67,110],[77,110],[67,110]]))]
def k8:Cell:=.inst 134 [121,122,123] [(.int 0),(il [0,769,770,803,804]),(il [0,230,0,220,0])]
def k9:Cell:=.inst 134 [121,122,123] [(.str [85]),(il [0,769,770,803,804,1575,1576,1577]),(.list (YZ [[85],[84],[85],[84],[85],[82],[68],[85]]))]
def wF:Cell:=.inst 134 [121,122,123] [(.str [76]),(il [0,45,46,47,48,58,95,96,769,770,803,804,1488,1489,1575,1577,1632,1633,8226,8227]),(.list (YZ [[76],[69,83],[67,83],[76],[69,78],[76],[79,78],[76],[78,83,77],[76],[78,83,77],[76],[82],[76],[65,76],[76],[65,78],[76],[79,78],[76]]))]
noncomputable def CI:Cell:=.inst 30 [26,28] [(.ref 14),(.ref 16)]
def Dv:Cell:=.inst 134 [121,122,123] [.none,(il [0]),(.list [.none])]
def O9:Cell:=.dict (YZ [[105,100,110,97],[103,99],[99,99,99],[106,116],[98,99]]) [(.ref 6),(.ref 7),(.ref 8),(.ref 9),(.ref 10)]
noncomputable def rY(t:aA):Cell:=.inst 149 [73,74,75,76,77,78,79] [.bool t,.bool D1,.bool D1,.bool D1,.bool D1,.bool Un,.bool D1]
def KA(d f:Cell)(t:aA):ai Cell:=[d,k1,k2,O9,k4,k4,k6,k7,k8,k9,wF,f,rY t]
def KB(d f:Cell)(t:aA)(a:ai Cell):ai Cell:=d::k1::k2::k3::k4::k4::k6::k7::k8::k9::wF::f::rY t::CI::k4::Dv::k4::a
abbrev NV(c:ak->ai D->ai Cell->RC):Env:=⟨c,wd,rz,zY,0⟩
noncomputable def FG(a:ak)(r:RC):RC:=match r with|.ok s cs=>.ok s (cs.take a)|r=>r
end Mine
end
section
open PySem PySem.W
namespace Mine.L
def fin(r:R):RC:=yP r
theorem sm{l:ai a}(h:l.length<=100000):aM l=D1:=NE h
theorem aB(h:rec (.s s) st=.ok .ay st1):cA rec (s::r) st=cA rec r st1:=gO (λy=>cA.match_1 (λY=>R) y (cA rec r) λa=>a) h
theorem ik(h:rec (.s s) st=.ok (.ret sl) b):cA rec (s::r) st=.ok (.ret sl) b:=gO (λy=>cA.match_1 (λY=>R) y (cA rec r) λa=>a) h
theorem CJ(h:rec (.s s) st=.exc d b):cA rec (s::r) st=.exc d b:=gO (λy=>cA.match_1 (λY=>R) y (cA rec r) λa=>a) h
theorem qi{P:ai D->St->Prop}(d:∀a r s,P (a::r) s->∃b c,iw tg a s.l=Bc b/\rec (.ss body) ⟨b,s.cells⟩=.ok .ay c/\P r c):∀(l:ai D)(s:St),P l s->∃f,bQ rec tg body l s=.ok .ay f/\P [] f:=by intro l;induction l with|nil=>exactλs h=>aF s rfl h|cons a r i=>intro s h;refine dG (d a r s h) λb c j k m=>?_;refine aj (i c m) λf p t=>?_;refine aF f ?_ t;show rO (iw tg a s.l) (λb=>(rec (.ss body) ⟨b,s.cells⟩).i6 λs=>bQ rec tg body r s)=_;refine aa j ?_;show(rec (.ss body) ⟨b,s.cells⟩).i6 _=_;exact aa k p
section
variable{N:Env}{n k i:ak}{e a b t:E}{l args:ai E}{st st1 st2:St}{sl:Slot}{ds:ai D}{d:D}{r:R}{cs':ai Cell}{x y:ai S}{c:aA}{tg:cO}{bd:ai S}{q:St}
theorem x_call(h:dK (ev N n) args st=.ok (.ds ds) st1)(f:N.call k ds st1.cells=.ok sl cs'):ev N (n+1) (.x (.call k args)) st=.ok (.o sl) ⟨st1.l,cs'⟩:=by show(dK (ev N n) args st).mr (λds st=>(N.call k ds st.cells).to st.l)=_;refine aa h ?_;show(N.call k ds st1.cells).to st1.l=_;exact aa f rfl
theorem ssq(h:cA (ev N n) x st=r):ev N (n+1) (.ss x) st=r:=h
theorem aV(h:ev N n (.x e) st=.ok (.o sl) st1)(f:fz sl=Bc d):ev N (n+1) (.e e) st=vD d st1:=by show(ev N n (.x e) st).iK (λs st=>oD (fz s) st)=_;refine aa h ?_;show oD (fz sl) st1=_;exact aa f rfl
theorem fw(h:ev N n (.x a) st=.ok (.o sl) st1):ev N (n+1) (.s (.g i a)) st=.ok .ay ⟨st1.l.set i sl,st1.cells⟩:=by show(ev N n (.x a) st).iK (λs st=>.ok .ay ⟨st.l.set i s,st.cells⟩)=_;exact aa h rfl
theorem sE(h:ev N n (.e a) st=vD (.u ds) st1)(f:nP A ds st1.l=Bc m):ev N (n+1) (.s (.i5 A a)) st=.ok .ay ⟨m,st1.cells⟩:=by show(ev N n (.e a) st).kA (λv st=>rT v λds=>rO (nP A ds st.l) λj=>.ok .ay ⟨j,st.cells⟩)=_;refine aa h ?_;show rO (nP A ds st1.l) (λj=>R.ok .ay ⟨j,st1.cells⟩)=_;exact aa f rfl
theorem xk(h:dK (ev N n) l st=.ok (.ds ds) st1):ev N (n+1) (.x (.u l)) st=.ok (.o (.sh (.u ds))) st1:=by show((dK (ev N n) l st).bindL λds st=>vD (.u ds) st).bC=_;exact aa h rfl
theorem gw(h:rec (.e e) st=vD d st1)(f:dK rec l st1=.ok (.ds ds) st2):dK rec (e::l) st=.ok (.ds (d::ds)) st2:=by show(rec (.e e) st).kA (λd st=>(dK rec l st).bindL λds st=>.ok (.ds (d::ds)) st)=_;refine aa h ?_;show(dK rec l st1).bindL _=_;exact aa f rfl
theorem nD(h:ev N n (.e a) st=vD d st1):ev N (n+1) (.s (.ret a)) st=.ok (.ret (.sh d)) st1:=by show(ev N n (.e a) st).kA (λd st=>.ok (.ret (.sh d)) st)=_;exact aa h rfl
theorem uB(j:ownAt st.l i=D1)(h:ev N n (.e a) st=vD d st1)(p:st1.l[i]?=Bc (.o F))(e:zF d=Bc m)(f:aM F=D1)(s:aM m=D1):ev N (n+1) (.s (.ext i a)) st=.ok .ay ⟨st1.l.set i (.o (F++m)),st1.cells⟩:=by show bk (ownAt st.l i) ((ev N n (.e a) st).aT λd st=>gm st.l[i]? λl=>rO (zF d) λm=>bk (aM l&&aM m) (.ok .ay ⟨st.l.set i (.o (l++m)),st.cells⟩))=_;refine aa j (aa h ?_);show gm st1.l[i]? (λl=>rO (zF d) λm=>bk (aM l&&aM m) (.ok .ay ⟨st1.l.set i (.o (l++m)),st1.cells⟩))=_;refine aa p (aa e ?_);show bk (aM F&&aM m) _=_;exact aa f (aa s rfl)
theorem lL(j:ownAt st.l i=D1)(h:ev N n (.x a) st=.ok (.o sl) st1)(p:st1.l[i]?=Bc (.o F))(e:fz sl=Bc d)(f:aM F=D1):ev N (n+1) (.s (.app i a)) st=.ok .ay ⟨st1.l.set i (.o (F++[d])),st1.cells⟩:=by show bk (ownAt st.l i) ((ev N n (.x a) st).qW λs st=>uo st.l[i]? (λl=>rO (fz s) λd=>bk (aM l) (.ok .ay ⟨st.l.set i (.o (l++[d])),st.cells⟩)) λl=>gm (Bc s) λm=>bk (aM l) (.ok .ay ⟨st.l.set i (.bS (l++[m])),st.cells⟩))=_;refine aa j (aa h ?_);show uo st1.l[i]? (λl=>rO (fz sl) λd=>bk (aM l) (.ok .ay ⟨st1.l.set i (.o (l++[d])),st1.cells⟩)) _=_;refine aa p ?_;refine aa e ?_;show bk (aM F) _=_;exact aa f rfl
theorem IX(j:ownAt st.l i=D1)(h:ev N n (.x a) st=.ok (.o (.o m)) st1)(p:st1.l[i]?=Bc (.bS F))(f:aM F=D1):ev N (n+1) (.s (.app i a)) st=.ok .ay ⟨st1.l.set i (.bS (F++[m])),st1.cells⟩:=by show bk (ownAt st.l i) ((ev N n (.x a) st).qW λs st=>uo st.l[i]? (λl=>rO (fz s) λd=>bk (aM l) (.ok .ay ⟨st.l.set i (.o (l++[d])),st.cells⟩)) λl=>gm (Bc s) λm=>bk (aM l) (.ok .ay ⟨st.l.set i (.bS (l++[m])),st.cells⟩))=_;refine aa j (aa h ?_);show uo st1.l[i]? _ (λl=>gm (Bc (.o m)) λm=>bk (aM l) (.ok .ay ⟨st1.l.set i (.bS (l++[m])),st1.cells⟩))=_;refine aa p ?_;show bk (aM F) _=_;exact aa f rfl
theorem ew(h:ev N n (.t t) st=vB c st1):ev N (n+1) (.s (.iff t x y)) st=(if c then ev N n (.ss x) st1 else ev N n (.ss y) st1):=by show(ev N n (.t t) st).bindB (λc st=>if c then ev N n (.ss x) st else ev N n (.ss y) st)=_;exact aa h rfl
theorem rA(h:ev N n (.e a) st=vD d st1)(j:oE d=Bc m)(f:bQ (ev N n) tg bd m st1=r):ev N (n+1) (.s (.bA tg (.ex a) bd)) st=r:=by show(((ev N n (.e a) st).aT λd st=>rO (oE d) λl=>vL l st).bindL λp st=>bQ (ev N n) tg bd p st)=_;refine aa h ?_;show((rO (oE d) λl=>vL l st1).bindL λp st=>bQ (ev N n) tg bd p st)=_;exact aa j f
theorem ij(h:ev N n (.e a) st=vD v st1)(f:ev N n (.e b) st1=vD w st2)(j:dE m v w=Bc sl):ev N (n+1) (.x (.b m a b)) st=.ok (.o sl) st2:=by show((ev N n (.e a) st).aT λv st=>(ev N n (.e b) st).aT λw st=>oS (dE m v w) st).bC=_;refine aa h ?_;show((ev N n (.e b) st1).aT λw st=>oS (dE m v w) st).bC=_;refine aa f ?_;show(oS (dE m v w) st2).bC=_;exact aa j rfl
end
section
variable{j:ak->ai D->ai Cell->RC}{cs p:ai Cell}
noncomputable def mv:D:=.str [100,105,115,97,108,108,111,119,101,100]
noncomputable abbrev lJ:S->ai S|.bA _ _ b=>b|_=>[]
abbrev wI:ai S:=lJ (pe.getD 1 .av)
def yS:aw (ai a0)->D|some l=>il l|none=>.none
theorem RT{i:a0->aw (ai a0)}(N:∀c∈l,j 82 [.int c,d,d2,f] cs=.ok (.sh (yS (i c))) cs/\∀m,i c=Bc m->m.length<=2)(O:l.length<=1000)(P:j 83 [il (l.flatMap λc=>(i c).getD [c]),d] cs=.ok (.sh (il M)) p):cu (NV j) 106 [il l,d,d2,f] cs=.ok (.sh (.u [il M,.list (if l.any (λc=>(i c).isNone)then[mv]else[])])) p:=by
 haveI L:=qi (rec:=ev (NV j) 298) (tg:=.nm 6) (body:=wI) (P:=λt A=>∃(r:ai a0)(F:ai a0)(W:ai D)(w k:Slot),t=r.map .int/\(∀c∈r,c∈l)/\A=⟨[.sh (il l),.sh d,.sh d2,.sh f,.o (F.map .int),.o W,w,k],cs⟩/\F++r.flatMap (λc=>(i c).getD [c])=l.flatMap (λc=>(i c).getD [c])/\(if r.any (λc=>(i c).isNone)then[mv]else W)=(if l.any (λc=>(i c).isNone)then[mv]else[])/\F.length+2*r.length<=2000) (by clear O;rintro a t A⟨r,F,W,w,k,I,H,rfl,C,y,J⟩;cases r with|nil=>cases I|cons c r=>
refine aU (JB I) λQ U=>?_
refine aa Q ?_
refine aa U ?_
obtain⟨V,K⟩:=N c (H c (.head _))
refine⟨[.sh (il l),.sh d,.sh d2,.sh f,.o (F.map .int),.o W,.sh (.int c),k],?_⟩
haveI G:∀W,ev (NV j) 297 (.s (wI.getD 0 .av)) ⟨[.sh (il l),.sh d,.sh d2,.sh f,.o (F.map .int),.o W,.sh (.int c),k],cs⟩=((j 82 [.int c,d,d2,f] cs).to [.sh (il l),.sh d,.sh d2,.sh f,.o (F.map .int),.o W,.sh (.int c),k]).iK λs A=>.ok .ay ⟨A.l.set 7 s,A.cells⟩:=λW=>by rfl'
rw[V]at G;cases u:i c with|some m=>
rw[u]at G
refine⟨⟨[.sh (il l),.sh d,.sh d2,.sh f,.o ((F++m).map .int),.o W,.sh (.int c),.sh (il m)],cs⟩,rfl,?_,r,F++m,W,_,_,rfl,λc h=>H c (.tail _ h),rfl,?_,?_,?_⟩
.refine(aB (G W)).trans ((aB (st1:=⟨[.sh (il l),.sh d,.sh d2,.sh f,.o (F.map .int),.o W,.sh (.int c),.sh (il m)],cs⟩) (by rfl')).trans ((aB ?_).trans rfl))
 haveI v:ev (NV j) 297 (.s (wI.getD 2 .av)) ⟨[.sh (il l),.sh d,.sh d2,.sh f,.o (F.map .int),.o W,.sh (.int c),.sh (il m)],cs⟩=bk (aM (F.map D.int)&&aM (m.map D.int)) (.ok .ay ⟨[.sh (il l),.sh d,.sh d2,.sh f,.o (F.map .int++m.map .int),.o W,.sh (.int c),.sh (il m)],cs⟩):=by rfl'
 rw[sm (by rw[fx];exact q1),sm (by rw[fx];haveI :=K m u;exact q0)]at v;exact aa lZ v
.rw[su,<-C,Di,u];rfl
.rw[<-y,qE,u];rfl
.haveI :=K m u
 rw[lk];rw[hS]at J;exact q5|none=>
rw[u]at G
refine⟨⟨[.sh (il l),.sh d,.sh d2,.sh f,.o ((F++[c]).map .int),.o [mv],.sh (.int c),.sh (il [c])],cs⟩,rfl,?_,r,F++[c],[mv],_,_,rfl,λc h=>H c (.tail _ h),rfl,?_,?_,?_⟩
.refine(aB (G W)).trans ((aB (st1:=⟨[.sh (il l),.sh d,.sh d2,.sh f,.o (F.map .int),.o [mv],.sh (.int c),.o [.int c]],cs⟩) (by rfl')).trans ((aB ?_).trans rfl))
 have v:ev (NV j) 297 (.s (wI.getD 2 .av)) ⟨[.sh (il l),.sh d,.sh d2,.sh f,.o (F.map .int),.o [mv],.sh (.int c),.o [.int c]],cs⟩=bk (aM (F.map D.int)&&D1) (.ok .ay ⟨[.sh (il l),.sh d,.sh d2,.sh f,.o (F.map .int++[.int c]),.o [mv],.sh (.int c),.sh (il [c])],cs⟩):=by rfl'
 rw[sm (by rw[fx];exact q1)]at v
 rw[lZ];exact v
.rw[su,<-C,Di,u];rfl
.rw[<-y,qE,u];split<;>rfl
.rw[lk]
 rw[hS]at J;simp only[hS,CM];exact q44) (l.map .int) ⟨[.sh (il l),.sh d,.sh d2,.sh f,.o [],.o [],.ae,.ae],cs⟩ ⟨l,[],[],.ae,.ae,rfl,λY h=>h,rfl,rfl,rfl,by simp;exact SL⟩
 obtain⟨ag,b,r,F,W,w,k,X,_,rfl,C,y,_⟩:=L
 cases r with
|cons=>cases X
|nil=>
rw[KM,lH]at C
have y:W=(if l.any (λc=>(i c).isNone)then[mv]else[]):=y
subst C
haveI B:cu (NV j) 106 [il l,d,d2,f] cs=fin (cA (ev (NV j) 299) pe ⟨[.sh (il l),.sh d,.sh d2,.sh f,.ae,.ae,.ae,.ae],cs⟩):=by rfl'
rw[B,show pe=[pe.getD 0 .av,pe.getD 1 .av,pe.getD 2 .av]from rfl,aB (by rfl')]
haveI Z:ev (NV j) 299 (.s (pe.getD 1 .av)) ⟨[.sh (il l),.sh d,.sh d2,.sh f,.o [],.o [],.ae,.ae],cs⟩=bQ (ev (NV j) 298) (.nm 6) wI (l.map .int) ⟨[.sh (il l),.sh d,.sh d2,.sh f,.o [],.o [],.ae,.ae],cs⟩:=by rfl'
rw[aB (Z.trans b)];haveI v:ev (NV j) 299 (.s (pe.getD 2 .av)) ⟨[.sh (il l),.sh d,.sh d2,.sh f,.o ((l.flatMap λc=>(i c).getD [c]).map .int),.o W,w,k],cs⟩=.ok (.ret (.sh (.u [il M,.list W]))) ⟨[.sh (il l),.sh d,.sh d2,.sh f,.sh (il (l.flatMap λc=>(i c).getD [c])),.sh (.list W),w,k],p⟩:=nD (aV (xk (gw (aV (x_call (st1:=⟨[.sh (il l),.sh d,.sh d2,.sh f,.sh (il (l.flatMap λc=>(i c).getD [c])),.o W,w,k],cs⟩) (by rfl') P) rfl) (gw (by rfl') rfl))) rfl);rw[ik v,y];rfl
end
section
variable{b:ak->ai D->ai Cell->RC}{cs ax:ai Cell}{n k i r m:ak}{a:E}{j:ai E}{d st1 st2:St}{t:Slot}{p:ai D}{s:ai Cell}
theorem yB(h:ev (NV b) n (.e a) d=vD (.ref r) st1)(u:st1.cells[r]?=Bc (.inst c ns y))(w:rz c k=Bc m)(f:dK (ev (NV b) n) j st1=.ok (.ds p) st2)(l:b m (.ref r::p) st2.cells=.ok t s):ev (NV b) (n+1) (.x (.cH a k j)) d=.ok (.o t) ⟨st2.l,s⟩:=by show((ev (NV b) n (.e a) d).aT λv d=>jZ v λr=>match AD d.cells[r]? with|true=>ni d.cells[r]? λc Y Y=>rO (rz c k) λm=>(dK (ev (NV b) n) j d).mr λp d=>(b m (.ref r::p) d.cells).to d.l|false=>jV d.cells[r]? λY Y=>bk (js k 0) ((dK (ev (NV b) n) j d).bindL λp d=>um d r p)).bC=_;refine aa h ?_;show(match AD st1.cells[r]? with|true=>ni st1.cells[r]? λc Y Y=>rO (rz c k) λm=>(dK (ev (NV b) n) j st1).mr λp d=>(b m (.ref r::p) d.cells).to d.l|false=>jV st1.cells[r]? λY Y=>bk (js k 0) ((dK (ev (NV b) n) j st1).bindL λp d=>um d r p)).bC=_;refine aa u ?_;show(rO (rz c k) λm=>(dK (ev (NV b) n) j st1).mr λp d=>(b m (.ref r::p) d.cells).to d.l).bC=_;refine aa w ?_;refine aa f ?_;show((b m (.ref r::p) st2.cells).to st2.l).bC=_;exact aa l rfl
theorem fy{l:ai a0}(h:l.length<=100000):aM (l.map D.int)=D1:=sm (by rw[fx];exact h)
abbrev GR:ai S:=lJ (oC.getD 1 .av)
theorem Uj(G:∀c∈l,b 22 [.int c,u,.bool Un] cs=.ok (.sh (il [c])) cs)(H:l.length<=1000)(C:b 23 [il l,u] cs=.ok (.sh (il M)) cs):cu (NV b) 33 [il l,u,.bool Un] cs=.ok (.sh (il M)) cs:=by
 obtain⟨U,f,F,r,w,I,y,A,rfl⟩:=qi (rec:=ev (NV b) 298) (tg:=.nm 4) (body:=GR) (P:=λv d=>∃(F r:ai a0)(w:Slot),v=r.map .int/\F++r=l/\F.length+r.length<=1000/\d=⟨[.sh (il l),.sh u,.sh (.bool Un),.o (F.map .int),w],cs⟩) (by
rintro h v d⟨F,r,w,y,A,J,rfl⟩
cases r with
|nil=>cases y
|cons c r=>
refine aU (JB y) λK L=>?_
clear y
refine aa K ?_
refine aa L ?_
haveI N:c∈l:=aD A (by simp)
refine⟨[.sh (il l),.sh u,.sh (.bool Un),.o (F.map .int),.sh (.int c)],⟨[.sh (il l),.sh u,.sh (.bool Un),.o ((F++[c]).map .int),.sh (.int c)],cs⟩,rfl,?_,F++[c],r,_,rfl,by rw[su];exact A,by simp at J⊢;exact q4,rfl⟩
haveI O:ev (NV b) 297 (.s (GR.getD 0 .av)) ⟨[.sh (il l),.sh u,.sh (.bool Un),.o (F.map .int),.sh (.int c)],cs⟩=.ok .ay ⟨[.sh (il l),.sh u,.sh (.bool Un),.o (F.map .int++[.int c]),.sh (.int c)],cs⟩:=uB rfl (aV (x_call (st1:=⟨[.sh (il l),.sh u,.sh (.bool Un),.o (F.map .int),.sh (.int c)],cs⟩) (by rfl') (G c N)) rfl) rfl rfl (fy q1) rfl
refine aa lZ ?_;exact(aB O).trans rfl) (l.map .int) ⟨[.sh (il l),.sh u,.sh (.bool Un),.o [],.ae],cs⟩ (qj ([]) l .ae rfl rfl (by simpa using H) rfl)
 clear G A
 cases r with
|cons=>cases I
|nil=>
rw[lH]at y
subst y
haveI B:cu (NV b) 33 [il F,u,.bool Un] cs=fin (cA (ev (NV b) 299) oC ⟨[.sh (il F),.sh u,.sh (.bool Un),.ae,.ae],cs⟩):=by rfl'
haveI P:ev (NV b) 299 (.s (oC.getD 1 .av)) ⟨[.sh (il F),.sh u,.sh (.bool Un),.o [],.ae],cs⟩=bQ (ev (NV b) 298) (.nm 4) GR (F.map .int) ⟨[.sh (il F),.sh u,.sh (.bool Un),.o [],.ae],cs⟩:=by rfl'
haveI Q:ev (NV b) 299 (.s (oC.getD 2 .av)) ⟨[.sh (il F),.sh u,.sh (.bool Un),.o (F.map .int),w],cs⟩=.ok (.ret (.sh (il M))) ⟨[.sh (il F),.sh u,.sh (.bool Un),.sh (il F),w],cs⟩:=nD (aV (x_call (st1:=⟨[.sh (il F),.sh u,.sh (.bool Un),.sh (il F),w],cs⟩) (by rfl') C) rfl);refine aa B (aa (show oC=[oC.getD 0 .av,oC.getD 1 .av,oC.getD 2 .av]from rfl) ?_);rw[aB (by rfl'),aB (P.trans f),ik Q];rfl
abbrev Dz:ai S:=lJ (sv.getD 1 .av)
noncomputable def rF:D:=.str [99,99,99]
noncomputable def gi(w:a0->a0)(f:ai a0->ai a0):ai a0->ai a0->ai a0|run,[]=>f run|run,c::r=>if 0<w c then gi w f (run++[c]) r else f run++c::gi w f [] r
noncomputable def gH(w:a0->a0)(f:ai a0->aA):ai a0->ai a0->aA|run,[]=>f run|run,c::r=>if 0<w c then gH w f (run++[c]) r else f run&&gH w f [] r
theorem tG{f r:ai a0}:gi w bM f (c::r)=if 0<w c then gi w bM (f++[c]) r else bM f++c::gi w bM [] r:=rfl
theorem vf{f r:ai a0}:gH w good f (c::r)=if 0<w c then gH w good (f++[c]) r else good f&&gH w good [] r:=rfl
theorem Yp(h:∀u,good u=D1->u.length<=2):∀{l u:ai a0},gH w good u l=D1->u.length<=2:=by intro l;induction l with|nil=>intro u f;exact h u f|cons c r v=>
intro u f
rw[vf]at f
split at f
.haveI :=v f
 rw[lk]at this;exact q1
.exact h u (iA f).1
noncomputable abbrev kz(w:a0->a0)(f:ai a0):ai D:=f.map λc=>.u [.int (w c),.int c]
abbrev iu(cs:ai Cell)(w:a0->a0)(l F c:ai a0)(f h:Slot):St:=⟨[.sh (il l),.sh (.ref 1),.o (F.map .int),.o (kz w c),f,h],cs⟩
theorem TQ(X:cs[1]?=Bc k1)(Z:∀c∈l,b 174 [.ref 1,rF,.int c] cs=.ok (.sh (.int (w c))) cs)(O:∀A,good A=D1->b 19 [.list (kz w A)] cs=.ok (.sh (il (bM A))) cs/\(bM A).length<=2/\A.length<=2)(hl:l.length<=1000)(hb:gH w good [] l=D1):cu (NV b) 23 [il l,.ref 1] cs=.ok (.sh (il (gi w bM [] l))) cs:=by
 have U:∀(n:ak)(F A:ai a0)(G C:Slot),good A=D1->F.length<=3000->ev (NV b) (n+10) (.s (.ext 2 (.call 19 [.l 3]))) (iu cs w l F A G C)=.ok .ay ⟨[.sh (il l),.sh (.ref 1),.o (F.map .int++(bM A).map .int),.sh (.list (kz w A)),G,C],cs⟩:=λn F A G C u f=>uB rfl (aV (x_call (st1:=⟨[.sh (il l),.sh (.ref 1),.o (F.map .int),.sh (.list (kz w A)),G,C],cs⟩) (by rfl') (O A u).1) rfl) rfl rfl (fy q0) (fy (by have :=(O A u).2.1;exact q0))
 obtain⟨ag,v,F,A,r,G,C,e0,J,K,H,N,rfl⟩:=qi (rec:=ev (NV b) 298) (tg:=.nm 4) (body:=Dz) (P:=λI d=>∃(F A r:ai a0)(G C:Slot),I=r.map .int/\F++gi w bM A r=gi w bM [] l/\gH w good A r=D1/\(∀c∈r,c∈l)/\F.length+3*r.length<=3000/\d=iu cs w l F A G C) (by
clear hl
rintro y I d⟨F,A,r,G,C,J,K,H,N,e5,rfl⟩
cases r with
|nil=>cases J
|cons c r=>
refine aU (JB J) λxH C0=>?_
clear J
refine aa xH ?_
refine aa C0 ?_
rw[hS]at e5
rw[tG]at K
haveI rl:=Yp (λA u=>(O A u).2.2) H
rw[vf]at H
haveI V:ev (NV b) 297 (.s (Dz.getD 0 .av)) (iu cs w l F A (.sh (.int c)) C)=.ok .ay (iu cs w l F A (.sh (.int c)) (.sh (.int (w c)))):=fw (yB (st1:=iu cs w l F A (.sh (.int c)) C) (st2:=iu cs w l F A (.sh (.int c)) C) (by rfl') X (by rfl') (by rfl') (Z c (N c (.head _))))
haveI t2:ev (NV b) 296 (.t (.p (.l 5) [.Gt] [.cI 0])) (iu cs w l F A (.sh (.int c)) (.sh (.int (w c))))=vB (decide (0<w c)) (iu cs w l F A (.sh (.int c)) (.sh (.int (w c)))):=by rfl'
haveI M:=ew (x:=[.app 3 (.u [.l 5,.l 4])]) (y:=[.ext 2 (.call 19 [.l 3]),.app 2 (.l 4),.g 3 (.a [])]) t2
by_cases P:0<w c
.rw[mM P,eI rfl]at M
 rw[eI P]at K H
 refine⟨_,iu cs w l F (A++[c]) (.sh (.int c)) (.sh (.int (w c))),rfl,?_,F,A++[c],r,_,_,rfl,K,H,λc h=>N c (.tail _ h),q3,rfl⟩
 haveI s3:ev (NV b) 295 (.s (.app 3 (.u [.l 5,.l 4]))) (iu cs w l F A (.sh (.int c)) (.sh (.int (w c))))=.ok .ay ⟨[.sh (il l),.sh (.ref 1),.o (F.map .int),.o (kz w A++[.u [.int (w c),.int c]]),.sh (.int c),.sh (.int (w c))],cs⟩:=lL rfl (sl:=.sh (.u [.int (w c),.int c])) (st1:=iu cs w l F A (.sh (.int c)) (.sh (.int (w c)))) (by rfl') rfl rfl (sm (by rw[fx];exact q0))
 unfold iu kz;exact aa lZ ((aB V).trans ((aB (M.trans ((aB s3).trans rfl))).trans rfl))
.rw[Lc P,ej (by decide)]at M
 rw[ej P]at K H
 refine aU (iA H) λW g2=>?_
 haveI t:=(O A W).2.1
 clear rl
 refine⟨_,iu cs w l (F++(bM A++[c])) [] (.sh (.int c)) (.sh (.int (w c))),rfl,?_,F++(bM A++[c]),[],r,_,_,rfl,aD K (by simp),g2,λc h=>N c (.tail _ h),by simp only[lk,hS,CM];exact RG,rfl⟩
 haveI Q:ev (NV b) 295 (.s (.app 2 (.l 4))) ⟨[.sh (il l),.sh (.ref 1),.o (F.map .int++(bM A).map .int),.sh (.list (kz w A)),.sh (.int c),.sh (.int (w c))],cs⟩=.ok .ay ⟨[.sh (il l),.sh (.ref 1),.o (F.map .int++(bM A).map .int++[.int c]),.sh (.list (kz w A)),.sh (.int c),.sh (.int (w c))],cs⟩:=lL rfl (sl:=.sh (.int c)) (st1:=⟨[.sh (il l),.sh (.ref 1),.o (F.map .int++(bM A).map .int),.sh (.list (kz w A)),.sh (.int c),.sh (.int (w c))],cs⟩) (by rfl') rfl rfl (sm (by rw[lk,fx,fx];exact q43))
 unfold iu
 refine aa lZ (aa lZ ?_)
 rw[<-su];exact(aB V).trans ((aB (M.trans ((aB (U 285 F A _ _ W q1)).trans ((aB Q).trans ((aB (by rfl')).trans rfl))))).trans rfl)) (l.map .int) (iu cs w l [] [] .ae .ae) ⟨[],[],l,.ae,.ae,rfl,rfl,hb,λY h=>h,by simp;exact SL,rfl⟩
 clear H;cases r with|cons=>cases e0|nil=>
have J:F++bM A=gi w bM [] l:=J
haveI B:cu (NV b) 23 [il l,.ref 1] cs=fin (cA (ev (NV b) 299) sv ⟨[.sh (il l),.sh (.ref 1),.ae,.ae,.ae,.ae],cs⟩):=by rfl'
have M:ev (NV b) 299 (.s (sv.getD 1 .av)) (iu cs w l [] [] .ae .ae)=bQ (ev (NV b) 298) (.nm 4) Dz (l.map .int) (iu cs w l [] [] .ae .ae):=by rfl'
have Q:∀L,ev (NV b) 299 (.s (.ret (.l 2))) ⟨[.sh (il l),.sh (.ref 1),.o L,.sh (.list (kz w A)),G,C],cs⟩=.ok (.ret (.sh (.list L))) ⟨[.sh (il l),.sh (.ref 1),.sh (.list L),.sh (.list (kz w A)),G,C],cs⟩:=λL=>by rfl'
rw[B,show sv=[sv.getD 0 .av,sv.getD 1 .av,.ext 2 (.call 19 [.l 3]),.ret (.l 2)]from rfl,aB (by rfl'),aB (M.trans v),aB (U 289 F A G C K (N)),ik (Q _),<-J]
unfold il;rw[lZ];rfl
end
section
variable{N:Env}{n i:ak}{a b e:E}{l:ai E}{st st1 st2:St}{sl:Slot}{d:D}{c p q:aA}{F:ai D}{ss:ai Slot}
theorem uJ(h:ev N n (.e a) st=vD v st1)(f:ev N n (.e b) st1=vD w st2)(j:lu st2.cells k v w=Bc c):ev N (n+1) (.x (.p a [k] [b])) st=vB c st2:=by show((ev N n (.e a) st).aT λv st=>(ev N n (.e b) st).aT λd st=>rO (lu st.cells k v d) λb=>match stop [] b with|true=>vB b st|false=>og (ev N n) [] d [] st).bC=_;refine aa h ?_;show((ev N n (.e b) st1).aT λd st=>rO (lu st.cells k v d) λb=>match stop [] b with|true=>vB b st|false=>og (ev N n) [] d [] st).bC=_;refine aa f ?_;show(rO (lu st2.cells k v w) λb=>match stop [] b with|true=>vB b st2|false=>og (ev N n) [] w [] st2).bC=_;exact aa j rfl
theorem fX(h:ev N n (.e a) st=vD v st1)(f:ev N n (.e b) st1=vD w st2)(j:lu st2.cells op v w=Bc c):ev N (n+2) (.t (.p a [op] [b])) st=vB c st2:=by show(ev N (n+1) (.x (.p a [op] [b])) st).bindB (λb st=>vB b st)=_;exact aa (uJ h f j) rfl
theorem zB(h:ev N n (.t a) st=vB p st)(g:p=D1->ev N n (.t b) st=vB q st):ev N (n+1) (.t (.bj .And [a,b])) st=vB (p&&q) st:=by show(ev N n (.t a) st).bindB (λb' st=>match !b' with|true=>vB b' st|false=>(ev N n (.t b) st).bindB λb' st=>match !b' with|true=>vB b' st|false=>vB D1 st)=_;refine aa h ?_;clear h;cases p with|false=>rfl|true=>show(ev N n (.t b) st).bindB (λb' st=>match !b' with|true=>vB b' st|false=>vB D1 st)=_;refine aa (g rfl) ?_;clear g;cases q<;>rfl
theorem zO(h:ev N n (.t a) st=vB p st)(f:p=Un->ev N n (.t b) st=vB q st):ev N (n+1) (.t (.bj .Or [a,b])) st=vB (p||q) st:=by show(ev N n (.t a) st).bindB (λj st=>match j with|true=>vB j st|false=>(ev N n (.t b) st).bindB λj st=>match j with|true=>vB j st|false=>vB Un st)=_;refine aa h ?_;clear h;cases p with|true=>rfl|false=>show(ev N n (.t b) st).bindB (λj st=>match j with|true=>vB j st|false=>vB Un st)=_;refine aa (f rfl) ?_;clear f;cases q<;>rfl
theorem AH(h:st.l[i]?=Bc (.o F))(f:aM F=D1):ev N (n+1) (.x (.ie i)) st=.ok (.o (.sh (.int F.length))) st:=by show(gm st.l[i]? λl=>bk (aM l) (vD (.int l.length) st)).bC=_;refine aa h ?_;show(bk (aM F) _).bC=_;exact aa f rfl
theorem yC(j:st.l[i]?=Bc (.o F))(h:ev N n (.e b) st=vD (.int k) st)(f:dP F k=Bc d):ev N (n+1) (.x (.jC i b)) st=.ok (.o (.sh d)) st:=by show(gm st.l[i]? λY=>(ev N n (.e b) st).aT λk st=>gm st.l[i]? λl=>rI k λk=>oD (dP l k) st).bC=_;refine aa h (aa j ?_);show(gm st.l[i]? λl=>oD (dP l k) st).bC=_;refine aa j ?_;show(oD (dP F k) st).bC=_;exact aa f rfl
theorem n5(h:rec (.x e) st=.ok (.o sl) st1)(f:pv rec l st1=.ok (.os ss) st2):pv rec (e::l) st=.ok (.os (sl::ss)) st2:=by show(rec (.x e) st).qW (λs st=>(pv rec l st).qF λss st=>.ok (.os (s::ss)) st)=_;refine aa h ?_;show(pv rec l st1).qF _=_;exact aa f rfl
theorem tL(h:pv (ev N n) l st=.ok (.os ss) st1)(f:iY is ss st1.l=Bc loc):ev N (n+1) (.s (.de is l)) st=.ok .ay ⟨loc,st1.cells⟩:=by show(pv (ev N n) l st).qF (λss st=>rO (iY is ss st.l) λloc=>.ok .ay ⟨loc,st.cells⟩)=_;refine aa h ?_;show rO (iY is ss st1.l) (λloc=>R.ok .ay ⟨loc,st1.cells⟩)=_;exact aa f rfl
end
theorem acw{F:ai a0}{s:a0}(b:0<=s)(c:s<F.length)(d:F.length<=100000):∃a∈F,dP (F.map D.int) s=Bc (.int a):=by refine eE (sw b) λk f=>?_;subst f;have h:k<F.length:=Int.ofNat_lt.mp c;exact⟨F[k],pr h,yH (by rw[y8,ma h];rfl) (nB h (gY d (by decide)))⟩
section
variable{j:ak->ai D->ai Cell->RC}{cs:ai Cell}
abbrev tR:ai S:=lJ (pR.getD 2 .av)
abbrev eB(cs:ai Cell)(l:ai a0)(r:ak)(F:ai a0)(s m:a0)(a b c:Slot):St:=⟨[.sh (il l),.sh (.ref 1),.sh (.ref r),.o (F.map .int),.sh (.int s),.sh (.int m),a,b,c],cs⟩
abbrev Zk:E:=.bj .And [.p (.l 4) [.GtE] [.cI 0],.bj .Or [.p (.l 4) [.Eq] [.b .Sub (.ie 3) (.cI 1)],.p (.l 5) [.Lt] [.l 7]]]
abbrev acn:ai S:=[.g 8 (.cH (.l 2) 31 [.jC 3 (.l 4),.l 6]),.iff (.p (.l 8) [.IsNot] [.cN]) [.av,.av] []]
theorem QQ{w:a0->a0}(W:cs[1]?=Bc k1)(X:cs[r]?=Bc (.inst 30 [26,28] vs))(M:∀c∈l,j 174 [.ref 1,rF,.int c] cs=.ok (.sh (.int (w c))) cs)(N:∀a∈l,∀c∈l,j 162 [.ref r,.int a,.int c] cs=.ok (.sh .none) cs)(Z:∀a b:a0,∃d:a0,j 32 [.int a,.int b] cs=.ok (.sh (.int d)) cs)(O:l.length<=1000):∃s m C t k,bQ (ev (NV j) 298) (.nm 6) tR (l.map .int) (eB cs l r [] (-1) (-1) .ae .ae .ae)=.ok .ay (eB cs l r l s m C t k):=by
 obtain⟨ag,d,F,A,s,m,C,t,k,e0,G,_,_,rfl⟩:=qi (rec:=ev (NV j) 298) (tg:=.nm 6) (body:=tR) (P:=λB P=>∃(F A:ai a0)(s m:a0)(C t k:Slot),B=A.map .int/\F++A=l/\-1<=s/\s<F.length/\P=eB cs l r F s m C t k) (by
rintro f B P⟨F,A,s,m,C,t,k,G,H,e3,e4,rfl⟩
cases A with
|nil=>cases G
|cons c A=>
refine aU (JB G) λlN I=>?_
clear G
refine aa lN ?_
refine aa I ?_
have Q:c∈l:=aD H (by simp)
haveI hF:∀a∈F,a∈l:=λa h=>aD H (by simp[h])
have fl:F.length<=1000:=by rw[<-H,lk]at O;exact q1
haveI s1:ev (NV j) 297 (.s (tR.getD 0 .av)) (eB cs l r F s m (.sh (.int c)) t k)=.ok .ay (eB cs l r F s m (.sh (.int c)) (.sh (.int (w c))) k):=fw (yB (st1:=eB cs l r F s m (.sh (.int c)) t k) (st2:=eB cs l r F s m (.sh (.int c)) t k) (by rfl') W (by rfl') (by rfl') (M c Q))
haveI tl:ev (NV j) 296 (.t Zk) (eB cs l r F s m (.sh (.int c)) (.sh (.int (w c))) k)=vB (decide (0<=s)&&((s==(F.length:a0)-1)||decide (m<w c))) (eB cs l r F s m (.sh (.int c)) (.sh (.int (w c))) k):=by
 refine zB (by rfl') λY=>zO (fX (v:=.int s) (st1:=eB cs l r F s m (.sh (.int c)) (.sh (.int (w c))) k) (by rfl') (aV (ij (aV (AH rfl (fy q0)) rfl) (w:=.int 1) (by rfl') (sl:=.sh (.int ((F.length:a0)-1))) ?_) rfl) rfl) λY=>by rfl'
 rw[fx];rfl
haveI J:∃p,ev (NV j) 297 (.s (tR.getD 1 .av)) (eB cs l r F s m (.sh (.int c)) (.sh (.int (w c))) k)=.ok .ay (eB cs l r F s m (.sh (.int c)) (.sh (.int (w c))) p):=by
 have i:=ew (x:=acn) (y:=[]) tl
 by_cases K:(decide (0<=s)&&((s==(F.length:a0)-1)||decide (m<w c)))=D1
 .rw[eI K]at i
  have s0:0<=s:=hQ (iA K).1
  refine aj (acw s0 e4 q0) λy hy hi=>?_;refine⟨.sh .none,i.trans ((aB (fw (n:=294) (yB (st1:=eB cs l r F s m (.sh (.int c)) (.sh (.int (w c))) k) (st2:=eB cs l r F s m (.sh (.int c)) (.sh (.int (w c))) k) (by rfl') X (by rfl') (gw (aV (yC rfl (by rfl') hi) rfl) (gw (by rfl') rfl)) (N y (hF y hy) c Q)))).trans ((aB (by rfl')).trans rfl))⟩
 .rw[ej K]at i;exact⟨k,i.trans rfl⟩
refine eE J λp J=>?_
haveI L:∃u v,-1<=u/\u<((F++[c]).length:a0)/\ev (NV j) 297 (.s (tR.getD 2 .av)) (eB cs l r F s m (.sh (.int c)) (.sh (.int (w c))) p)=.ok .ay (eB cs l r F u v (.sh (.int c)) (.sh (.int (w c))) p):=by
 haveI t3:ev (NV j) 296 (.t (.p (.l 7) [.Eq] [.cI 0])) (eB cs l r F s m (.sh (.int c)) (.sh (.int (w c))) p)=vB (w c==0) (eB cs l r F s m (.sh (.int c)) (.sh (.int (w c))) p):=by rfl'
 have i:=ew (x:=[.de [4,5] [.ie 3,.neg (.cI 1)]]) (y:=[.g 5 (.call 32 [.l 5,.l 7])]) t3
 by_cases U:(w c==0)=D1
 .rw[eI U]at i;refine gy F.length (-1) (by simp) (aa lk (by simp;omega)) (i.trans ((aB (tL (n:=294) (loc:=(eB cs l r F F.length (-1) (.sh (.int c)) (.sh (.int (w c))) p).l) (n5 (AH rfl (fy q0)) (n5 (st1:=eB cs l r F s m (.sh (.int c)) (.sh (.int (w c))) p) (by rfl') rfl)) (by rw[fx];rfl))).trans rfl))
 .rw[ej U]at i;refine eE (Z m (w c)) λv hm=>?_;exact gy s v e3 (aa lk (by simp;omega)) (i.trans ((aB (fw (n:=294) (x_call (st1:=eB cs l r F s m (.sh (.int c)) (.sh (.int (w c))) p) (by rfl') hm))).trans rfl))
refine cps λP_ V=>?_
obtain⟨u,v,b1,b2,L⟩:=L;refine V ?_;clear V P_;haveI s4:ev (NV j) 297 (.s (.app 3 (.l 6))) (eB cs l r F u v (.sh (.int c)) (.sh (.int (w c))) p)=.ok .ay ⟨[.sh (il l),.sh (.ref 1),.sh (.ref r),.o (F.map .int++[.int c]),.sh (.int u),.sh (.int v),.sh (.int c),.sh (.int (w c)),p],cs⟩:=lL rfl (sl:=.sh (.int c)) (st1:=eB cs l r F u v (.sh (.int c)) (.sh (.int (w c))) p) (by rfl') rfl rfl (fy q0);refine⟨_,eB cs l r (F++[c]) u v (.sh (.int c)) (.sh (.int (w c))) p,rfl,?_,F++[c],A,u,v,_,_,_,rfl,by rw[su];exact H,b1,b2,rfl⟩;unfold eB;refine aa lZ ?_;exact(aB s1).trans ((aB J).trans ((aB L).trans ((aB s4).trans rfl)))) (l.map .int) (eB cs l r [] (-1) (-1) .ae .ae .ae) ⟨[],l,-1,-1,_,_,_,rfl,rfl,by decide,by decide,rfl⟩;clear O M N;cases A with|cons=>cases e0|nil=>rw[lH]at G;obtain rfl:=G.symm;exact aeo s m C t k d
end
section
variable{N:Env}{n:ak}{t a b:E}{st st1 st2:St}{d:D}
theorem BF(h:ev N n (.t t) st=vB D1 st1)(f:ev N n (.e a) st1=vD d st2):ev N (n+1) (.x (.ite t a b)) st=vD d st2:=by show((ev N n (.t t) st).bindB λc st=>match c with|true=>(ev N n (.e a) st).aT λd st=>vD d st|false=>(ev N n (.e b) st).aT λd st=>vD d st).bC=_;refine aa h ?_;show((ev N n (.e a) st1).aT λd st=>vD d st).bC=_;exact aa f rfl
theorem za(h:ev N n (.t t) st=vB Un st1)(f:ev N n (.e b) st1=vD d st2):ev N (n+1) (.x (.ite t a b)) st=vD d st2:=by show((ev N n (.t t) st).bindB λc st=>match c with|true=>(ev N n (.e a) st).aT λd st=>vD d st|false=>(ev N n (.e b) st).aT λd st=>vD d st).bC=_;refine aa h ?_;show((ev N n (.e b) st1).aT λd st=>vD d st).bC=_;exact aa f rfl
end
section
variable{k:ak->ai D->ai Cell->RC}{cs aH:ai Cell}{l M:ai a0}{p:D}
abbrev SB(l)(cs):=(⟨[.sh (il l),.sh (.ref 1),.sh .none,.ae,.ae,.ae,.ae,.ae,.ae],cs⟩:St)
theorem aen{w:a0->a0}(h:k 30 [.ref 1] cs=.ok (.sh (.ref r)) aH)(i:aH[1]?=Bc k1)(j:aH[r]?=Bc (.inst 30 [26,28] F))(t:∀c∈l,k 174 [.ref 1,rF,.int c] aH=.ok (.sh (.int (w c))) aH)(u:∀a∈l,∀c∈l,k 162 [.ref r,.int a,.int c] aH=.ok (.sh .none) aH)(C:∀a b:a0,∃d:a0,k 32 [.int a,.int b] aH=.ok (.sh (.int d)) aH)(v:l.length<=1000):cu (NV k) 34 [il l,.ref 1,.none] cs=.ok (.sh (il l)) aH:=by
 refine cps λP f=>?_
 obtain⟨s,m,G,H,I,d⟩:=QQ i j t u C v
 refine f ?_;clear f P
 have B:cu (NV k) 34 [il l,.ref 1,.none] cs=fin (cA (ev (NV k) 299) pR (SB l cs)):=by rfl'
 have y:ev (NV k) 299 (.s (pR.getD 0 .av)) (SB l cs)=.ok .ay ⟨[.sh (il l),.sh (.ref 1),.sh (.ref r),.ae,.ae,.ae,.ae,.ae,.ae],aH⟩:=fw (BF (st1:=(SB l cs)) (by rfl') (aV (x_call (st1:=(SB l cs)) (by rfl') h) rfl))
 have A:ev (NV k) 299 (.s (pR.getD 2 .av)) (eB aH l r [] (-1) (-1) .ae .ae .ae)=bQ (ev (NV k) 298) (.nm 6) tR (l.map .int) (eB aH l r [] (-1) (-1) .ae .ae .ae):=by rfl'
 refine aa B (aa (show pR=[pR.getD 0 .av,pR.getD 1 .av,pR.getD 2 .av,.ret (.l 3)]from rfl) (aa (aB y) (aa (aB (by rfl')) (aa (aB (A.trans d)) ?_))));rfl'
noncomputable def lX:D:=.str [110,102,99]
theorem HE(W:k 33 [il l,p,.bool Un] cs=.ok (.sh (il M)) cs)(h:k 34 [il M,p,.none] cs=.ok (.sh (il M)) aH):cu (NV k) 35 [il l,p,lX] cs=.ok (.sh (il M)) aH:=by
 have B:cu (NV k) 35 [il l,p,lX] cs=fin (cA (ev (NV k) 299) sj ⟨[.sh (il l),.sh p,.sh lX,.sh .none,.ae],cs⟩):=by rfl'
 have s:ev (NV k) 299 (.s (sj.getD 0 .av)) ⟨[.sh (il l),.sh p,.sh lX,.sh .none,.ae],cs⟩=.ok .ay ⟨[.sh (il l),.sh p,.sh lX,.sh .none,.sh (il M)],cs⟩:=fw (x_call (st1:=⟨[.sh (il l),.sh p,.sh lX,.sh .none,.ae],cs⟩) (by rfl') W);have a:ev (NV k) 299 (.s (sj.getD 1 .av)) ⟨[.sh (il l),.sh p,.sh lX,.sh .none,.sh (il M)],cs⟩=.ok (.ret (.sh (il M))) ⟨[.sh (il l),.sh p,.sh lX,.sh .none,.sh (il M)],aH⟩:=nD (aV (za (st1:=⟨[.sh (il l),.sh p,.sh lX,.sh .none,.sh (il M)],cs⟩) (by rfl') (aV (x_call (st1:=⟨[.sh (il l),.sh p,.sh lX,.sh .none,.sh (il M)],cs⟩) (by rfl') h) rfl)) rfl);refine aa B (aa (show sj=[sj.getD 0 .av,sj.getD 1 .av]from rfl) (aa (aB s) (aa (ik a) ?_)));rfl
theorem Jq(h:k 35 [il l,p,lX] cs=.ok (.sh (il M)) aH):cu (NV k) 83 [il l,p] cs=.ok (.sh (il M)) aH:=by
 have B:cu (NV k) 83 [il l,p] cs=fin (cA (ev (NV k) 299) ED ⟨[.sh (il l),.sh p],cs⟩):=by rfl'
 have s:ev (NV k) 299 (.s (.ret (.call 35 [.l 0,.l 1,.cS [110,102,99]]))) ⟨[.sh (il l),.sh p],cs⟩=.ok (.ret (.sh (il M))) ⟨[.sh (il l),.sh p],aH⟩:=nD (aV (x_call (st1:=⟨[.sh (il l),.sh p],cs⟩) (by rfl') h) rfl);refine aa B ?_;rw[show ED=[.ret (.call 35 [.l 0,.l 1,.cS [110,102,99]])]from rfl,ik s];rfl
noncomputable def jh:ai a0->ai a0->ai (ai a0)|a,[]=>[a]|a,c::r=>if c==46 then a::jh [] r else jh (a++[c]) r
theorem xS:jh a (c::r)=if c==46 then a::jh [] r else jh (a++[c]) r:=rfl
noncomputable abbrev th(l:ai a0):ai D:=l.map D.int
abbrev ld(L:ai (ai a0)):D:=.list (L.map il)
theorem yT{l:ai (ai D)}(h:(st.l[j]?).bind fz=Bc d)(a:(st.l.set j (.sh d))[i]?=Bc (.bS (l++[m])))(f:aM m=D1):ev N (n+1) (.s (.mX i j)) st=.ok .ay ⟨(st.l.set j (.sh d)).set i (.bS (l++[m++[d]])),st.cells⟩:=by show rO ((st.l[j]?).bind fz) (λd=>wR (st.l.set j (.sh d))[i]? λl=>rO l.getLast? λm=>bk (aM m) (.ok .ay ⟨(st.l.set j (.sh d)).set i (.bS (l.dropLast++[m++[d]])),st.cells⟩))=_;refine aa h ?_;show wR (st.l.set j (.sh d))[i]? (λl=>rO l.getLast? λm=>bk (aM m) (.ok .ay ⟨(st.l.set j (.sh d)).set i (.bS (l.dropLast++[m++[d]])),st.cells⟩))=_;refine aa a ?_;show rO (l++[m]).getLast? (λb=>bk (aM b) (.ok .ay ⟨(st.l.set j (.sh d)).set i (.bS ((l++[m]).dropLast++[b++[d]])),st.cells⟩))=_;refine aa (List.getLast?_append) (aa ar6 ?_);show bk (aM m) _=_;exact aa f rfl
abbrev LI:ai S:=lJ (uR.getD 1 .av)
abbrev lS(cs:ai Cell)(l:ai a0)(A:ai (ai a0))(a:ai a0)(b:Slot):St:=⟨[.sh (il l),.bS (A.map th++[a.map D.int]),b],cs⟩
theorem UI(v:l.length<=1000):cu (NV k) 107 [il l] cs=.ok (.sh (ld (jh [] l))) cs:=by
 obtain⟨G,b,A,a,r,m,w,i,j,rfl⟩:=qi (rec:=ev (NV k) 298) (tg:=.nm 2) (body:=LI) (P:=λh t=>∃(A:ai (ai a0))(a r:ai a0)(m:Slot),h=r.map .int/\A++jh a r=jh [] l/\A.length+a.length+r.length<=1000/\t=lS cs l A a m) (by rintro d h t⟨A,a,r,m,i,j,y,rfl⟩;cases r with|nil=>cases i|cons c r=>
cases i
rw[hS]at y
rw[xS]at j
have C:ev (NV k) 296 (.t (.p (.l 2) [.Eq] [.aO 84])) (lS cs l A a (.sh (.int c)))=vB (c==46) (lS cs l A a (.sh (.int c))):=by rfl'
have f:=ew (x:=[.app 1 (.a [])]) (y:=[.mX 1 2]) C
by_cases u:(c==46)=D1
.rw[eI u]at f j;refine⟨_,lS cs l (A++[a]) [] (.sh (.int c)),rfl,?_,A++[a],[],r,_,rfl,by rw[su];exact j,by simp;exact XF,rfl⟩;have s:=IX (N:=NV k) (n:=294) (i:=1) (a:=.a []) (st:=lS cs l A a (.sh (.int c))) (st1:=lS cs l A a (.sh (.int c))) (m:=[]) rfl (by rfl') rfl (sm (by simp;exact aec));unfold lS;exact aa lZ ((aB (f.trans ((aB s).trans rfl))).trans rfl)
.rw[ej u]at f j
 refine⟨_,lS cs l A (a++[c]) (.sh (.int c)),rfl,?_,A,a++[c],r,_,rfl,j,by simp;exact adF,rfl⟩
 have s:=yT (N:=NV k) (n:=294) (i:=1) (j:=2) (st:=lS cs l A a (.sh (.int c))) rfl rfl (fy Zo)
 unfold lS;refine aa lZ ?_;exact(aB (f.trans ((aB s).trans rfl))).trans rfl) (l.map .int) (lS cs l [] [] .ae) (qf ([]) ([]) l _ rfl rfl (by simpa using v) rfl);cases r with|cons=>cases w|nil=>
have i:A++[a]=jh [] l:=i
have B:cu (NV k) 107 [il l] cs=fin (cA (ev (NV k) 299) uR ⟨[.sh (il l),.ae,.ae],cs⟩):=by rfl'
have F:ev (NV k) 299 (.s (uR.getD 1 .av)) (lS cs l [] [] .ae)=bQ (ev (NV k) 298) (.nm 2) LI (l.map .int) (lS cs l [] [] .ae):=by rfl'
have s:ev (NV k) 299 (.s (.ret (.l 1))) (lS cs l A a m)=.ok (.ret (.sh (.list ((A.map th++[a.map D.int]).map D.list)))) ⟨[.sh (il l),.sh (.list ((A.map th++[a.map D.int]).map D.list)),m],cs⟩:=by rfl'
refine aa B (aa (show uR=[.g 1 .nest,uR.getD 1 .av,.ret (.l 1)]from rfl) (aa (aB (by rfl')) (aa (aB (F.trans b)) (aa (ik s) (aD i ?_)))));show RC.ok (.sh (.list _)) cs=.ok (.sh (.list _)) cs;rw[lZ,nA,lZ];rfl
end
section
variable{d:T->St->R}{j:cO}{i:ai S}{x:D}{r:ai D}{f st2:St}{loc:ai Slot}{k:Slot}
theorem iy(h:iw j x f.l=Bc loc)(a:d (.ss i) ⟨loc,f.cells⟩=.ok .ay st2):bQ d j i (x::r) f=bQ d j i r st2:=by show rO (iw j x f.l) (λloc=>(d (.ss i) ⟨loc,f.cells⟩).i6 λf=>bQ d j i r f)=_;refine aa h ?_;show(d (.ss i) ⟨loc,f.cells⟩).i6 _=_;exact aa a rfl
theorem NG(h:iw j x f.l=Bc loc)(a:d (.ss i) ⟨loc,f.cells⟩=.ok (.ret k) st2):bQ d j i (x::r) f=.ok (.ret k) st2:=by show rO (iw j x f.l) (λloc=>(d (.ss i) ⟨loc,f.cells⟩).i6 λf=>bQ d j i r f)=_;refine aa h ?_;show(d (.ss i) ⟨loc,f.cells⟩).i6 _=_;exact aa a rfl
end
section
variable{cl:ak->ai D->ai Cell->RC}{cs:ai Cell}
noncomputable abbrev sF:D:=.u [.str [82],.str [65,76],.str [65,78]]
abbrev Va:ai S:=[.iff (.p (.l 3) [.In] [.u [.cS [82],.cS [65,76],.cS [65,78]]]) [.ret (.cT D1)] []]
theorem S8:∀(W:ai D)(d:Slot),(∀w∈W,inD cs w sF=Bc (r w))->∃f,bQ (ev (NV cl) 296) (.nm 3) Va W ⟨[.sh L,.sh (.ref 1),.sh a,d],cs⟩=(if W.any r then .ok (.ret (.sh (.bool D1))) ⟨[.sh L,.sh (.ref 1),.sh a,f],cs⟩else .ok .ay ⟨[.sh L,.sh (.ref 1),.sh a,f],cs⟩):=by intro W;induction W with|nil=>exactλd Y=>⟨d,rfl⟩|cons w W j=>intro d h;haveI t:=fX (N:=NV cl) (n:=292) (a:=.l 3) (b:=.u [.cS [82],.cS [65,76],.cS [65,78]]) (st:=⟨[.sh L,.sh (.ref 1),.sh a,.sh w],cs⟩) (st1:=⟨[.sh L,.sh (.ref 1),.sh a,.sh w],cs⟩) (st2:=⟨[.sh L,.sh (.ref 1),.sh a,.sh w],cs⟩) (op:=.In) (w:=sF) (by rfl') (by rfl') (h w (.head _));have b:=ew (x:=[.ret (.cT D1)]) (y:=[]) t;cases i:r w with|true=>rw[i,eI rfl]at b;refine⟨.sh w,?_⟩;rw[qE,i,SI,eI rfl];exact NG rfl (ssq (ik (b.trans (by rfl'))))|false=>rw[i,ej (by decide)]at b;obtain⟨f,c⟩:=j (.sh w) λy m=>h y (.tail _ m);refine⟨f,?_⟩;rw[qE,i,Ij,<-c];exact iy (loc:=[.sh L,.sh (.ref 1),.sh a,.sh w]) (st2:=⟨[.sh L,.sh (.ref 1),.sh a,.sh w],cs⟩) rfl (ssq ((aB (b.trans rfl)).trans rfl))
abbrev CN:ai S:=lJ (uN.getD 0 .av)
theorem abz{d:ai a0->ai D}(t:∀a∈L,cl 86 [il a,.ref 1] cs=.ok (.sh (.list (d a))) cs/\∀w∈d a,inD cs w sF=Bc (k w)):cu (NV cl) 109 [ld L,.ref 1] cs=.ok (.sh (.bool (L.any λa=>(d a).any k))) cs:=by
 haveI F:∀(r:ai (ai a0))(j f:Slot),(∀a∈r,a∈L)->∃l p,bQ (ev (NV cl) 298) (.nm 2) CN (r.map il) ⟨[.sh (ld L),.sh (.ref 1),j,f],cs⟩=(if(r.any λa=>(d a).any k)then .ok (.ret (.sh (.bool D1))) ⟨[.sh (ld L),.sh (.ref 1),l,p],cs⟩else .ok .ay ⟨[.sh (ld L),.sh (.ref 1),l,p],cs⟩):=by intro r;induction r with|nil=>exactλj f Y=>jY j f rfl|cons a r A=>
intro j f u
refine aU (t a (u a (.head _))) λC G=>?_;refine eE (S8 (cl:=cl) (L:=ld L) (a:=il a) (d a) f G) λv b=>?_;have c:ev (NV cl) 297 (.s (CN.getD 0 .av)) ⟨[.sh (ld L),.sh (.ref 1),.sh (il a),f],cs⟩=_:=rA (aV (x_call (st1:=⟨[.sh (ld L),.sh (.ref 1),.sh (il a),f],cs⟩) (by rfl') C) rfl) rfl b;cases i:(d a).any k with
|true=>
rw[i,eI rfl]at c
refine jY (.sh (il a)) v ?_
refine aa qE (aa i ?_)
rw[SI,eI rfl];exact NG rfl (ik c)|false=>rw[i,ej (by decide)]at c;refine qd (A (.sh (il a)) v λy m=>u y (.tail _ m)) λl p b=>?_;refine jY l p ?_;refine aa qE (aa i ?_);rw[Ij,<-b];exact iy rfl ((aB c).trans rfl)
 refine qd (F L .ae .ae λY h=>h) λj f b=>?_
 haveI B:cu (NV cl) 109 [ld L,.ref 1] cs=fin (cA (ev (NV cl) 299) uN ⟨[.sh (ld L),.sh (.ref 1),.ae,.ae],cs⟩):=by rfl'
 haveI s:ev (NV cl) 299 (.s (uN.getD 0 .av)) ⟨[.sh (ld L),.sh (.ref 1),.ae,.ae],cs⟩=bQ (ev (NV cl) 298) (.nm 2) CN (L.map il) ⟨[.sh (ld L),.sh (.ref 1),.ae,.ae],cs⟩:=by rfl'
 refine aa B (aa (show uN=[uN.getD 0 .av,.ret (.cT Un)]from rfl) ?_);haveI s:=s.trans b;cases i:L.any λa=>(d a).any k with|true=>rw[i,eI rfl]at s;rw[ik s];rfl|false=>rw[i,ej (by decide)]at s;rw[aB s];rfl'
noncomputable abbrev ww(W:ai (ai ak)):ai D:=W.map D.str
noncomputable def dQ(w:ai ak):aA:=w.all λc=>ys c 1114112
noncomputable def iP:ai (ai ak)->ai (ai ak)->ai (ai ak)|F,[]=>F|F,w::r=>if F.getLast?=Bc w then iP F r else iP (F++[w]) r
theorem AP:iP F (w::r)=if F.getLast?=Bc w then iP F r else iP (F++[w]) r:=rfl
theorem item_last(h:F.getLast?=Bc u)(a:F.length<=100000):dP (ww F) (-1)=Bc (.str u):=by clear a;exact GU (by show(F.map _).getLast?=_;rw[y?,h];rfl)
abbrev setB:ai S:=lJ (vz.getD 1 .av)
noncomputable abbrev Lz(W)(F)(w)(cs):=(⟨[.sh (.list (ww W)),.o (ww F),.sh (.str w)],cs⟩:St)
theorem acD(y:cl 105 [.list (ww W)] cs=.ok (.sh (.list (ww Z))) cs)(H:Z.all dQ=D1)(I:Z.length<=1000):cu (NV cl) 111 [.list (ww W)] cs=.ok (.sh (.list (ww (iP [] Z)))) cs:=by
 obtain⟨V,a,F,r,A,J,j,f,m,rfl⟩:=qi (rec:=ev (NV cl) 298) (tg:=.nm 2) (body:=setB) (P:=λi s=>∃(F r:ai (ai ak))(A:Slot),i=ww r/\iP F r=iP [] Z/\(F.all dQ&&r.all dQ)=D1/\F.length+r.length<=1000/\s=⟨[.sh (.list (ww W)),.o (ww F),A],cs⟩) (by
rintro c i s⟨F,r,A,j,f,m,K,rfl⟩
cases r with
|nil=>cases j
|cons w r=>
refine aU (JB j) λL M=>?_
clear j
refine aa L ?_
refine aa M ?_
rw[AP]at f
rw[hS]at K
obtain⟨k,l⟩:=iA m
rw[Nf]at l
clear m
obtain⟨l,G⟩:=iA l
haveI C:dat 8 (.list (ww F))=D1:=by show(ww F).all (dat 7)=D1;exact aa SN k
have t:ev (NV cl) 295 (.t (.isNil 1 Un)) (Lz W F w cs)=vB (F.isEmpty) (Lz W F w cs):=by
 have d:ev (NV cl) 295 (.t (.isNil 1 Un)) (Lz W F w cs)=((bk (dat 8 (.list (ww F))) (vB ((ww F).isEmpty !=Un) (Lz W F w cs))).bC).bindB λb s=>vB b s:=by rfl'
 rw[C]at d
 refine aa d ?_;clear d k C f;cases F<;>rfl
have N:ev (NV cl) 296 (.t (.bj .Or [.isNil 1 Un,.p (.jC 1 (.neg (.cI 1))) [.NotEq] [.l 2]])) (Lz W F w cs)=vB (!decide (F.getLast?=Bc w)) (Lz W F w cs):=by clear C f;cases p:F.getLast? with|none=>rw[List.getLast?_eq_none_iff.mp p]at t⊢;exact zO (q:=Un) t λh=>nomatch h|some u=>
 have O:F.isEmpty=Un:=by cases F with|nil=>cases p|cons=>rfl
 have P:dQ u=D1:=lg.mp k u (No p)
 rw[O]at t
 haveI d:=zO t λY=>fX (b:=.l 2) (op:=.NotEq) (aV (yC (i:=1) (b:=.neg (.cI 1)) rfl (by rfl') (item_last p q1)) rfl) (by rfl') (by show(bY (dat 8 (.str u)&&dat 8 (.str w)) (decide (u=w))).map (!.)=_;refine aa (show dat 8 (.str u)=D1 from P) (aa (show dat 8 (.str w)=D1 from l) ?_);rfl)
 refine aa d ?_
 rw[Ij];congr 2;simp
haveI d:=ew (x:=[.app 1 (.l 2)]) (y:=[]) N
by_cases v:F.getLast?=Bc w
.rw[mM v,ej (by decide)]at d
 rw[eI v]at f;exact⟨_,_,rfl,(aB (d.trans rfl)).trans rfl,F,r,_,rfl,f,aa k (aa G rfl),q3,rfl⟩
.rw[Lc v,eI (by rfl)]at d;rw[ej v]at f;haveI Q:=lL (N:=NV cl) (n:=294) (i:=1) (a:=.l 2) (st:=(Lz W F w cs)) (st1:=(Lz W F w cs)) (sl:=.sh (.str w)) rfl (by rfl') rfl rfl (sm (by rw[fx];exact q1));refine⟨_,⟨[.sh (.list (ww W)),.o (ww (F++[w])),.sh (.str w)],cs⟩,rfl,?_,F++[w],r,_,rfl,f,aa Gf (aa k (aa G (aa Nf (aa l rfl)))),by simp;exact q4,rfl⟩;unfold ww;refine aa lZ ?_;exact(aB (d.trans ((aB Q).trans rfl))).trans rfl) (ww Z) ⟨[.sh (.list (ww W)),.o [],.ae],cs⟩ (Fs ([]) Z _ rfl rfl (aa H rfl) (by simpa using I) rfl);clear m f;cases r with|cons=>cases J|nil=>
have j:F=iP [] Z:=j
have B:cu (NV cl) 111 [.list (ww W)] cs=fin (cA (ev (NV cl) 299) vz ⟨[.sh (.list (ww W)),.ae,.ae],cs⟩):=by rfl'
have U:ev (NV cl) 299 (.s (vz.getD 1 .av)) ⟨[.sh (.list (ww W)),.o [],.ae],cs⟩=_:=rA (aV (x_call (st1:=⟨[.sh (.list (ww W)),.o [],.ae],cs⟩) (by rfl') y) rfl) rfl a
refine aa B ?_;rw[show vz=[.g 1 (.a []),vz.getD 1 .av,.ret (.l 1)]from rfl,aB (by rfl'),aB U,<-j];rfl'
end
section
variable{N:Env}{n k r c:ak}{a b:E}{args:ai E}{ns:ai ak}{vs ds:ai D}{st st1 st2:St}{d:D}{p q:aA}{cs':ai Cell}
theorem yO(h:ev N n (.e a) st=vD (.ref r) st1)(g:st1.cells[r]?=Bc (.inst c ns vs))(f:(lK k ns vs).bind pH=Bc d):ev N (n+1) (.x (.bw a k)) st=vD d st1:=by show((ev N n (.e a) st).aT λd st=>jZ d λr=>ni st.cells[r]? λY ns vs=>oD ((lK k ns vs).bind pH) st).bC=_;refine aa h ?_;show(ni st1.cells[r]? λY ns vs=>oD ((lK k ns vs).bind pH) st1).bC=_;refine aa g ?_;show(oD ((lK k ns vs).bind pH) st1).bC=_;exact aa f rfl
theorem Jf(h:ev N n (.e a) st=vD (.ref r) st1)(g:st1.cells[r]?=Bc (.inst c ns vs))(f:(lK k ns vs).bind pH=Bc (.bool p)):ev N (n+2) (.t (.bw a k)) st=vB p st1:=by show(ev N (n+1) (.x (.bw a k)) st).bindB (λb st=>vB b st)=_;exact aa (yO h g f) rfl
theorem Gx(h:dK (ev N n) args st=.ok (.ds ds) st1)(g:N.call k ds st1.cells=.ok (.sh (.bool p)) cs'):ev N (n+2) (.t (.call k args)) st=vB p ⟨st1.l,cs'⟩:=by show(ev N (n+1) (.x (.call k args)) st).bindB (λb st=>vB b st)=_;exact aa (x_call h g) rfl
theorem yM(h:ev N n (.t a) st=vB p st1):ev N (n+1) (.t (.nt a)) st=vB (!p) st1:=by show(ev N n (.t a) st).bindB (λb st=>vB (!b) st)=_;exact aa h rfl
theorem aaF(h:ev N n (.t a) st=vB D1 st1)(g:ev N n (.t b) st1=vB q st2):ev N (n+1) (.t (.bj .And [a,b])) st=vB q st2:=by show(ev N n (.t a) st).bindB (λb' st=>match !b' with|true=>vB b' st|false=>(ev N n (.t b) st).bindB λb' st=>match !b' with|true=>vB b' st|false=>vB D1 st)=_;refine aa h ?_;show(ev N n (.t b) st1).bindB (λb' st=>match !b' with|true=>vB b' st|false=>vB D1 st)=_;refine aa g ?_;clear g;cases q<;>rfl
end
section
variable{cl:ak->ai D->ai Cell->RC}{cs ax:ai Cell}
noncomputable def be:a0->ai (ai a0)->ai a0|_,[]=>[]|n,l::r=>(if 0<n then[46]else[])++l++be (n+1) r
theorem Cd:be n (l::r)=(if 0<n then[46]else[])++l++be (n+1) r:=rfl
abbrev Ek:ai S:=match uG.getD 1 .av with|.bA _ _ b=>b|_=>[]
abbrev rK(n:a0)(L:ai (ai a0)):ai D:=jo (λn x=>.u [.int n,x]) n (L.map il)
theorem Jj(hl:(be 0 L).length<=1000):cu (NV cl) 114 [ld L] cs=.ok (.sh (il (be 0 L))) cs:=by
 obtain⟨ag,e,n,F,r,x2,x3,e0,e1,rfl⟩:=qi (rec:=ev (NV cl) 298) (tg:=.tp [.nm 2,.nm 3]) (body:=Ek) (P:=λrest st=>∃(n:a0)(F:ai a0)(r:ai (ai a0))(x2 x3:Slot),rest=rK n r/\F++be n r=be 0 L/\st=⟨[.sh (ld L),.o (F.map .int),x2,x3],cs⟩) (by
rintro x rest st⟨n,F,r,x2,x3,e1,e2,rfl⟩
cases r with
|nil=>cases e1
|cons l r=>
refine aU (JB e1) λmj lN=>?_
clear e1
refine aa mj ?_
subst lN
rw[Cd,<-su]at e2
haveI bd:F.length+(1+l.length)<=1001:=by
 rw[<-e2]at hl
 simp only[lk]at hl;lia
haveI t:ev (NV cl) 292 (.t (.p (.l 2) [.Gt] [.cI 0])) ⟨[.sh (ld L),.o (F.map .int),.sh (.int n),.sh (il l)],cs⟩=vB (decide (0<n)) ⟨[.sh (ld L),.o (F.map .int),.sh (.int n),.sh (il l)],cs⟩:=by rfl'
haveI s:∀(p:ai a0),p.length<=1->ev (NV cl) 294 (.e (.ite (.p (.l 2) [.Gt] [.cI 0]) (.a [.aO 84]) (.a []))) ⟨[.sh (ld L),.o (F.map .int),.sh (.int n),.sh (il l)],cs⟩=vD (il p) ⟨[.sh (ld L),.o (F.map .int),.sh (.int n),.sh (il l)],cs⟩->ev (NV cl) 297 (.s (Ek.getD 0 .av)) ⟨[.sh (ld L),.o (F.map .int),.sh (.int n),.sh (il l)],cs⟩=.ok .ay ⟨[.sh (ld L),.o ((F++(p++l)).map .int),.sh (.int n),.sh (il l)],cs⟩:=λp hp h=>by
 haveI o:dE .Add (il p) (il l)=Bc (.o (p.map .int++l.map .int)):=by show bY (aM (p.map D.int)&&aM (l.map D.int)) (Slot.o (p.map D.int++l.map D.int))=_;exact aa (fy (by lia)) (aa (fy (by omega)) rfl)
 haveI q:=uB (N:=NV cl) (n:=296) (i:=1) (a:=.b .Add (.ite (.p (.l 2) [.Gt] [.cI 0]) (.a [.aO 84]) (.a [])) (.l 3)) (st:=⟨[.sh (ld L),.o (F.map .int),.sh (.int n),.sh (il l)],cs⟩) (st1:=⟨[.sh (ld L),.o (F.map .int),.sh (.int n),.sh (il l)],cs⟩) (d:=.list (p.map .int++l.map .int)) (F:=F.map .int) (m:=p.map .int++l.map .int) rfl (aV (n:=295) (sl:=.o (p.map .int++l.map .int)) (ij (n:=294) (v:=il p) (w:=il l) (st1:=⟨[.sh (ld L),.o (F.map .int),.sh (.int n),.sh (il l)],cs⟩) (st2:=⟨[.sh (ld L),.o (F.map .int),.sh (.int n),.sh (il l)],cs⟩) h (by rfl') o) rfl) rfl rfl (fy (by omega)) (sm (by rw[lk,fx,fx];omega))
 rw[lZ,lZ];exact q
by_cases hn:0<n
.rw[mM hn]at t
 rw[eI hn]at e2
 refine⟨_,⟨[.sh (ld L),.o ((F++([46]++l)).map .int),.sh (.int n),.sh (il l)],cs⟩,rfl,ssq ((aB (s [46] (ir _) (aV (n:=293) (BF (n:=292) t (st2:=⟨[.sh (ld L),.o (F.map .int),.sh (.int n),.sh (il l)],cs⟩) (d:=il [46]) (by rfl')) rfl))).trans rfl),n+1,F++([46]++l),r,_,_,rfl,?_,rfl⟩;rw[<-e2]
.rw[Lc hn]at t
 rw[ej hn]at e2;refine⟨_,⟨[.sh (ld L),.o ((F++([]++l)).map .int),.sh (.int n),.sh (il l)],cs⟩,rfl,ssq ((aB (s [] (oZ _) (aV (n:=293) (za (n:=292) t (st2:=⟨[.sh (ld L),.o (F.map .int),.sh (.int n),.sh (il l)],cs⟩) (d:=il []) (by rfl')) rfl))).trans rfl),n+1,F++([]++l),r,_,_,rfl,?_,rfl⟩;rw[<-e2]) (rK 0 L) ⟨[.sh (ld L),.o [],.ae,.ae],cs⟩ ⟨0,[],L,_,_,rfl,rfl,rfl⟩;cases r with|cons=>cases e0|nil=>
have e1:F++[]=be 0 L:=e1
rw[lH]at e1
haveI B:cu (NV cl) 114 [ld L] cs=fin (cA (ev (NV cl) 299) uG ⟨[.sh (ld L),.ae,.ae,.ae],cs⟩):=by rfl'
haveI s2:ev (NV cl) 299 (.s (uG.getD 1 .av)) ⟨[.sh (ld L),.o [],.ae,.ae],cs⟩=bQ (ev (NV cl) 298) (.tp [.nm 2,.nm 3]) Ek (rK 0 L) ⟨[.sh (ld L),.o [],.ae,.ae],cs⟩:=by rfl'
rw[B,show uG=[.g 1 (.a []),uG.getD 1 .av,.ret (.l 1)]from rfl,aB (st1:=⟨[.sh (ld L),.o [],.ae,.ae],cs⟩) (by rfl'),aB (s2.trans e),<-e1];rfl'
noncomputable def jr:ai ak:=[98,105,100,105]
abbrev Al:ai S:=lJ (mE.getD 2 .av)
abbrev gj(cs:ai Cell)(name M:ai a0)(x4:Slot)(H:ai (ai a0))(x6 x7 x8:Slot):St:=⟨[.sh (il name),.sh (.ref 1),.sh (.ref 12),.sh (il M),x4,.o (H.map il),x6,x7,x8],cs⟩
theorem Vt(zG:∀x∈L,cl 108 [il x,.ref 1,.ref 12] cs=.ok (.sh (.u [il (sh x),.list (ww (ws x))])) cs/\(ws x).length<=20)(hl:L.length<=100)(hw:W0.length<=100)(cP:L≠[]):∃x6 x7 x8,bQ (ev (NV cl) 298) (.nm 6) Al (L.map il) (gj cs name M (.sh (.list (ww W0))) [] .ae .ae .ae)=.ok .ay (gj cs name M (.o (ww (W0++L.flatMap ws))) (L.map sh) x6 x7 x8):=by
 obtain⟨ag,e,H,W,r,x4,x6,x7,x8,e0,e1,e2,e3,e4,e5,e6,rfl⟩:=qi (rec:=ev (NV cl) 298) (tg:=.nm 6) (body:=Al) (P:=λrest st=>∃(H:ai (ai a0))(W:ai (ai ak))(r:ai (ai a0))(x4 x6 x7 x8:Slot),rest=r.map il/\(∀x∈r,x∈L)/\H++r.map sh=L.map sh/\W++r.flatMap ws=W0++L.flatMap ws/\(x4=.o (ww W)\/x4=.sh (.list (ww W))/\r=L)/\H.length+r.length<=100/\W.length+20*r.length<=2100/\st=gj cs name M x4 H x6 x7 x8) (by
clear hw
rintro x rest st⟨H,W,r,x4,x6,x7,x8,e0,e1,e2,e3,e4,e5,e6,rfl⟩
cases r with
|nil=>cases e0
|cons x r=>
refine aU (JB e0) λFp xH=>?_
clear e0
refine aa Fp ?_
refine aa xH ?_
obtain⟨f1,f2⟩:=zG x (e1 x (.head _))
rw[hS]at e5 e6
haveI s1:ev (NV cl) 297 (.s (Al.getD 0 .av)) (gj cs name M x4 H (.sh (il x)) x7 x8)=.ok .ay (gj cs name M x4 H (.sh (il x)) (.sh (il (sh x))) (.sh (.list (ww (ws x))))):=sE (aV (n:=295) (x_call (st1:=gj cs name M x4 H (.sh (il x)) x7 x8) (by rfl') f1) rfl) rfl
haveI s2:ev (NV cl) 297 (.s (.app 5 (.l 7))) (gj cs name M x4 H (.sh (il x)) (.sh (il (sh x))) (.sh (.list (ww (ws x)))))=.ok .ay (gj cs name M x4 (H++[sh x]) (.sh (il x)) (.sh (il (sh x))) (.sh (.list (ww (ws x))))):=by
 haveI q:=lL (N:=NV cl) (n:=296) (i:=5) (a:=.l 7) (st:=gj cs name M x4 H (.sh (il x)) (.sh (il (sh x))) (.sh (.list (ww (ws x))))) (st1:=gj cs name M x4 H (.sh (il x)) (.sh (il (sh x))) (.sh (.list (ww (ws x))))) (sl:=.sh (il (sh x))) rfl (by rfl') rfl rfl (sm (by rw[fx];exact q1))
 unfold gj;exact aa lZ q
haveI o:dE .Add (.list (ww W)) (.list (ww (ws x)))=Bc (.o (ww W++ww (ws x))):=by show bY (aM (ww W)&&aM (ww (ws x))) (Slot.o (ww W++ww (ws x)))=_;exact aa (sm (by rw[fx];exact q1)) (aa (sm (by rw[fx];exact q0)) rfl)
haveI E7:ww (W++ws x)=ww W++ww (ws x):=lZ
haveI s3:ev (NV cl) 297 (.s (.g 4 (.b .Add (.l 4) (.l 8)))) (gj cs name M x4 (H++[sh x]) (.sh (il x)) (.sh (il (sh x))) (.sh (.list (ww (ws x)))))=.ok .ay (gj cs name M (.o (ww (W++ws x))) (H++[sh x]) (.sh (il x)) (.sh (il (sh x))) (.sh (.list (ww (ws x))))):=by
 refine aa E7 ?_
 refine fw (ij (st1:=gj cs name M (.sh (.list (ww W))) (H++[sh x]) (.sh (il x)) (.sh (il (sh x))) (.sh (.list (ww (ws x))))) (st2:=gj cs name M (.sh (.list (ww W))) (H++[sh x]) (.sh (il x)) (.sh (il (sh x))) (.sh (.list (ww (ws x))))) ?_ (by rfl') o)
 clear s2 s1;rcases e4 with rfl|⟨rfl,_⟩<;>rfl'
refine⟨_,gj cs name M (.o (ww (W++ws x))) (H++[sh x]) (.sh (il x)) (.sh (il (sh x))) (.sh (.list (ww (ws x)))),rfl,(aB s1).trans ((aB s2).trans ((aB s3).trans rfl)),H++[sh x],W++ws x,r,_,_,_,_,rfl,λy m=>e1 y (.tail _ m),?_,?_,.inl rfl,?_,?_,rfl⟩
.refine aD e2 ?_;simp
.refine aD e3 ?_;simp
.simp;exact q4
.refine aa lk ?_;exact q5) (L.map il) (gj cs name M (.sh (.list (ww W0))) [] .ae .ae .ae) ⟨[],W0,L,_,_,_,_,rfl,λY h=>h,rfl,rfl,.inr ⟨rfl,rfl⟩,by simpa using hl,Qr,rfl⟩;clear e6 e5 e1;cases r with|cons=>cases e0|nil=>
rw[FM,lH]at e2
rw[KM,lH]at e3
rcases e4 with rfl|⟨_,h⟩
.refine aD e2 ?_
 refine aD e3 ?_;exact FE x6 x7 x8 e
.exact aL h.symm cP
end
section
variable{a:ak->ai D->ai Cell->RC}{cs b:ai Cell}
abbrev zd:ai S:=[.iff (.nt (.call 110 [.l 6,.l 1])) [.app 4 (.cS [98,105,100,105])] []]
abbrev jb(cs:ai Cell)(c M:ai a0)(W:ai (ai ak))(H:ai (ai a0))(d f h:Slot):St:=⟨[.sh (il c),.sh (.ref 1),.sh (.ref 12),.sh (il M),.o (ww W),.sh (ld H),d,f,h],cs⟩
def ls(d:ai a0->aA)(c:ai a0):ai (ai ak):=if d c then[]else[jr]
theorem SY:∀(r:ai (ai a0))(W:ai (ai ak))(B:Slot),(∀y∈r,a 110 [il y,.ref 1] cs=.ok (.sh (.bool (ow y))) cs)->W.length+r.length<=5000->∃A,bQ (ev (NV a) 296) (.nm 6) zd (r.map il) (jb cs name M W H B x7 x8)=.ok .ay (jb cs name M (W++r.flatMap (ls ow)) H A x7 x8):=by intro r;induction r with|nil=>intro W B _ _;refine⟨B,?_⟩;rw[KM,lH];rfl|cons y r F=>intro W B h G;rw[hS]at G;have t:ev (NV a) 294 (.t (.nt (.call 110 [.l 6,.l 1]))) (jb cs name M W H (.sh (il y)) x7 x8)=vB (!ow y) (jb cs name M W H (.sh (il y)) x7 x8):=yM (Gx (st1:=jb cs name M W H (.sh (il y)) x7 x8) (by rfl') (h y (.head _)));have q:=ew (x:=[.app 4 (.cS [98,105,100,105])]) (y:=[]) t;refine aa Di ?_;cases C:ow y with|true=>rw[C,ej (by decide)]at q;obtain⟨A,e⟩:=F W (.sh (il y)) (λy m=>h y (.tail _ m)) q3;refine⟨A,?_⟩;rw[show ls ow y=[]from eI C,AS,<-e];exact iy rfl ((aB (q.trans rfl)).trans rfl)|false=>rw[C,eI (by rfl)]at q;obtain⟨A,e⟩:=F (W++[jr]) (.sh (il y)) (λy m=>h y (.tail _ m)) (by simp;exact q4);refine⟨A,?_⟩;rw[show ls ow y=[jr]from ej (by rw[C];decide),<-su,<-e];have I:=lL (N:=NV a) (n:=292) (i:=4) (a:=.cS [98,105,100,105]) (st:=jb cs name M W H (.sh (il y)) x7 x8) (st1:=jb cs name M W H (.sh (il y)) x7 x8) (sl:=.sh (.str jr)) rfl (by rfl') rfl rfl (sm (by rw[fx];exact q1));refine iy rfl ((aB (q.trans ((aB ?_).trans rfl))).trans rfl);unfold jb ww;rw[lZ];exact I
structure aea(cl:ak->ai D->ai Cell->RC)(cs:ai Cell)(L:ai (ai a0))(sh:ai a0->ai a0)(ws:ai a0->ai (ai ak))(ow:ai a0->aA)(mx:aA)(W:ai (ai ak))(Z:ai (ai ak)):Prop where
ne:L≠[]
len:L.length<=100
zG:∀x∈L,cl 108 [il x,.ref 1,.ref 12] cs=.ok (.sh (.u [il (sh x),.list (ww (ws x))])) cs/\(ws x).length<=20
Vb:cl 109 [ld (L.map sh),.ref 1] cs=.ok (.sh (.bool mx)) cs
Ym:∀y∈L.map sh,cl 110 [il y,.ref 1] cs=.ok (.sh (.bool (ow y))) cs
DF:cl 111 [.list (ww W)] cs=.ok (.sh (.list (ww Z))) cs
theorem acR(N:cs[12]?=Bc (rY t))(O:b[12]?=Bc (rY t))(H:a 106 [il name,.ref 1,.bool t,.bool D1] cs=.ok (.sh (.u [il M,.list (ww p)])) b)(P:p.length<=100)(V:a 107 [il M] b=.ok (.sh (ld L)) b)(A:aea a b L sh w I F (p++L.flatMap w++(if F then(L.map sh).flatMap (ls I)else[])) Z):cu (NV a) 116 [il name,.ref 1,.ref 12] cs=.ok (.sh (.u [ld (L.map sh),.list (ww Z)])) b:=by
 refine cps λQ J=>?_
 obtain⟨v,s,u,c⟩:=Vt (name:=name) (M:=M) A.zG A.len P A.ne
 refine J ?_;clear J Q
 have B:cu (NV a) 116 [il name,.ref 1,.ref 12] cs=fin (cA (ev (NV a) 299) mE ⟨[.sh (il name),.sh (.ref 1),.sh (.ref 12),.ae,.ae,.ae,.ae,.ae,.ae],cs⟩):=by rfl'
 have K:∀(i k:ak)(d:D),(lK k [73,74,75,76,77,78,79] [.bool t,.bool D1,.bool D1,.bool D1,.bool D1,.bool Un,.bool D1]).bind pH=Bc d->ev (NV a) (i+4) (.e (.bw (.l 2) k)) ⟨[.sh (il name),.sh (.ref 1),.sh (.ref 12),.ae,.ae,.ae,.ae,.ae,.ae],cs⟩=vD d ⟨[.sh (il name),.sh (.ref 1),.sh (.ref 12),.ae,.ae,.ae,.ae,.ae,.ae],cs⟩:=λi k d h=>aV (yO (by rfl') N h) rfl
 have U:ev (NV a) 299 (.s (mE.getD 0 .av)) ⟨[.sh (il name),.sh (.ref 1),.sh (.ref 12),.ae,.ae,.ae,.ae,.ae,.ae],cs⟩=.ok .ay ⟨[.sh (il name),.sh (.ref 1),.sh (.ref 12),.sh (il M),.sh (.list (ww p)),.ae,.ae,.ae,.ae],b⟩:=sE (aV (n:=297) (x_call (gw (st1:=⟨[.sh (il name),.sh (.ref 1),.sh (.ref 12),.ae,.ae,.ae,.ae,.ae,.ae],cs⟩) (by rfl') (gw (by rfl') (gw (K 292 73 (.bool t) rfl) (gw (K 292 74 (.bool D1) rfl) rfl)))) H) rfl) rfl
 have X:ev (NV a) 299 (.s (mE.getD 2 .av)) (gj b name M (.sh (.list (ww p))) [] .ae .ae .ae)=_:=rA (bd:=Al) (aV (x_call (st1:=gj b name M (.sh (.list (ww p))) [] .ae .ae .ae) (by rfl') V) rfl) rfl c
 have G:∃C,ev (NV a) 299 (.s (mE.getD 3 .av)) (gj b name M (.o (ww (p++L.flatMap w))) (L.map sh) v s u)=.ok .ay (jb b name M (p++L.flatMap w++(if F then(L.map sh).flatMap (ls I)else[])) (L.map sh) C s u):=by have tl:ev (NV a) 298 (.t (.bj .And [.bw (.l 2) 77,.call 109 [.l 5,.l 1]])) (gj b name M (.o (ww (p++L.flatMap w))) (L.map sh) v s u)=vB F (jb b name M (p++L.flatMap w) (L.map sh) v s u):=aaF (Jf (st1:=gj b name M (.o (ww (p++L.flatMap w))) (L.map sh) v s u) (by rfl') O rfl) (Gx (st1:=jb b name M (p++L.flatMap w) (L.map sh) v s u) (by rfl') A.Vb);have j:=ew (x:=[.bA (.nm 6) (.ex (.l 5)) zd]) (y:=[]) tl;cases F with
|false=>
rw[ej (by decide)]at j
refine⟨v,?_⟩
refine aa (ej (by decide)) ?_;rw[lH];exact j.trans rfl|true=>
  rw[eI rfl]at j
  have wl:(p++L.flatMap w).length<=3000:=by
   have :∀r:ai (ai a0),(∀l∈r,l∈L)->(r.flatMap w).length<=20*r.length:=by intro r;induction r with|nil=>intro _;simp|cons l r ih=>
intro h
have i1:=ih λy m=>h y (.tail _ m)
have i2:=(A.zG l (h l (.head _))).2;refine aa Di (aa lk (aa hS ?_));exact Pw
   have i1:=this L λY h=>h
   have i2:=A.len
   refine aa lk ?_;exact XR
  obtain⟨C,e2⟩:=SY (L.map sh) (p++L.flatMap w) v A.Ym (by have :=A.len;rw[fx];exact q6)
  refine⟨C,?_⟩
  refine aa (eI rfl) ?_
  have f:ev (NV a) 297 (.s (.bA (.nm 6) (.ex (.l 5)) zd)) (jb b name M (p++L.flatMap w) (L.map sh) v s u)=bQ (ev (NV a) 296) (.nm 6) zd ((L.map sh).map il) (jb b name M (p++L.flatMap w) (L.map sh) v s u):=by rfl'
  exact j.trans ((aB (f.trans e2)).trans rfl)
 obtain⟨C,G⟩:=G
 generalize hW:p++L.flatMap w++(if F then(L.map sh).flatMap (ls I)else[])=W at G A
 have s4:ev (NV a) 299 (.s (.ret (.u [.l 5,.call 111 [.l 4]]))) (jb b name M W (L.map sh) C s u)=.ok (.ret (.sh (.u [ld (L.map sh),.list (ww Z)]))) ⟨[.sh (il name),.sh (.ref 1),.sh (.ref 12),.sh (il M),.sh (.list (ww W)),.sh (ld (L.map sh)),C,s,u],b⟩:=nD (aV (xk (gw (st1:=jb b name M W (L.map sh) C s u) (by rfl') (gw (aV (x_call (st1:=⟨[.sh (il name),.sh (.ref 1),.sh (.ref 12),.sh (il M),.sh (.list (ww W)),.sh (ld (L.map sh)),C,s,u],b⟩) (by rfl') A.DF) rfl) rfl))) rfl);refine aa B ?_;rw[show mE=[mE.getD 0 .av,mE.getD 1 .av,mE.getD 2 .av,mE.getD 3 .av,.ret (.u [.l 5,.call 111 [.l 4]])]from rfl,aB U,aB (by rfl'),aB X,aB G,ik s4];rfl
theorem Wx(c:a 116 [il name,d,d2] cs=.ok (.sh (.u [ld H,.list (ww Z)])) b)(f:a 114 [ld H] b=.ok (.sh (il (be 0 H))) b):cu (NV a) 157 [il name,d,d2] cs=.ok (.sh (.u [il (be 0 H),.list (ww Z)])) b:=by
 have B:cu (NV a) 157 [il name,d,d2] cs=fin (cA (ev (NV a) 299) xT ⟨[.sh (il name),.sh d,.sh d2,.ae,.ae],cs⟩):=by rfl'
 have s:ev (NV a) 299 (.s (xT.getD 0 .av)) ⟨[.sh (il name),.sh d,.sh d2,.ae,.ae],cs⟩=.ok .ay ⟨[.sh (il name),.sh d,.sh d2,.sh (ld H),.sh (.list (ww Z))],b⟩:=sE (n:=298) (aV (x_call (st1:=⟨[.sh (il name),.sh d,.sh d2,.ae,.ae],cs⟩) (by rfl') c) rfl) rfl;have h:ev (NV a) 299 (.s (.ret (.u [.call 114 [.l 3],.l 4]))) ⟨[.sh (il name),.sh d,.sh d2,.sh (ld H),.sh (.list (ww Z))],b⟩=.ok (.ret (.sh (.u [il (be 0 H),.list (ww Z)]))) ⟨[.sh (il name),.sh d,.sh d2,.sh (ld H),.sh (.list (ww Z))],b⟩:=nD (aV (xk (gw (aV (x_call (st1:=⟨[.sh (il name),.sh d,.sh d2,.sh (ld H),.sh (.list (ww Z))],b⟩) (by rfl') f) rfl) (gw (by rfl') rfl))) rfl);refine aa B ?_;rw[show xT=[xT.getD 0 .av,.ret (.u [.call 114 [.l 3],.l 4])]from rfl,aB s,ik h];rfl
end
section
variable{N:Env}{n i:ak}{a b e:E}{l:ai E}{j st1:St}{d v:D}
theorem GS(h:ev N n (.e a) j=vD d st1):ev N (n+1) (.s (.pW k a)) j=.exc d st1:=by show(ev N n (.e a) j).aT (λd j=>.exc d j)=_;exact aa h rfl
theorem qo(h:ev N n (.e a) j=vD v st1)(c:ev N n (.e b) st1=vD k st2)(f:jG st2.cells v k=Bc w):ev N (n+1) (.x (.sub a b)) j=vD w st2:=by show(ev N n (.e a) j).kA (λv j=>(ev N n (.e b) j).aT λk j=>oD (jG j.cells v k) j)=_;refine aa h ?_;show(ev N n (.e b) st1).aT (λk j=>oD (jG j.cells v k) j)=_;refine aa c ?_;show oD (jG st2.cells v k) st2=_;exact aa f rfl
end
theorem xQ:dat (n+1) (il l)=D1:=by show(l.map D.int).all (dat n)=D1;exact aa SN (lg.mpr λa Y=>by cases n<;>rfl)
theorem eq_nil(h:dat 8 (.list l)=D1):gX (.list l) (.list [])=Bc l.isEmpty:=by show bY (dat 8 (.list l)&&D1) (eqB (.list l) (.list []))=_;refine aa h ?_;cases l<;>rfl
theorem HO(h:W.all dQ=D1):dat 8 (.list (ww W))=D1:=by show(ww W).all (dat 7)=D1;exact aa SN h
section
variable{f:ak->ai D->ai Cell->RC}{cs c:ai Cell}{d1:D}
abbrev FV:ai S:=lJ (mP.getD 2 .av)
abbrev gf(cs:ai Cell)(a:ai a0)(d1:D)(b:Slot)(H G:ai (ai a0))(d h i:Slot):St:=⟨[.sh (il a),.sh d1,.sh (.ref 12),.sh (ld H),b,.o (G.map il),d,h,i],cs⟩
theorem XH(K:Z.length<=1000):∀(r:ai (ai a0))(G:ai (ai a0))(d l i j:Slot),(∀y∈r,f 117 [il y] cs=.ok (.sh (.u [il (w y),.list []])) cs)->G.length+r.length<=100->(d=.o (ww Z)\/d=.sh (.list (ww Z)))->∃k p A s,(k=.o (ww Z)\/k=.sh (.list (ww Z)))/\bQ (ev (NV f) 298) (.nm 6) FV (r.map il) (gf cs name d1 d H G l i j)=.ok .ay (gf cs name d1 k H (G++r.map w) p A s):=by intro r;induction r with|nil=>intro G d l i j _ _ t;exact Dy d l i j t (by show _=R.ok .ay (gf cs name d1 d H (G++[]) l i j);rw[lH];rfl)|cons y r u=>
intro G d l i j h v t
rw[hS]at v
have B:ev (NV f) 297 (.s (FV.getD 0 .av)) (gf cs name d1 d H G (.sh (il y)) i j)=.ok .ay (gf cs name d1 d H G (.sh (il y)) (.sh (il (w y))) (.sh (.list []))):=sE (aV (n:=295) (x_call (st1:=gf cs name d1 d H G (.sh (il y)) i j) (by rfl') (h y (.head _))) rfl) rfl
have C:ev (NV f) 297 (.s (.app 5 (.l 7))) (gf cs name d1 d H G (.sh (il y)) (.sh (il (w y))) (.sh (.list [])))=.ok .ay (gf cs name d1 d H (G++[w y]) (.sh (il y)) (.sh (il (w y))) (.sh (.list []))):=by
 have a:=lL (N:=NV f) (n:=296) (i:=5) (a:=.l 7) (st:=gf cs name d1 d H G (.sh (il y)) (.sh (il (w y))) (.sh (.list []))) (st1:=gf cs name d1 d H G (.sh (il y)) (.sh (il (w y))) (.sh (.list []))) (sl:=.sh (il (w y))) rfl (by rfl') rfl rfl (sm (by rw[fx];exact q1))
 unfold gf;exact aa lZ a
have b:dE .Add (.list (ww Z)) (.list [])=Bc (.o (ww Z)):=by
 show bY (aM (ww Z)&&aM []) (Slot.o (ww Z++[]))=_
 refine aa (sm (by rw[fx];exact q0)) ?_;rw[lH];rfl
have F:ev (NV f) 297 (.s (.g 4 (.b .Add (.l 4) (.l 8)))) (gf cs name d1 d H (G++[w y]) (.sh (il y)) (.sh (il (w y))) (.sh (.list [])))=.ok .ay (gf cs name d1 (.o (ww Z)) H (G++[w y]) (.sh (il y)) (.sh (il (w y))) (.sh (.list []))):=by refine fw (ij (st1:=gf cs name d1 (.sh (.list (ww Z))) H (G++[w y]) (.sh (il y)) (.sh (il (w y))) (.sh (.list []))) (st2:=gf cs name d1 (.sh (.list (ww Z))) H (G++[w y]) (.sh (il y)) (.sh (il (w y))) (.sh (.list []))) ?_ (by rfl') b);rcases t with rfl|rfl<;>rfl'
obtain⟨k,p,A,s,I,J⟩:=u (G++[w y]) (.o (ww Z)) (.sh (il y)) (.sh (il (w y))) (.sh (.list [])) (λy m=>h y (.tail _ m)) (by simp;exact q4) (.inl rfl);refine Dy k p A s I ?_;show _=R.ok .ay (gf cs name d1 k H (G++([w y]++r.map w)) p A s);rw[<-su,<-J];exact iy rfl ((aB B).trans ((aB C).trans ((aB F).trans rfl)))
theorem XS{a:ai (ai ak)}(u:c[12]?=Bc (rY t))(v:f 116 [il name,d1,.ref 12] cs=.ok (.sh (.u [ld H,.list (ww Z)])) c)(l:∀y∈H,f 117 [il y] c=.ok (.sh (.u [il (w y),.list []])) c)(A:H.length<=100)(C:Z.length<=1000)(V:a.length<=1000)(U:(Z++a).all dQ=D1)(F:f 118 [ld (H.map w)] c=.ok (.sh (.list (ww a))) c)(G:f 111 [.list (ww (Z++a))] c=.ok (.sh (.list (ww Y))) c)(I:f 114 [ld (H.map w)] c=.ok (.sh (il (be 0 (H.map w)))) c):cu (NV f) 146 [il name,d1,.ref 12] cs=if(Z++a).isEmpty then .ok (.sh (il (be 0 (H.map w)))) c else .exc (.list (ww Y)) c:=by
 refine cps λP p=>?_
 obtain⟨m,i,j,k,J,b⟩:=XH (d1:=d1) (name:=name) (H:=H) C H [] (.sh (.list (ww Z))) .ae .ae .ae l (by simpa using A) (.inr rfl)
 refine p ?_;clear p P
 rw[AS]at b
 have B:cu (NV f) 146 [il name,d1,.ref 12] cs=fin (cA (ev (NV f) 299) mP ⟨[.sh (il name),.sh d1,.sh (.ref 12),.ae,.ae,.ae,.ae,.ae,.ae],cs⟩):=by rfl'
 have K:ev (NV f) 299 (.s (mP.getD 0 .av)) ⟨[.sh (il name),.sh d1,.sh (.ref 12),.ae,.ae,.ae,.ae,.ae,.ae],cs⟩=.ok .ay ⟨[.sh (il name),.sh d1,.sh (.ref 12),.sh (ld H),.sh (.list (ww Z)),.ae,.ae,.ae,.ae],c⟩:=sE (aV (x_call (st1:=⟨[.sh (il name),.sh d1,.sh (.ref 12),.ae,.ae,.ae,.ae,.ae,.ae],cs⟩) (by rfl') v) rfl) rfl
 have L:ev (NV f) 299 (.s (mP.getD 2 .av)) (gf c name d1 (.sh (.list (ww Z))) H [] .ae .ae .ae)=bQ (ev (NV f) 298) (.nm 6) FV (H.map il) (gf c name d1 (.sh (.list (ww Z))) H [] .ae .ae .ae):=by rfl'
 have d:dE .Add (.list (ww Z)) (.list (ww a))=Bc (.o (ww Z++ww a)):=by show bY (aM (ww Z)&&aM (ww a)) (Slot.o (ww Z++ww a))=_;exact aa (sm (by rw[fx];exact q0)) (aa (sm (by rw[fx];exact q0)) rfl)
 have M:ww (Z++a)=ww Z++ww a:=lZ
 have N:ev (NV f) 299 (.s (mP.getD 3 .av)) (gf c name d1 m H (H.map w) i j k)=.ok .ay ⟨[.sh (il name),.sh d1,.sh (.ref 12),.sh (ld H),.o (ww (Z++a)),.sh (ld (H.map w)),i,j,k],c⟩:=by have O:ev (NV f) 298 (.t (.bw (.l 2) 79)) (gf c name d1 m H (H.map w) i j k)=vB D1 (gf c name d1 m H (H.map w) i j k):=Jf (by rfl') u rfl;have h:=ew (x:=[.g 4 (.b .Add (.l 4) (.call 118 [.l 5]))]) (y:=[]) O;rw[eI rfl]at h;refine aa M ?_;refine h.trans ((aB (fw (n:=296) (ij (st1:=gf c name d1 (.sh (.list (ww Z))) H (H.map w) i j k) ?_ (aV (x_call (st1:=⟨[.sh (il name),.sh d1,.sh (.ref 12),.sh (ld H),.sh (.list (ww Z)),.sh (ld (H.map w)),i,j,k],c⟩) (by rfl') F) rfl) d))).trans rfl);rcases J with rfl|rfl<;>rfl'
 have Q:ev (NV f) 298 (.t (.p (.l 4) [.NotEq] [.a []])) ⟨[.sh (il name),.sh d1,.sh (.ref 12),.sh (ld H),.o (ww (Z++a)),.sh (ld (H.map w)),i,j,k],c⟩=vB (!(Z++a).isEmpty) ⟨[.sh (il name),.sh d1,.sh (.ref 12),.sh (ld H),.sh (.list (ww (Z++a))),.sh (ld (H.map w)),i,j,k],c⟩:=fX (st1:=⟨[.sh (il name),.sh d1,.sh (.ref 12),.sh (ld H),.sh (.list (ww (Z++a))),.sh (ld (H.map w)),i,j,k],c⟩) (by rfl') (by rfl') (by show(gX (.list (ww (Z++a))) (.list [])).map (!.)=_;refine aa (eq_nil (HO U)) ?_;cases Z++a<;>rfl)
 have h:=ew (x:=[.pW 54 (.call 111 [.l 4])]) (y:=[]) Q
 refine aa B ?_
 rw[show mP=[mP.getD 0 .av,mP.getD 1 .av,mP.getD 2 .av,mP.getD 3 .av,.iff (.p (.l 4) [.NotEq] [.a []]) [.pW 54 (.call 111 [.l 4])] [],.ret (.call 114 [.l 5])]from rfl,aB K,aB (by rfl'),aB (L.trans b),aB N];cases r:(Z++a).isEmpty with|true=>
rw[r,ej (by decide)]at h;refine aa (eI rfl) (aa (aB (h.trans rfl)) ?_);have s:ev (NV f) 299 (.s (.ret (.call 114 [.l 5]))) ⟨[.sh (il name),.sh d1,.sh (.ref 12),.sh (ld H),.sh (.list (ww (Z++a))),.sh (ld (H.map w)),i,j,k],c⟩=.ok (.ret (.sh (il (be 0 (H.map w))))) ⟨[.sh (il name),.sh d1,.sh (.ref 12),.sh (ld H),.sh (.list (ww (Z++a))),.sh (ld (H.map w)),i,j,k],c⟩:=nD (aV (x_call (st1:=⟨[.sh (il name),.sh d1,.sh (.ref 12),.sh (ld H),.sh (.list (ww (Z++a))),.sh (ld (H.map w)),i,j,k],c⟩) (by rfl') I) rfl);refine aa (ik s) ?_;rfl|false=>rw[r,eI (by rfl)]at h;refine aa (ej (by decide)) ?_;have s:=GS (n:=296) (k:=54) (aV (x_call (N:=NV f) (args:=[.l 4]) (st:=⟨[.sh (il name),.sh d1,.sh (.ref 12),.sh (ld H),.sh (.list (ww (Z++a))),.sh (ld (H.map w)),i,j,k],c⟩) (st1:=⟨[.sh (il name),.sh d1,.sh (.ref 12),.sh (ld H),.sh (.list (ww (Z++a))),.sh (ld (H.map w)),i,j,k],c⟩) (by rfl') G) rfl);refine aa (CJ (h.trans (CJ s))) ?_;rfl
end
section
variable{N:Env}{n k i:ak}{a e:E}{l t:ai E}{j st1 st2:St}{d:D}{F:ai D}{G:ai Cell}{b h:ai S}{p:bp}
theorem aet(c:ev N n (.ss b) j=.ok p st1):ev N (n+1) (.s (.oh b k f h)) j=.ok p st1:=by show R.ua (ev N n (.ss b) j) _=_;exact aa c rfl
theorem SO(c:ev N n (.ss b) j=.exc d st1)(f:ev N n (.ss h) ⟨st1.l.set i (.exc d),st1.cells⟩=.ok .ay st2):ev N (n+1) (.s (.oh b k (Bc i) h)) j=.ok .ay ⟨st2.l.set i .ae,st2.cells⟩:=by show R.ua (ev N n (.ss b) j) _=_;refine aa c ?_;show R.yD (ev N n (.ss h) ⟨st1.l.set i (.exc d),st1.cells⟩) i=_;exact aa f rfl
theorem aak(h:dK (ev N n) t j=.ok (.ds F) st1)(c:N.call k F st1.cells=.exc d G):ev N (n+1) (.x (.call k t)) j=.exc d ⟨st1.l,G⟩:=by show(dK (ev N n) t j).mr (λF j=>(N.call k F j.cells).to j.l)=_;refine aa h ?_;show(N.call k F st1.cells).to st1.l=_;exact aa c rfl
theorem abD(h:ev N n (.x e) j=.exc d st1):ev N (n+1) (.e e) j=.exc d st1:=by show(ev N n (.x e) j).iK (λs j=>oD (fz s) j)=_;exact aa h rfl
theorem VR(h:rec (.e e) j=.exc d st1):dK rec (e::l) j=.exc d st1:=by show(rec (.e e) j).kA (λd j=>(dK rec l j).bindL λF j=>.ok (.ds (d::F)) j)=_;exact aa h rfl
theorem VA(h:dK (ev N n) t j=.exc d st1):ev N (n+1) (.x (.call k t)) j=.exc d st1:=by show(dK (ev N n) t j).mr (λF j=>(N.call k F j.cells).to j.l)=_;exact aa h rfl
theorem ab9(h:ev N n (.x a) j=.exc d st1):ev N (n+1) (.s (.g i a)) j=.exc d st1:=by show(ev N n (.x a) j).iK (λs j=>.ok .ay ⟨j.l.set i s,j.cells⟩)=_;exact aa h rfl
end
abbrev K4(R)(W)(A)(y)(cs):=(⟨[.sh (ld R),.o (ww W),.sh (ld A),.sh (il y)],cs⟩:St)
section
variable{cl:ak->ai D->ai Cell->RC}{cs w:ai Cell}{v u:D}{c X:ai a0}{C:ai (ai ak)}
noncomputable def jH:D:=.str [119,111,114,100,115]
theorem aaW{P:RC}(s:ev (NV cl) 299 (.s (oi.getD 1 .av)) ⟨[.sh (il c),.sh v,.sh u,.sh .none,.ae],cs⟩=.ok .ay ⟨[.sh (il c),.sh v,.sh u,.sh d,.ae],w⟩):cu (NV cl) 159 [il c,v,u] cs=.ok (.sh d) w:=by
 have B:cu (NV cl) 159 [il c,v,u] cs=fin (cA (ev (NV cl) 299) oi ⟨[.sh (il c),.sh v,.sh u,.ae,.ae],cs⟩):=by rfl'
 refine aa B (aa (show oi=[.g 3 .cN,oi.getD 1 .av,.ret (.l 3)]from rfl) (aa (aB (by rfl')) (aa (aB s) ?_)));rfl'
theorem Yr(a:cl 146 [il c,v,u] cs=.ok (.sh (il X)) w)(Z:cl 39 [il X] w=.ok (.sh (il X)) w):cu (NV cl) 159 [il c,v,u] cs=.ok (.sh (il X)) w:=by refine aaW (P:=.fail) (aet ((aB (fw (x_call (gw (aV (x_call (st1:=⟨[.sh (il c),.sh v,.sh u,.sh .none,.ae],cs⟩) (by rfl') a) rfl) rfl) Z))).trans rfl))
theorem RO{st1:St}(s:ev (NV cl) 299 (.s (oi.getD 1 .av)) ⟨[.sh (il c),.sh v,.sh u,.sh .none,.ae],cs⟩=.ok .ay ⟨[.sh (il c),.sh v,.sh u,.o l,.ae],w⟩):cu (NV cl) 159 [il c,v,u] cs=.ok (.sh (.list l)) w:=by
 have B:cu (NV cl) 159 [il c,v,u] cs=fin (cA (ev (NV cl) 299) oi ⟨[.sh (il c),.sh v,.sh u,.ae,.ae],cs⟩):=by rfl'
 refine aa B (aa (show oi=[.g 3 .cN,oi.getD 1 .av,.ret (.l 3)]from rfl) (aa (aB (by rfl')) (aa (aB s) ?_)));rfl'
theorem abF(A:cl 146 [il c,v,u] cs=.exc (.list (ww C)) w)(B:cl 178 [.list (ww C)] w=.ok (.sh (.list (ww C))) w)(F:C.length<=1000):cu (NV cl) 159 [il c,v,u] cs=.ok (.sh (.list (jH::ww C))) w:=by
 have o:dE .Add (.list [jH]) (.list (ww C))=Bc (.o (jH::ww C)):=by show bY (aM [jH]&&aM (ww C)) (Slot.o ([jH]++ww C))=_;exact aa (sm (l:=ww C) (by rw[fx];exact q0)) rfl
 refine RO (st1:=⟨[],[]⟩) (SO (st2:=⟨[.sh (il c),.sh v,.sh u,.o (jH::ww C),.exc (.list (ww C))],w⟩) (CJ (ab9 (VA (VR (abD (aak (st1:=⟨[.sh (il c),.sh v,.sh u,.sh .none,.ae],cs⟩) (by rfl') A)))))) ?_);refine(aB (fw (n:=296) (ij (st1:=⟨[.sh (il c),.sh v,.sh u,.sh .none,.exc (.list (ww C))],w⟩) (by rfl') (aV (x_call (st1:=⟨[.sh (il c),.sh v,.sh u,.sh .none,.exc (.list (ww C))],w⟩) (by rfl') B) rfl) o))).trans rfl
noncomputable def dg(a:ai (ai a0)):ai (ai a0):=if decide (1<a.length)&&decide (a.getLast?=Bc [])then a.dropLast else a
noncomputable def gM:ai ak:=[101,109,112,116,121]
noncomputable def i9(a:ai (ai a0)):ai (ai ak):=(dg a).flatMap λl=>if l.isEmpty then[gM]else[]
abbrev J7:ai S:=lJ (qb.getD 2 .av)
theorem WA{R:ai (ai a0)}(p:∀l:ai D,l.length<=1000->cl 7 [.list l] cs=.ok (.sh (.int l.length)) cs):∀(r:ai (ai a0))(W:ai (ai ak))(d:Slot),(∀y∈r,y.length<=63)->W.length+r.length<=100->∃b,bQ (ev (NV cl) 298) (.nm 3) J7 (r.map il) ⟨[.sh (ld R),.o (ww W),.sh (ld A),d],cs⟩=.ok .ay ⟨[.sh (ld R),.o (ww (W++r.flatMap λl=>if l.isEmpty then[gM]else[])),.sh (ld A),b],cs⟩:=by intro r;induction r with|nil=>intro W d _ _;exact⟨d,by rw[KM,lH];rfl⟩|cons y r i=>
intro W d h s
rw[hS]at s
have t:=h y (.head _)
have B:ev (NV cl) 296 (.t (.p (.l 3) [.Eq] [.a []])) (K4 R W A y cs)=vB y.isEmpty (K4 R W A y cs):=fX (st1:=(K4 R W A y cs)) (by rfl') (by rfl') (by
show gX (.list (y.map D.int)) (.list [])=_
refine aa (eq_nil xQ) ?_;cases y<;>rfl)
have F:∀W,ev (NV cl) 296 (.t (.p (.call 7 [.l 3]) [.Gt] [.aO 113])) (K4 R W A y cs)=vB Un (K4 R W A y cs):=λW=>fX (w:=.int 63) (aV (x_call (st1:=(K4 R W A y cs)) (by rfl') ((p (y.map D.int) (by rw[fx];exact q0)).trans (by rw[fx]))) rfl) (by rfl') (by show Bc (decide ((63:a0)<y.length))=_;rw[Lc (by omega)])
have f:=ew (x:=[.app 1 (.cS [101,109,112,116,121])]) (y:=[]) B
have j:=λW=>ew (x:=[.av]) (y:=[]) (F W);refine aa Di ?_;cases k:y.isEmpty with
|true=>
rw[k,eI rfl]at f
obtain⟨b,a⟩:=i (W++[gM]) (.sh (il y)) (λy m=>h y (.tail _ m)) (by simp;exact q4)
refine⟨b,?_⟩
refine aa (eI rfl) ?_
rw[<-su,<-a]
have G:=lL (N:=NV cl) (n:=294) (i:=1) (a:=.cS [101,109,112,116,121]) (st:=(K4 R W A y cs)) (st1:=(K4 R W A y cs)) (sl:=.sh (.str gM)) rfl (by rfl') rfl rfl (sm (by rw[fx];omega))
have H:ev (NV cl) 297 (.s (.iff (.p (.l 3) [.Eq] [.a []]) [.app 1 (.cS [101,109,112,116,121])] [])) (K4 R W A y cs)=.ok .ay ⟨[.sh (ld R),.o (ww (W++[gM])),.sh (ld A),.sh (il y)],cs⟩:=by unfold ww;exact aa lZ (f.trans ((aB G).trans rfl))
exact iy rfl ((aB H).trans ((aB ((j _).trans rfl)).trans rfl))
|false=>rw[k,ej (by decide)]at f;obtain⟨b,a⟩:=i W (.sh (il y)) (λy m=>h y (.tail _ m)) q3;refine⟨b,?_⟩;refine aa (ej (by decide)) ?_;rw[AS,<-a];exact iy rfl ((aB (f.trans rfl)).trans ((aB ((j _).trans rfl)).trans rfl))
end
theorem X1{l:ai D}{u:D}(h:l.getLast?=Bc u)(_:l.length<=100000):dP l (-1)=Bc u:=GU h
theorem Z1{l:ai D}(_:0<l.length):gu l VG (Bc (-1))=l.dropLast:=by unfold gu;show(l.drop 0).take (Fb l.length (-1)-0)=_;rw[show Fb l.length (-1)=l.length-1 from PySem.clipAt_neg _ 1 (ir 1),ν,D?];rfl
abbrev Dw(R)(cs):=(⟨[.sh (ld R),.o [],.ae,.ae],cs⟩:St)
abbrev P5(R)(a)(cs):=(⟨[.sh (ld R),.o (ww (i9 R)),.sh (ld (dg R)),a],cs⟩:St)
section
variable{a:ak->ai D->ai Cell->RC}{cs:ai Cell}
theorem ado{R:ai (ai a0)}(h7:∀l:ai D,l.length<=1000->a 7 [.list l] cs=.ok (.sh (.int l.length)) cs)(cP:R≠[])(hR:R.length<=50)(Us:∀y∈R,y.length<=63)(qq:a 114 [ld (dg R)] cs=.ok (.sh (il (be 0 (dg R)))) cs)(afD:(be 0 (dg R)).length<=253):cu (NV a) 118 [ld R] cs=.ok (.sh (.list (ww (i9 R)))) cs:=by
 obtain⟨u,hu⟩:∃u,R.getLast?=Bc u:=by cases h:R.getLast? with|none=>exact aL (List.getLast?_eq_none_iff.mp h) cP|some u=>exact⟨u,rfl⟩
 have hp:0<R.length:=by cases R with|nil=>exact aL rfl cP|cons=>simp
 have aat:(R.map il).length=R.length:=fx _
 have B:cu (NV a) 118 [ld R] cs=fin (cA (ev (NV a) 299) qb ⟨[.sh (ld R),.ae,.ae,.ae],cs⟩):=by rfl'
 have tl:ev (NV a) 297 (.t (.bj .And [.p (.call 7 [.l 0]) [.Gt] [.cI 1],.p (.sub (.l 0) (.neg (.cI 1))) [.Eq] [.a []]])) (Dw R cs)=vB (decide (1<R.length)&&decide (R.getLast?=Bc [])) (Dw R cs):=by
  refine zB (fX (w:=.int 1) (aV (x_call (st1:=(Dw R cs)) (by rfl') ((h7 (R.map il) AQ).trans (by rw[aat]))) rfl) (by rfl') (by
show Bc (decide ((1:a0)<R.length))=_
refine gO Bc ?_;exact decide_eq_decide.mpr (by exact Int.ofNat_lt))) λY=>fX (op:=.Eq) (v:=il u) (w:=.list []) (st1:=(Dw R cs)) (st2:=(Dw R cs)) (aV (n:=293) (qo (n:=292) (v:=ld R) (k:=.int (-1)) (w:=il u) (st1:=(Dw R cs)) (st2:=(Dw R cs)) (by rfl') (by rfl') ((by rfl':jG cs (ld R) (.int (-1))=dP (R.map il) (-1)).trans (X1 (l:=R.map il) (aa (y?) (aa hu rfl)) AQ))) rfl) (by rfl') ?_
  show gX (.list (u.map D.int)) (.list [])=_
  refine aa (eq_nil xQ) (aa hu ?_);cases u<;>simp
 have s1:ev (NV a) 299 (.s (qb.getD 1 .av)) (Dw R cs)=.ok .ay ⟨[.sh (ld R),.o [],.sh (ld (dg R)),.ae],cs⟩:=by refine fw (n:=298) (sl:=.sh (ld (dg R))) (st1:=(Dw R cs)) ?_;cases hb:(decide (1<R.length)&&decide (R.getLast?=Bc []))with
|true=>
rw[hb]at tl
have hs:ev (NV a) 297 (.e (.cU (.l 0) VG (Bc (.neg (.cI 1))))) (Dw R cs)=((oS (nR (ld R) VG (Bc (-1))) (Dw R cs)).bC).iK λs st=>oD (fz s) st:=by rfl'
have hd:nR (ld R) VG (Bc (-1))=Bc (.o (R.dropLast.map il)):=by show bY (aM (R.map il)) (Slot.o (gu (R.map il) VG (Bc (-1))))=_;exact aa (sm AQ) (aa (Z1 (by omega)) (aa asc rfl))
rw[hd]at hs;exact aa (show dg R=R.dropLast from eI hb) (BF (n:=297) tl hs)
|false=>rw[hb]at tl;rw[show dg R=R from ej (by rw[hb];decide)];exact za (n:=297) tl (by rfl')
 obtain⟨x3,e⟩:=WA (cl:=a) (R:=R) (A:=dg R) h7 (dg R) [] .ae (λy m=>Us y (by
unfold dg at m
split at m
.exact C? _ m
.exact m)) (by
unfold dg
split
.simp;exact q0
.simp;exact q0)
 have s2:ev (NV a) 299 (.s (qb.getD 2 .av)) ⟨[.sh (ld R),.o [],.sh (ld (dg R)),.ae],cs⟩=bQ (ev (NV a) 298) (.nm 3) J7 ((dg R).map il) ⟨[.sh (ld R),.o [],.sh (ld (dg R)),.ae],cs⟩:=by rfl'
 have t3:ev (NV a) 298 (.t (.p (.call 7 [.call 114 [.l 2]]) [.Gt] [.aO 115])) (P5 R x3 cs)=vB Un (P5 R x3 cs):=fX (n:=296) (op:=.Gt) (v:=.int (be 0 (dg R)).length) (w:=.int 253) (st1:=(P5 R x3 cs)) (aV (n:=295) (x_call (N:=NV a) (n:=294) (ds:=[il (be 0 (dg R))]) (st1:=(P5 R x3 cs)) (gw (aV (n:=293) (x_call (N:=NV a) (n:=292) (ds:=[ld (dg R)]) (st1:=(P5 R x3 cs)) (by rfl') qq) rfl) rfl) ((h7 ((be 0 (dg R)).map D.int) (by rw[fx];exact q0)).trans (by rw[fx]))) rfl) (by rfl') (by show Bc (decide ((253:a0)<(be 0 (dg R)).length))=_;exact gO Bc (Lc (Int.not_lt.mpr (Int.ofNat_le.mpr afD))));have q:=ew (N:=NV a) (n:=298) (x:=[.av]) (y:=[]) t3;rw[ej (by decide)]at q;rw[B,show qb=[.g 1 (.a []),qb.getD 1 .av,qb.getD 2 .av,.iff (.p (.call 7 [.call 114 [.l 2]]) [.Gt] [.aO 115]) [.av] [],.ret (.l 1)]from rfl,aB (st1:=(Dw R cs)) (by rfl'),aB s1,aB (s2.trans e),AS];show fin (cA (ev (NV a) 299) _ (P5 R x3 cs))=_;rw[aB (st1:=(P5 R x3 cs)) (q.trans rfl)];rfl'
end
noncomputable def Sg:ai a0:=[97,49,98,252,1488,1576,1575,223,65,45,769,8226,120,110,116,100,57,122,99,173,803,95,1632,118,103,115,46,52,109,104,50,48,108,53]
noncomputable def mp(t:aA)(c:a0):aw (ai a0):=if c=65 then Bc [97]else if c=173 then Bc []else if c=223 then(if t then Bc [115,115]else Bc [223])else if c=8226 then VG else Bc [c]
noncomputable def wt(c:a0):a0:=if c=769 then 230 else if c=803 then 220 else 0
theorem cW{c d:Type}{f a:c->d}{l:ai c}(h:l.map f=l.map a):∀b∈l,f b=a b:=List.map_inj_left.mp h
section
variable(a b:Cell)(u:aA)(i:ai Cell)(d:ak)
theorem aa2(t:aA):Sg.map (λc=>aq (d+10) 82 [.int c,.ref 1,.bool t,.bool D1] (KA a b u))=Sg.map λc=>.ok (.sh (yS (mp t c))) (KA a b u):=by cases t<;>rfl'
theorem aeg(t:aA):Sg.map (λc=>aq (d+10) 82 [.int c,.ref 1,.bool t,.bool D1] (KB a b u i))=Sg.map λc=>.ok (.sh (yS (mp t c))) (KB a b u i):=by cases t<;>rfl'
theorem Y7:Sg.map (λc=>aq (d+10) 22 [.int c,.ref 1,.bool Un] (KA a b u))=Sg.map λc=>.ok (.sh (il [c])) (KA a b u):=by rfl'
theorem XQ:Sg.map (λc=>aq (d+10) 22 [.int c,.ref 1,.bool Un] (KB a b u i))=Sg.map λc=>.ok (.sh (il [c])) (KB a b u i):=by rfl'
theorem acq:Sg.map (λc=>aq (d+10) 174 [.ref 1,rF,.int c] (KA a b u))=Sg.map λc=>.ok (.sh (.int (wt c))) (KA a b u):=by rfl'
theorem EK:Sg.map (λc=>aq (d+10) 174 [.ref 1,rF,.int c] (KB a b u i))=Sg.map λc=>.ok (.sh (.int (wt c))) (KB a b u i):=by rfl'
noncomputable def xd:ai Cell:=[.inst 30 [26,28] [.ref 18,.ref 19],.dict [] [],.dict [] []]
theorem adH:aq (d+20) 30 [.ref 1] (KA a b u)=.ok (.sh (.ref 13)) (KB a b u []):=by rfl'
theorem V3:aq (d+20) 30 [.ref 1] (KB a b u [])=.ok (.sh (.ref 17)) (KB a b u xd):=by rfl'
theorem acj(f:a0):Sg.map (λc=>aq (d+10) 162 [.ref 13,.int c,.int f] (KB a b u i))=Sg.map λc=>.ok (.sh .none) (KB a b u i):=by rfl'
theorem X7(f:a0):Sg.map (λc=>aq (d+10) 162 [.ref 17,.int c,.int f] (KB a b u xd))=Sg.map λc=>.ok (.sh .none) (KB a b u xd):=by rfl'
end
noncomputable def abg:ai (ai a0×ai a0):=[([],[]),([45,45,122,104,99,98],[1488,45,1488]),([49,45,122,104,99],[1488,49]),([52,100,98],[1488]),([52,100,98,50,48,97],[1488,1632]),([97,45,120,98,98],[97,769]),([97,45,120,98,98,53,104],[97,803,769]),([97,98,99,45],[97,98,99]),([108,115,97,49,53,108],[1488,769]),([109,103,98,98],[1576,1575]),([110,118,103],[8226]),([116,100,97],[252]),([122,99,97],[223])]
noncomputable def bU(a:ai a0):ai a0:=if a.take 4=[120,110,45,45]then(abg.lookup (a.drop 4)).getD a else a
noncomputable def OH:ai (ai a0×ai (ai ak)):=[([45,97],[[104,121,112,104,101,110,115]]),([97,45],[[104,121,112,104,101,110,115]]),([97,95],[[100,105,115,97,108,108,111,119,101,100]]),([97,98,45,45,99],[[104,121,112,104,101,110,115]]),([769,98],[[109,97,114,107]]),([1488,8226],[[100,105,115,97,108,108,111,119,101,100]]),([8226],[[100,105,115,97,108,108,111,119,101,100]]),([120,110,45,45],[[97,115,99,105,105]]),([120,110,45,45,57,57],[[112,117,110,121,99,111,100,101]]),([120,110,45,45,97,98,99,45],[[97,115,99,105,105]]),([120,110,45,45,110,118,103],[[100,105,115,97,108,108,111,119,101,100]])]
noncomputable def dR(a:ai a0):ai (ai ak):=(OH.lookup a).getD []
noncomputable def xA(c:a0):ai ak:=if c=45 then[69,83]else if decide (48<=c)&&decide (c<=57)then[69,78]else if c=95 then[79,78]else if c=769 then[78,83,77]else if c=803 then[78,83,77]else if c=1488 then[82]else if c=1575 then[65,76]else if c=1576 then[65,76]else if c=1632 then[65,78]else if c=8226 then[79,78]else[76]
def cj(a:ai a0):ai D:=ww (a.map xA)
noncomputable def owT:ai (ai a0):=[[45,97],[49,98],[97,45],[97,95],[97,1488],[769,98],[1488,49,1632],[1488,97],[1488,8226],[8226]]
noncomputable def ey(a:ai a0):aA:=!(decide (a∈owT))
noncomputable def V5:ai (ai a0×ai a0):=[([97,769],[120,110,45,45,97,45,120,98,98]),([97,803,769],[120,110,45,45,97,45,120,98,98,53,104]),([97,1488],[120,110,45,45,97,45,48,104,99]),([223],[120,110,45,45,122,99,97]),([252],[120,110,45,45,116,100,97]),([769,98],[120,110,45,45,98,45,119,98,98]),([1488],[120,110,45,45,52,100,98]),([1488,45,1488],[120,110,45,45,45,45,122,104,99,98]),([1488,49],[120,110,45,45,49,45,122,104,99]),([1488,49,1632],[120,110,45,45,49,45,122,104,99,55,52,98]),([1488,97],[120,110,45,45,97,45,122,104,99]),([1488,769],[120,110,45,45,108,115,97,49,53,108]),([1488,1632],[120,110,45,45,52,100,98,50,48,97]),([1488,8226],[120,110,45,45,52,100,98,48,57,53,107]),([1576,1575],[120,110,45,45,109,103,98,98]),([8226],[120,110,45,45,110,118,103])]
noncomputable def bR(a:ai a0):ai a0:=(V5.lookup a).getD a
noncomputable def Ds:ai (ai a0):=[[],[45,97],[49,98],[97],[97,45],[97,95],[97,98]]
noncomputable def D4:ai (ai a0):=[[97,98,45,45,99],[97,769],[97,803,769],[97,1488],[98,45,97],[115,115],[252]]
noncomputable def Fz:ai (ai a0):=[[769,98],[1488],[1488,45,1488],[1488,49],[1488,49,1632],[1488,97],[1488,769]]
noncomputable def EY:ai (ai a0):=[[1488,1632],[1488,8226],[1576,1575],[8226]]
noncomputable def G0:ai (ai a0):=[[120,110,45,45],[120,110,45,45,45,45,122,104,99,98],[120,110,45,45,49,45,122,104,99],[120,110,45,45,52,100,98],[120,110,45,45,52,100,98,50,48,97],[120,110,45,45,57,57],[120,110,45,45,97,45,120,98,98],[120,110,45,45,97,45,120,98,98,53,104]]
noncomputable def Fj:ai (ai a0):=[[120,110,45,45,97,98,99,45],[120,110,45,45,108,115,97,49,53,108],[120,110,45,45,109,103,98,98],[120,110,45,45,110,118,103],[120,110,45,45,116,100,97],[120,110,45,45,122,99,97]]
noncomputable def Sn:ai (ai a0):=[[],[45,97],[49,98],[97],[97,45],[97,95],[97,98],[97,98,45,45,99],[97,98,99],[97,769],[97,803,769],[97,1488],[98,45,97],[115,115],[120,110,45,45,57,57],[223],[252],[769,98],[1488],[1488,45,1488],[1488,49],[1488,49,1632],[1488,97],[1488,769],[1488,1632],[1488,8226],[1576,1575],[8226]]
section
variable(a b:Cell)(u:aA)(d:ak)
abbrev jQ(c:ai a0):RC:=.ok (.sh (.u [il (bU c),.list (ww (dR c))])) (KB a b u [])
abbrev qR(c:ai a0):RC:=FG 17 (cu (NV (aq (d+20))) 108 [il c,.ref 1,.ref 12] (KB a b u []))
theorem g0:Ds.map (qR a b u d)=Ds.map (jQ a b u):=by rfl'
theorem g1:D4.map (qR a b u d)=D4.map (jQ a b u):=by rfl'
theorem g2:Fz.map (qR a b u d)=Fz.map (jQ a b u):=by rfl'
theorem g3:EY.map (qR a b u d)=EY.map (jQ a b u):=by rfl'
theorem g4:G0.map (qR a b u d)=G0.map (jQ a b u):=by rfl'
theorem g5:Fj.map (qR a b u d)=Fj.map (jQ a b u):=by rfl'
theorem ZO:qR a b Un d [223]=jQ a b Un [223]:=by rfl'
theorem Rp:Sn.map (λc=>aq (d+10) 86 [il c,.ref 1] (KB a b u []))=Sn.map λc=>.ok (.sh (.list (cj c))) (KB a b u []):=by rfl'
theorem abI:Sn.map (λc=>aq (d+10) 110 [il c,.ref 1] (KB a b u []))=Sn.map λc=>.ok (.sh (.bool (ey c))) (KB a b u []):=by rfl'
theorem Qz:Sn.map (λc=>FG 17 (cu (NV (aq (d+10))) 117 [il c] (KB a b u [])))=Sn.map λc=>.ok (.sh (.u [il (bR c),.list []])) (KB a b u []):=by rfl'
end
theorem cN(h:EJ k=Un):aq (e+1) k a cs=cu (NV (aq e)) k a cs:=ej (by rw[h];exact xa)
theorem cG(h:EJ k=D1):aq (e+1) k a cs=wh cs.length (cu (NV (aq e)) k a cs):=eI h
theorem VD{l:ai a0}:fq n (l.map D.int)=D1:=by induction l with|nil=>rfl|cons a r i=>exact i
theorem Ik:fq n (ww l)=D1:=by induction l with|nil=>rfl|cons a r i=>exact i
theorem MI:rq n (il l)=D1:=VD
theorem Ti:rq n (.list (ww l))=D1:=Ik
theorem Hc:rq n (.u [il l,.list (ww w)])=D1:=Bool.and_eq_true_iff.mpr ⟨MI,Bool.and_eq_true_iff.mpr ⟨Ti,rfl⟩⟩
def HC(f i:Cell):Prop:=hV 17 f=D1/\hV 17 i=D1
section
variable{f i:Cell}{u:aA}{tl:ai Cell}
theorem aac(h:HC f i):(KB f i u []).all (hV 17)=D1:=by
 have a:(KB f i u []).all (hV 17)=(hV 17 f&&([k1,k2,k3,k4,k4,k6,k7,k8,k9,wF].all (hV 17)&&(hV 17 i&&[rY u,CI,k4,Dv,k4].all (hV 17)))):=by show(f::([k1,k2,k3,k4,k4,k6,k7,k8,k9,wF]++(i::[rY u,CI,k4,Dv,k4]))).all (hV 17)=_;exact aa Nf (aa Gf rfl)
 refine aa a (aa h.1 (aa h.2 ?_));cases u<;>rfl'
theorem aaX:((KB f i u []).take 13).all (hV 13)=Un:=List.all_eq_false.mpr (aF k3 (.tail _ (.tail _ (.tail _ (.head _)))) (aa (show hV 13 k3=Un by rfl') (by decide)))
theorem Om:wh n (.ok s cs)=if uH n s&&(cs.take n).all (hV n)then .ok s (cs.take n)else .ok s cs:=rfl
theorem FY(h:HC f i)(a:FG 17 r=.ok sl (KB f i u []))(s:uH 17 sl=D1):wh 17 r=.ok sl (KB f i u []):=by cases r with|ok b cs=>have a:RC.ok b (cs.take 17)=.ok sl (KB f i u []):=a;refine aU (RC.ok.inj a) λc d=>Om.trans ((eI ?_).trans a);refine aa d (aa c (aa s (aa (aac h) ?_)));rfl|_=>cases a
end
def bM(l:ai a0):ai a0:=tv l l λa b=>if wt b<wt a then[b,a]else[a,b]
noncomputable def good(l:ai a0):aA:=decide (l∈[[],[769],[769,803]])
theorem OQ{M:ai a0->Prop}(h:good l=D1)(A:M [])(B:M [769])(C:M [769,803]):M l:=(hZ.mp (hQ h:l∈[[],[769],[769,803]])).elim (λe=>e▸A) λh=>(hZ.mp h).elim (λe=>e▸B) λh=>hX.mp h▸C
theorem zN(h:good l=D1):(bM l).length<=2/\l.length<=2/\∀a∈bM l,a∈l:=OQ (M:=λl=>(bM l).length<=2/\l.length<=2/\∀a∈bM l,a∈l) h ⟨by decide,by decide,λY h=>h⟩ ⟨by decide,by decide,λY h=>h⟩ ⟨by decide,by decide,λa(m:a∈[803,769])=>(hZ.mp m).elim (λb=>b▸.tail _ (.head _)) λm=>hX.mp m▸.head _⟩
theorem Q4(h:good l=D1):aq (d+10) 19 [.list (kz wt l)] cs=.ok (.sh (il (bM l))) cs:=by refine OQ (M:=λl=>aq (d+10) 19 [.list (kz wt l)] cs=.ok (.sh (il (bM l))) cs) h ?_ ?_ ?_<;>rfl'
theorem f32(a b:a0):∃c:a0,aq (d+1) 32 [.int a,.int b] cs=.ok (.sh (.int c)) cs:=⟨if b>a then b else a,by rfl'⟩
theorem Iv:∀{f:ai a0},gH wt good f l=D1->∀a∈gi wt bM f l,a∈f\/a∈l:=by induction l with|nil=>exactλh a m=>.inl ((zN h).2.2 a m)|cons c r i=>
intro f h a m
rw[vf]at h
rw[tG]at m
by_cases j:0<wt c
.rw[eI j]at h m;exact(i h a m).elim (λb=>(nG.mp b).elim .inl λb=>.inr (hX.mp b▸.head _)) λb=>.inr (.tail _ b)
.rw[ej j]at h m;exact(nG.mp m).elim (λb=>.inl ((zN (iA h).1).2.2 a b)) λb=>(hZ.mp b).elim (λd=>.inr (d▸.head _)) λb=>(i (iA h).2 a b).elim (λb=>aL b lR) λb=>.inr (.tail _ b)
section
variable{f i:Cell}{u:aA}{d:ak}{l:ai a0}
theorem A8(h:∀a,(bM a).length=a.length):∀{a:ai a0},(gi wt bM a l).length=a.length+l.length:=by induction l with|nil=>exact h _|cons c r b=>
intro a
refine aa tG ?_
split
.exact aa b (aa lk (anm _ 1 _))
.refine aa lk (aa hS (aa b ?_));rw[h];exact gO (a.length+.) (gO Aj (Mn _))
theorem zT(c:ai a0):(bM c).length=c.length:=ny c rfl λa r=>ny r rfl λb r=>ny r (apply_ite P! (wt b<wt a) [b,a] [a,b]▸ite_self 2) λY Y=>rfl
theorem LW(j:cs[1]?=Bc k1)(k:∀c∈Sg,aq (d+25) 22 [.int c,.ref 1,.bool Un] cs=.ok (.sh (il [c])) cs)(p:∀c∈Sg,aq (d+24) 174 [.ref 1,rF,.int c] cs=.ok (.sh (.int (wt c))) cs)(h:∀c∈l,c∈Sg)(b:l.length<=1000)(r:gH wt good [] l=D1):aq (d+26) 33 [il l,.ref 1,.bool Un] cs=.ok (.sh (il (gi wt bM [] l))) cs:=by refine aa (cN (by rfl)) ?_;refine Uj (λc m=>k c (h c m)) b (aa (cN (by rfl)) (TQ j (λc m=>p c (h c m)) (λs a=>cV (Q4 a) ((zN a).1) ((zN a).2.1)) b r))
theorem NL(p:aq (d+25) 30 [.ref 1] cs=.ok (.sh (.ref r)) j)(s:j[1]?=Bc k1)(t:j[r]?=Bc (.inst 30 [26,28] B))(v:∀c∈Sg,aq (d+25) 174 [.ref 1,rF,.int c] j=.ok (.sh (.int (wt c))) j)(w:∀h:a0,∀a∈Sg,aq (d+25) 162 [.ref r,.int a,.int h] j=.ok (.sh .none) j)(k:∀c∈l,c∈Sg)(y:l.length<=1000):aq (d+26) 34 [il l,.ref 1,.none] cs=.ok (.sh (il l)) j:=by exact aa (cN (by rfl)) (aen p s t (λc m=>v c (k c m)) (λa A c Y=>w c a (k a A)) (λa b=>f32 a b) y)
theorem aaL(h:∀c∈l,c∈Sg)(j:l.length<=1000)(k:gH wt good [] l=D1):aq (d+28) 83 [il l,.ref 1] (KA f i u)=.ok (.sh (il (gi wt bM [] l))) (KB f i u []):=by
 have p:∀c∈gi wt bM [] l,c∈Sg:=λc m=>(Iv k c m).elim (λa=>aL a lR) (h c)
 refine aa (cG (by rfl)) ?_
 rw[Jq]
 .exact Om.trans (ej (by rw[show(KA f i u).length=13 from rfl,aaX,s?];exact xa))
 .rw[cN (by rfl)];exact HE (LW rfl (cW (Y7 f i u (d+15))) (cW (acq f i u (d+14))) h j k) (NL (adH f i u (d+5)) rfl rfl (cW (EK f i u [] (d+15))) (λb=>cW (acj f i u [] (d+15) b)) p (by rw[A8 zT,CM,Mn];exact j))
theorem aaw(p:HC f i)(h:∀c∈l,c∈Sg)(j:l.length<=1000)(k:gH wt good [] l=D1):aq (d+28) 83 [il l,.ref 1] (KB f i u [])=.ok (.sh (il (gi wt bM [] l))) (KB f i u []):=by
 have r:∀c∈gi wt bM [] l,c∈Sg:=λc m=>(Iv k c m).elim (λa=>aL a lR) (h c)
 refine aa (cG (by rfl)) ?_
 rw[Jq (aH:=KB f i u xd)]
 .exact FY p (by rfl) MI
 .rw[cN (by rfl)];exact HE (LW rfl (cW (XQ f i u [] (d+15))) (cW (EK f i u [] (d+14))) h j k) (NL (V3 f i u (d+5)) rfl rfl (cW (EK f i u xd (d+15))) (λb=>cW (X7 f i u (d+15) b)) r (by rw[A8 zT,CM,Mn];exact j))
end
noncomputable def j1(r:ai (ai a0)):ai a0:=r.flatMap (46::.)
theorem jx:j1 (a::r)=46::(a++j1 r):=rfl
def aY(t:aA)(l:ai a0):ai a0:=l.flatMap λc=>(mp t c).getD [c]
def oL(l:ai a0):ai a0:=gi wt bM [] l
def md(t:aA)(p:ai a0):ai a0:=oL (aY t p)
def cD(t:aA)(p:ai a0):aA:=p.any λc=>(mp t c).isNone
theorem GL(t:aA):mp t 46=Bc [46]:=by cases t<;>rfl'
theorem tC:aY t (a++b)=aY t a++aY t b:=List.flatMap_append
theorem vR:aY t (j1 r)=j1 (r.map (aY t)):=by induction r with|nil=>rfl|cons a r i=>refine aa jx (aa l6 (aa jx (aD i (aD tC ?_))));show((mp t 46).getD [46])++aY t (a++j1 r)=_;rw[GL];rfl
theorem NB(h:f 46=Un):(j1 r).any f=r.any λa=>a.any f:=by induction r with|nil=>rfl|cons a r i=>rw[jx,qE,h,Ij,IN,i,qE]
theorem aa8:∀{p r:ai a0},gi wt bM r (p++46::x)=gi wt bM r p++46::gi wt bM [] x:=by intro p;induction p with|nil=>intro r;rw[AS,tG,ej (aa (show wt 46=0 by rfl') (by decide))];rfl|cons c p i=>
intro r
refine aa Lq (aa tG (aa tG ?_))
split
.exact i
.refine aa i ?_;simp
theorem Sd:∀{p r:ai a0},gH wt good r p=D1->gH wt good [] x=D1->gH wt good r (p++46::x)=D1:=by intro p;induction p with|nil=>intro r h a;rw[AS,vf,ej (aa (show wt 46=0 by rfl') (by decide)),a,q!];exact h|cons c p i=>
intro r h a
rw[vf]at h
refine aa Lq (aa vf ?_)
split
.rename_i b;rw[eI b]at h;exact i h a
.rename_i b
 rw[ej b]at h;obtain⟨d,f⟩:=iA h;exact aa d (aa (i f a) rfl)
theorem Ia:oL (p++j1 r)=oL p++j1 (r.map oL):=by induction r generalizing p with|nil=>rw[FM,show j1 []=[]from rfl,lH,lH]|cons a r i=>exact aa jx (aa l6 (aa jx (aD i aa8)))
theorem QS(h:∀a∈p::r,gH wt good [] a=D1):gH wt good [] (p++j1 r)=D1:=by induction r generalizing p with|nil=>rw[show j1 []=[]from rfl,lH];exact h p (.head _)|cons a r i=>exact Sd (h p (.head _)) (i λb m=>h b (.tail _ m))
theorem XA:∀{p a:ai a0},46∉p->jh a (p++46::x)=(a++p)::jh [] x:=by intro p;induction p with|nil=>intro a _;rw[AS,xS,eI (by decide),lH]|cons c p i=>intro a h;refine aa Lq (aa xS (aa (ej (by simp;exactλb=>h (aa b (.head _)))) (aa (i (λm=>h (.tail _ m))) ?_)));rw[su];rfl
theorem Yo:∀{p a:ai a0},46∉p->jh a p=[a++p]:=by intro p;induction p with|nil=>intro a _;rw[lH];rfl|cons c p i=>intro a h;refine aa xS (aa (ej (by simp;exactλb=>h (aa b (.head _)))) (aa (i (λm=>h (.tail _ m))) ?_));rw[su];rfl
theorem Ip(h:∀a∈p::r,46∉a):jh [] (p++j1 r)=p::r:=by induction r generalizing p with|nil=>rw[show j1 []=[]from rfl,lH,Yo (h p (.head _))];rfl|cons a r i=>exact aa jx (aa (XA (h p (.head _))) (aa (i λb m=>h b (.tail _ m)) rfl))
theorem Ul:∀{a:a0},0<a->be a r=j1 r:=by induction r with|nil=>intro _ _;rfl|cons b r i=>intro a h;refine aa Cd (aa (eI h) (aa (i (by lia)) (aa jx ?_)));simp
theorem z9:be 0 (p::r)=p++j1 r:=by exact aa Cd (aa (ej (by decide)) (aa (Ul (by decide)) rfl))
theorem U0(h:∀a∈r,a.length<=m):(j1 r).length<=(m+1)*r.length:=by induction r with|nil=>exact oZ _|cons a r i=>have c:=h a (.head _);have d:=i λb m=>h b (.tail _ m);refine aa jx (aa hS (aa lk (aa hS ?_)));rw[Nat.mul_add];exact UX
def Lb:ai (ai a0):=Ds++(D4++(Fz++(EY++G0++Fj)))
noncomputable def wM(a:ai a0)(l:ai (ai a0)):aA:=l.any λy=>decide (y=a)
theorem Ac(h:wM x l=D1):x∈l:=by obtain⟨y,m,a⟩:=List.any_eq_true.mp h;exact aD (hQ a) m
def Ae(t:aA)(m:ai a0):aA:=wM m Lb||(decide (m=[223])&&!t)
def Ai(t:aA)(p:ai a0):aA:=(p.all λc=>decide (c∈Sg))&&((aY t p).all (λc=>decide (c∈Sg))&&(gH wt good [] (aY t p)&&((!decide (46∈md t p))&&(Ae t (md t p)&&(wM (bU (md t p)) Sn&&(qA p.length 14&&qA (aY t p).length 14))))))
structure PG(t:aA)(p:ai a0):Prop where
sg:∀c∈p,c∈Sg
sm:∀c∈aY t p,c∈Sg
ob:gH wt good [] (aY t p)=D1
no:46∉md t p
R5:Ae t (md t p)=D1
sn:bU (md t p)∈Sn
lp:p.length<=14
lm:(aY t p).length<=14
theorem Mu(h:Ai t p=D1):PG t p:=by obtain⟨b,h⟩:=iA h;obtain⟨d,h⟩:=iA h;obtain⟨f,h⟩:=iA h;obtain⟨a,h⟩:=iA h;obtain⟨i,h⟩:=iA h;obtain⟨j,h⟩:=iA h;obtain⟨k,l⟩:=iA h;exact⟨λc m=>hQ (lg.mp b c m),λc m=>hQ (lg.mp d c m),f,λm=>by rw[mM m]at a;exact no a,i,Ac j,mc k,mc l⟩
section
variable{i j:Cell}{u:aA}{d:ak}
theorem Ud(b:HC i j)(h:Ae u m=D1):aq (d+21) 108 [il m,.ref 1,.ref 12] (KB i j u [])=.ok (.sh (.u [il (bU m),.list (ww (dR m))])) (KB i j u []):=by
 have a:qR i j u d m=jQ i j u m:=by
  unfold Ae at h
  rcases(v! _ _).mp h with h|h
  .have h:=Ac h
   unfold Lb at h
   rcases nG.mp h with h|h
   .exact cW (g0 i j u d) m h
   rcases nG.mp h with h|h
   .exact cW (g1 i j u d) m h
   rcases nG.mp h with h|h
   .exact cW (g2 i j u d) m h
   rcases nG.mp h with h|h
   .rcases nG.mp h with h|h
    .exact cW (g3 i j u d) m h
    .exact cW (g4 i j u d) m h
   .exact cW (g5 i j u d) m h
  .obtain⟨c,f⟩:=iA h
   have k:u=Un:=by cases u<;>first|rfl|exact no f
   refine aa k (aa (hQ c) (ZO i j d))
 rw[cG (by rfl)];exact FY b a Hc
theorem S9(a:HC i j)(h:y∈Sn):aq (d+11) 117 [il y] (KB i j u [])=.ok (.sh (.u [il (bR y),.list []])) (KB i j u []):=by exact aa (cG (by rfl)) (FY a (cW (Qz i j u d) y h) (Hc (w:=[])))
end
noncomputable def V8(s:ai ak):aA:=decide ([82]=s)||(decide ([65,76]=s)||(decide ([65,78]=s)||false))
noncomputable def pY:D->aA|.str s=>V8 s|_=>Un
theorem Hw(c:a0):dQ (xA c)=D1:=by
 unfold xA
 repeat' split
 all_goals rfl
theorem abN(h:dQ s=D1):inD cs (.str s) sF=Bc (pY (.str s)):=by show bY (dQ s&&D1) _=_;exact aa h rfl
theorem Ky:∀w∈cj x,inD cs w sF=Bc (pY w):=λw m=>by obtain⟨s,h,rfl⟩:=List.mem_map.mp m;obtain⟨c,_,rfl⟩:=List.mem_map.mp h;exact abN (Hw c)
def rZ(a:ai a0):aA:=(cj a).any pY
theorem Jw:∀{W:ai (ai ak)},uk (ww W)=Bc W:=by intro W;induction W with|nil=>rfl|cons w W i=>show(uk (ww W)).map (w::.)=_;exact aa i rfl
theorem R9(h:W.length<60):qJ cs (.list (ww W))=Bc (.list (ww (bE W))):=by
 have a:xR cs (.list (ww W))=Bc (.list (ww (bE W))):=by
  show qK (ww W)=_
  unfold qK;exact aa Jw (eI (show ys W.length 60=D1 from NE h))
 unfold qJ;exact aa a rfl
theorem Xc(h:W.length<60):aq (d+1) 105 [.list (ww W)] cs=.ok (.sh (.list (ww (bE W)))) cs:=by
 have a:aq (d+1) 105 [.list (ww W)] cs=qP (qJ cs (.list (ww W))) cs:=by rfl'
 exact aa a (aa (R9 h) rfl)
theorem f7(h:l.length<=1000):aq (d+1) 7 [.list l] cs=.ok (.sh (.int l.length)) cs:=by
 have a:aq (d+1) 7 [.list l] cs=qP (if aM l then Bc (.int l.length)else VG) cs:=by rfl'
 exact aa a (aa (sm q0) rfl)
theorem abM(h:l.length<=1000):aq (d+1) 178 [.list l] cs=.ok (.sh (.list l)) cs:=by
 have a:aq (d+1) 178 [.list l] cs=qP (if aM l then Bc (.list l)else VG) cs:=by rfl'
 exact aa a (aa (sm q0) rfl)
theorem oG(h:l.length<=1000):aq (d+1) 39 [.list l] cs=.ok (.sh (.list l)) cs:=by
 have a:aq (d+1) 39 [.list l] cs=qP (if aM l then Bc (.list l)else VG) cs:=by rfl'
 exact aa a (aa (sm q0) rfl)
theorem lookup_at{d:Type}{P:d->aA}{b:d}:∀{l:ai (ai a0×d)},(l.all λp=>P p.2)=D1->l.lookup x=Bc b->P b=D1:=by intro l;induction l with|nil=>exactλY h=>bh h|cons p r i=>
intro h a
obtain⟨f,j⟩:=iA h
obtain⟨y,c⟩:=p
rw[pD]at a
split at a
.exact aD (eF a) f
.exact i j a
theorem vX(a:ai a0):(dR a).all dQ=D1/\(dR a).length<=1:=by unfold dR;cases h:OH.lookup a with|none=>exact⟨rfl,oZ _⟩|some w=>have :=lookup_at (P:=λw:ai (ai ak)=>w.all dQ&&qA w.length 1) (by rfl') h;obtain⟨b,c⟩:=iA this;exact⟨b,mc c⟩
noncomputable def lO:ai ak:=[100,105,115,97,108,108,111,119,101,100]
def ky(H:ai (ai a0)):aA:=H.any rZ
def Wd(t:aA)(p:ai (ai a0)):ai (ai ak):=(if p.any (cD t)then[lO]else[])++(p.map (md t)).flatMap dR++(if ky ((p.map (md t)).map bU)then((p.map (md t)).map bU).flatMap (ls ey)else[])
def Zd(W:ai (ai ak)):ai (ai ak):=iP [] (bE W)
theorem Au{b:Type}{f:b->ai (ai ak)}(h:∀a,(f a).length<=1)(l:ai b):(l.flatMap f).length<=l.length:=by induction l with|nil=>exact ir _|cons a l i=>have :=h a;refine aa Di (aa lk (aa hS ?_));exact Pw
theorem FT{b:Type}{f:b->ai (ai ak)}(h:∀a,(f a).all dQ=D1)(l:ai b):(l.flatMap f).all dQ=D1:=by induction l with|nil=>rfl|cons a l i=>rw[Di,Gf,h a,i];rfl
theorem Pn(a:ai a0):(ls ey a).all dQ=D1/\(ls ey a).length<=1:=by
 unfold ls
 split
 .exact⟨rfl,oZ _⟩
 .exact⟨rfl,ir _⟩
theorem xl(h:ps.length<=5):(Wd t ps).length<=11/\(Wd t ps).all dQ=D1:=by
 have a:=Au (λx=>(vX x).2) (ps.map (md t))
 have b:=Au (λx=>(Pn x).2) ((ps.map (md t)).map bU)
 rw[fx]at a
 rw[fx,fx]at b
 unfold Wd
 constructor
 .refine aa lk (aa lk ?_);split<;>split<;>simp only[hS,CM]<;>lia
 .refine aa Gf (aa Gf ?_);rw[FT (λx=>(vX x).1)];split<;>split<;>first|rfl|(rw[FT (λx=>(Pn x).1)];rfl)
theorem Bx(h:W.all dQ=D1):(bE W).all dQ=D1:=lg.mpr λa m=>lg.mp h a ((sZ W).mem_iff.mp m)
theorem Bp(W:ai (ai ak)):(bE W).length=W.length:=(sZ W).length_eq
theorem Nh(h:W.length<60)(a:W.all dQ=D1):aq (d+2) 111 [.list (ww W)] cs=.ok (.sh (.list (ww (Zd W)))) cs:=by exact aa (cN (by rfl)) (acD (Xc h) (Bx a) (by rw[Bp];lia))
theorem N1(h:∀q∈p::r,∀c∈q,c∈Sg):∀c∈p++j1 r,c∈Sg:=λc m=>by
 rcases nG.mp m with m|m
 .exact h p (.head _) c m
 .refine aj (List.mem_flatMap.mp m) λq hq m=>?_
  rcases hZ.mp m with rfl|m
  .exact hQ (by rfl')
  .exact h q (.tail _ hq) c m
theorem n7(h:∀a∈p::r,a.length<=m):(p++j1 r).length<=m+(m+1)*r.length:=by haveI b:=h p (.head _);haveI c:=U0 λa m=>h a (.tail _ m);refine aa lk ?_;exact ai2 ‹_› ‹_›
theorem adu(h:mp t c=Bc m):m.length<=2:=by
 unfold mp at h
 repeat' split at h
 all_goals first|exact bh h|(rw[<-eF h];simp)
section
variable{dk fl:Cell}{u:aA}{d:ak}{p:ai a0}{r:ai (ai a0)}{X:ai Cell}
abbrev vO(dk fl:Cell)(u:aA)(X:ai Cell):Prop:=X=KA dk fl u\/X=KB dk fl u []
theorem pU(h:n<=3)(a:m<=14):m+(m+1)*n<=100:=by haveI :(m+1)*n<=15*3:=γ q8 h;exact q6
theorem V6(G:vO dk fl u X)(L:HC dk fl)(B:∀q∈p::r,PG u q)(H:r.length<=3):aq (d+39) 106 [il (p++j1 r),.ref 1,.bool u,.bool D1] X=.ok (.sh (.u [il (oL (aY u (p++j1 r))),.list (ww (if(p::r).any (cD u)then[lO]else[]))])) (KB dk fl u []):=by
 haveI I:=N1 λq m=>(B q m).sg
 haveI l1:(p++j1 r).length<=100:=gY (n7 λq m=>(B q m).lp) (pU H (ir _))
 have C:aY u (p++j1 r)=aY u p++j1 (r.map (aY u)):=aa tC (aa vR rfl)
 have F:∀q∈aY u p::r.map (aY u),∃x∈p::r,q=aY u x:=λq m=>by refine aj (List.mem_map.mp (show q∈(p::r).map (aY u)from m)) λx A e=>?_;exact aF x A e.symm
 have sm:∀c∈aY u (p++j1 r),c∈Sg:=by exact aa C (N1 λq m=>by obtain⟨x,A,rfl⟩:=F q m;exact(B x A).sm)
 have ob:gH wt good [] (aY u (p++j1 r))=D1:=by exact aa C (QS λq m=>by obtain⟨x,A,rfl⟩:=F q m;exact(B x A).ob)
 have J:(aY u (p++j1 r)).length<=1000:=by
  refine aa C ?_
  refine gY (n7 λq m=>by obtain⟨x,A,rfl⟩:=F q m;exact(B x A).lm) ?_
  rw[fx];exact gY (pU H (ir _)) (by simp)
 haveI M:(p++j1 r).any (λc=>(mp u c).isNone)=(p::r).any (cD u):=by exact aa IN (aa (NB (by rw[GL];rfl)) rfl)
 haveI K:∀c∈p++j1 r,aq (d+38) 82 [.int c,.ref 1,.bool u,.bool D1] X=.ok (.sh (yS (mp u c))) X/\∀m,mp u c=Bc m->m.length<=2:=λc m=>⟨by
rcases G with rfl|rfl
.exact cW (aa2 dk fl u (d+28) u) c (I c m)
.exact cW (aeg dk fl u [] (d+28) u) c (I c m),λm e=>adu e⟩
 haveI N:aq (d+38) 83 [il (aY u (p++j1 r)),.ref 1] X=.ok (.sh (il (oL (aY u (p++j1 r))))) (KB dk fl u []):=by
  clear K
  rcases G with rfl|rfl
  .exact aaL sm J ob
  .exact aaw L sm J ob
 haveI e:=RT K q0 N
 rw[M]at e;refine aa (cN (by rfl)) (aa e ?_);split<;>rfl
theorem WH(i:∀a∈p::r,PG u a)(k:r.length<=3)(cs:ai Cell):aq (d+39) 107 [il (oL (aY u (p++j1 r)))] cs=.ok (.sh (ld ((p::r).map (md u)))) cs:=by
 haveI b:oL (aY u (p++j1 r))=md u p++j1 (r.map (md u)):=by exact aa tC (aa vR (aa Ia (aa nA rfl)))
 haveI j:∀a∈md u p::r.map (md u),∃c∈p::r,a=md u c:=λa m=>by refine aj (List.mem_map.mp (show a∈(p::r).map (md u)from m)) λc f b=>?_;exact aF c f b.symm
 haveI l:∀c,PG u c->(md u c).length<=14:=λc h=>by show(gi wt bM [] (aY u c)).length<=14;refine aa (A8 zT) (aa CM ?_);rw[Mn];exact h.lm
 refine aa (cN (by rfl)) (aa b ?_)
 rw[UI,Ip]
 .rfl
 .intro a m;obtain⟨c,f,rfl⟩:=j a m;exact(i c f).no
 .refine gY (n7 λa m=>by obtain⟨c,f,rfl⟩:=j a m;exact l c (i c f)) ?_;rw[fx];exact gY (pU k (ir _)) (by simp)
theorem JL(F:vO dk fl u X)(G:HC dk fl)(A:∀q∈p::r,PG u q)(H:r.length<=3):aq (d+40) 116 [il (p++j1 r),.ref 1,.ref 12] X=.ok (.sh (.u [ld (((p::r).map (md u)).map bU),.list (ww (Zd (Wd u (p::r))))])) (KB dk fl u []):=by
 have I:∀q∈(p::r).map (md u),∃x∈p::r,q=md u x:=λq m=>by refine aj (List.mem_map.mp m) λx C e=>?_;exact aF x C e.symm
 have J:∀y∈((p::r).map (md u)).map bU,y∈Sn:=λy m=>by
  refine aj (List.mem_map.mp m) λq B L=>?_
  clear m
  subst L
  refine aj (I q B) λx C M=>?_
  clear B;subst M;exact(A x C).sn
 haveI K:=xl (t:=u) (ps:=p::r) (aa hS q8)
 refine aa (cN (by rfl)) ?_
 refine acR ?_ rfl (V6 F G A H) (by split<;>decide) (WH A H _) ⟨by simp,by rw[fx,hS];exact q8,λx m=>?_,?_,λy m=>cW (abI dk fl u (d+29)) y (J y m),Nh (by exact Lx K.1 (by decide)) K.2⟩
 .rcases F with rfl|rfl<;>rfl
 .refine aj (I x m) λy B N=>?_
  subst N;exact⟨Ud G (A y B).R5,gY (vX _).2 (by simp)⟩
 .rw[cN (by rfl)];exact abz λx m=>⟨cW (Rp dk fl u (d+28)) x (J x m),Ky⟩
theorem pJ:∀y∈Sn,y.length<=14/\(bR y).length<=14:=by
 haveI h:Sn.all (λy=>qA y.length 14&&qA (bR y).length 14)=D1:=by rfl'
 intro y m;refine aU (iA (lg.mp h y m)) λa b=>?_;exact⟨mc a,mc b⟩
def aK(u:aA)(a:ai (ai a0)):ai (ai a0):=(a.map (md u)).map bU
theorem rh(c:∀a∈f,PG u a):∀y∈aK u f,y∈Sn:=λy m=>by refine aj (List.mem_map.mp m) λa h i=>?_;clear m;subst i;refine aj (List.mem_map.mp h) λb j C=>?_;clear h;subst C;exact(c b j).sn
theorem qk(h:H.length<=4)(c:∀y∈H,y.length<=14):(be 0 H).length<=100:=by cases H with|nil=>exact oZ _|cons a b=>rw[hS]at h;exact aa z9 (gY (n7 c) (pU (anv ‹_›) (ir _)))
theorem O2(b:vO dk fl u X)(c:HC dk fl)(h:∀a∈p::r,PG u a)(f:r.length<=3):aq (d+41) 157 [il (p++j1 r),.ref 1,.ref 12] X=.ok (.sh (.u [il (be 0 (aK u (p::r))),.list (ww (Zd (Wd u (p::r))))])) (KB dk fl u []):=by refine aa (cN (by rfl)) ?_;refine Wx (JL b c h f) ?_;rw[cN (by rfl)];refine Jj (gY (qk ?_ λy m=>(pJ y (rh h y m)).1) (by simp));unfold aK;rw[fx,fx,hS];exact q8
def Ea(u:aA)(a:ai (ai a0)):ai (ai ak):=i9 ((aK u a).map bR)
theorem LZ{a:ai (ai a0)}(h:a.length<=5):(i9 a).length<=5/\(i9 a).all dQ=D1:=by
 have c:(dg a).length<=5:=by
  unfold dg
  split
  .refine aa ar5 ?_;lia
  .exact h
 haveI f:∀l:ai a0,(if l.isEmpty then[gM]else[]).length<=1/\(if l.isEmpty then[gM]else[]).all dQ=D1:=λl=>by
  split
  .exact⟨ir _,rfl⟩
  .exact⟨oZ _,rfl⟩
 exact⟨gY (Au (λb=>(f b).1) _) c,FT (λb=>(f b).2) _⟩
theorem adw:∀(r F:ai (ai ak)),(iP F r).length<=F.length+r.length:=by intro r;induction r with|nil=>exactλF=>ir _|cons w r i=>
intro F
refine aa AP ?_
split
.haveI :=i F;rw[hS];exact H! ‹_›
.haveI :=i (F++[w]);rw[lk,hS,CM]at this;rw[hS];exact q27
theorem UT:∀(r F:ai (ai ak)),F.all dQ=D1->r.all dQ=D1->(iP F r).all dQ=D1:=by intro r;induction r with|nil=>exactλF h Y=>h|cons w r i=>
intro F h a
refine aU (iA a) λc b=>?_
refine aa AP ?_
split
.exact i F h b
.exact i _ (aa Gf (aa h (aa Nf (aa c rfl)))) b
theorem F6(a:W.all dQ=D1):(Zd W).length<=W.length/\(Zd W).all dQ=D1:=by haveI :=adw (bE W) [];rw[Bp,CM,Mn]at this;exact⟨this,UT _ _ rfl (Bx a)⟩
theorem Uq(F:vO dk fl u X)(B:HC dk fl)(v:∀a∈p::r,PG u a)(G:r.length<=3):aq (d+41) 146 [il (p++j1 r),.ref 1,.ref 12] X=if(Zd (Wd u (p::r))++Ea u (p::r)).isEmpty then .ok (.sh (il (be 0 ((aK u (p::r)).map bR)))) (KB dk fl u [])else .exc (.list (ww (Zd (Zd (Wd u (p::r))++Ea u (p::r))))) (KB dk fl u []):=by
 have w:=xl (t:=u) (ps:=p::r) (aa hS q8)
 haveI j:=F6 w.2
 have H:(aK u (p::r)).length<=4:=by unfold aK;rw[fx,fx,hS];exact q8
 have A:((aK u (p::r)).map bR).length<=4:=by rw[fx];exact H
 haveI k:=LZ (gY A (by simp))
 have s:∀y∈(aK u (p::r)).map bR,y.length<=14:=λy m=>by
  refine aj (List.mem_map.mp m) λb I J=>?_
  clear m
  subst J;exact(pJ b (rh v b I)).2
 haveI t:(dg ((aK u (p::r)).map bR)).length<=4/\∀y∈dg ((aK u (p::r)).map bR),y.length<=14:=by
  unfold dg
  split
  .exact⟨aa ar5 q1,λy m=>s y (C? _ m)⟩
  .exact⟨A,s⟩
 haveI C:∀c:ai (ai a0),c.length<=4->(∀y∈c,y.length<=14)->∀f,aq (f+1) 114 [ld c] (KB dk fl u [])=.ok (.sh (il (be 0 c))) (KB dk fl u []):=λc h i f=>by exact aa (cN (by rfl)) (Jj (gY (qk h i) (by simp)))
 refine aa (cN (by rfl)) ?_
 refine XS rfl (JL F B v G) (λy m=>S9 B (rh v y m)) q0 (by haveI :=j.1;haveI :=w.1;exact q41) (by haveI :=k.1;exact gY this (by decide)) (by rw[Gf,j.2];exact k.2) ?_ ?_ (C _ A s _)
 .rw[cN (by rfl)];refine ado (λl h=>f7 h) (by simp[aK]) q0 (λy m=>gY (s y m) (by decide)) (C _ t.1 t.2 _) (gY (qk t.1 t.2) (by decide))
 .refine Nh ?_ (by rw[Gf,j.2];exact k.2)
  haveI K:=j.1
  haveI L:=w.1;haveI M:=k.1;rw[lk];show(Zd (Wd u (p::r))).length+(i9 ((aK u (p::r)).map bR)).length<60;lia
theorem OV(I:vO dk fl u X)(J:HC dk fl)(A:∀q∈p::r,PG u q)(K:r.length<=3):aq (d+42) 159 [il (p++j1 r),.ref 1,.ref 12] X=.ok (.sh (if(Zd (Wd u (p::r))++Ea u (p::r)).isEmpty then il (be 0 ((aK u (p::r)).map bR))else .list (jH::ww (Zd (Zd (Wd u (p::r))++Ea u (p::r)))))) (KB dk fl u []):=by
 haveI h:=Uq (d:=d) I J A K
 have B:=xl (t:=u) (ps:=p::r) (aa hS q8)
 haveI C:=F6 B.2
 haveI F:((aK u (p::r)).map bR).length<=4:=by unfold aK;rw[fx,fx,fx,hS];exact q8
 haveI G:=LZ (gY F (by simp))
 haveI L:∀y∈(aK u (p::r)).map bR,y.length<=14:=λy m=>by
  refine aj (List.mem_map.mp m) λz M N=>?_
  clear m
  subst N;exact(pJ z (rh A z M)).2
 refine aa (cN (by rfl)) ?_;cases H:(Zd (Wd u (p::r))++Ea u (p::r)).isEmpty with|true=>rw[H,eI rfl]at h;exact aa (eI rfl) (Yr h (oG (by rw[fx];exact gY (qk F L) (by simp))))|false=>
rw[H,ej (by decide)]at h
refine aa (ej (by decide)) ?_
haveI O:=F6 (W:=Zd (Wd u (p::r))++Ea u (p::r)) (aa Gf (aa C.2 G.2))
haveI U:(Zd (Zd (Wd u (p::r))++Ea u (p::r))).length<=100:=by
 haveI V:=C.1
 haveI W:=B.1
 haveI P:=G.1
 haveI Q:=O.1
 rw[lk]at Q
 haveI :(Ea u (p::r)).length<=5:=P;lia
exact abF h (abM (by rw[fx];exact q0)) q0
end
noncomputable def Sr:ai a0:=[98,49,45,65,97,95,173,223,8226,769,803,1576,1575,1488,1632,115,252,46,57,120,110,116,100,122,99,118,103]
def FD(ks:ai (ai ak)):Cell:=.dict (ww ks) (ks.map λY=>.bool D1)
def dl(b:aA):ai (ai ak):=if b then[lO]else[]
abbrev we:ai S:=lJ (tM.getD 1 .av)
def lG(c:a0):ai ak:=if c=65 then[109,97,112,112,101,100]else if c=173 then[105,103,110,111,114,101,100]else if c=223 then[100,101,118,105,97,116,105,111,110]else if c=8226 then lO else[118,97,108,105,100]
noncomputable def gN(c:a0):ai a0:=if c=65 then[97]else if c=223 then[115,115]else[]
noncomputable def yV(u:aA)(c:a0):aA:=decide (c=65)||(decide (c=223)&&u)
noncomputable def zw(c:a0):aA:=decide (c=173)
noncomputable abbrev dO(cs:ai Cell)(N:D)(u:aA)(F:ai a0)(x4 x5 x6 x7 x8:Slot):St:=⟨[.sh N,.sh (.bool u),.sh (.ref 11),.o (F.map .int),x4,x5,x6,x7,x8],cs⟩
noncomputable abbrev kD(c:a0):D:=.u ((gN c).map .int)
section
variable(cl:ak->ai D->ai Cell->RC)(cs:ai Cell)(N:D)(u b:aA)(F:ai a0)(x5 x6 x7 x8:Slot)(dk:Cell)
abbrev v6(cs)(N)(u)(F)(c)(x7)(x8):=dO cs N u F (.sh (.int c)) (.sh (.str (lG c))) (.sh (kD c)) x7 x8
theorem R4:Sr.map (λc=>ev (NV cl) 297 (.s (we.getD 0 .av)) (dO cs N u F (.sh (.int c)) x5 x6 x7 x8))=Sr.map λc=>.ok .ay (v6 cs N u F c x7 x8):=by rfl'
abbrev P4(dk)(b)(u)(c):=KA dk (FD (dl (b||(mp u c).isNone))) u
theorem lm2:Sr.map (λc=>ev (NV cl) 297 (.s (we.getD 1 .av)) (dO (KA dk (FD (dl b)) u) N u F (.sh (.int c)) (.sh (.str (lG c))) (.sh (kD c)) x7 x8))=Sr.map λc=>.ok .ay (dO (P4 dk b u c) N u F (.sh (.int c)) (.sh (.str (lG c))) (.sh (kD c)) x7 x8):=by cases b<;>cases u<;>rfl'
theorem VT:Sr.map (λc=>ev (NV cl) 296 (.t (.bj .Or [.p (.l 5) [.Eq] [.cS [109,97,112,112,101,100]],.bj .And [.p (.l 5) [.Eq] [.cS [100,101,118,105,97,116,105,111,110]],.l 1]])) (v6 cs N u F c x7 x8))=Sr.map λc=>vB (yV u c) (v6 cs N u F c x7 x8):=by cases u<;>rfl'
theorem ZD:Sr.map (λc=>ev (NV cl) 294 (.t (.p (.l 5) [.NotEq] [.cS [105,103,110,111,114,101,100]])) (v6 cs N u F c x7 x8))=Sr.map λc=>vB (!zw c) (v6 cs N u F c x7 x8):=by rfl'
theorem lm5:Sr.map (λc=>(mp u c).getD [c])=Sr.map λc=>if yV u c then gN c else if zw c then[]else[c]:=by cases u<;>rfl'
end
section
variable{cl:ak->ai D->ai Cell->RC}{N:D}{u:aA}{dk:Cell}
theorem Zr:∀(l F:ai a0)(b:aA)(x4 x5 x6 x7 x8:Slot),(∀c∈l,c∈Sr)->F.length+2*l.length<=1000->∃y4 y5 y6,bQ (ev (NV cl) 298) (.nm 4) we (l.map .int) (dO (KA dk (FD (dl b)) u) N u F x4 x5 x6 x7 x8)=.ok .ay (dO (KA dk (FD (dl (b||cD u l))) u) N u (F++aY u l) y4 y5 y6 x7 x8):=by intro l;induction l with
|nil=>
intro F b x4 x5 x6 x7 x8 _ _
refine FE x4 x5 x6 (aa (show aY u []=[]from rfl) (aa (show cD u []=Un from rfl) ?_));rw[lH,GE];rfl|cons c l ih=>
intro F b x4 x5 x6 x7 x8 h hl
rw[hS]at hl
have hc:=h c (.head _)
have s1:=cW (R4 cl (KA dk (FD (dl b)) u) N u F x5 x6 x7 x8) c hc
have s2:=cW (lm2 cl N u b F x7 x8 dk) c hc
have t3:=cW (VT cl (P4 dk b u c) N u F x7 x8) c hc
have t4:=cW (ZD cl (P4 dk b u c) N u F x7 x8) c hc
have e5:(mp u c).getD [c]=if yV u c then gN c else if zw c then[]else[c]:=cW (lm5 u) c hc
have ol:(gN c).length<=2:=by
 unfold gN
 repeat' split
 all_goals simp
have q3:=ew (x:=[.ext 3 (.l 6)]) (y:=[.iff (.p (.l 5) [.NotEq] [.cS [105,103,110,111,114,101,100]]) [.app 3 (.l 4)] []]) t3
have s3:ev (NV cl) 297 (.s (we.getD 2 .av)) (dO (P4 dk b u c) N u F (.sh (.int c)) (.sh (.str (lG c))) (.sh (kD c)) x7 x8)=.ok .ay (dO (P4 dk b u c) N u (F++(mp u c).getD [c]) (.sh (.int c)) (.sh (.str (lG c))) (.sh (kD c)) x7 x8):=by
 refine aa e5 ?_
 unfold dO
 refine aa lZ ?_;cases hx:yV u c with|true=>rw[hx,eI rfl]at q3;rw[eI rfl];exact q3.trans ((aB (uB (st1:=dO (P4 dk b u c) N u F (.sh (.int c)) (.sh (.str (lG c))) (.sh (kD c)) x7 x8) (d:=kD c) rfl (by rfl') rfl rfl (fy q1) (fy q0))).trans rfl)|false=>
 rw[hx,ej (by decide)]at q3
 rw[ej (by decide)]
 have q4:=ew (x:=[.app 3 (.l 4)]) (y:=[]) t4;cases hg:zw c with|true=>
rw[hg,ej (by decide)]at q4
rw[eI rfl,FM,lH];exact q3.trans ((aB (q4.trans rfl)).trans rfl)|false=>
 rw[hg,eI (by rfl)]at q4
 rw[ej (by decide)];exact q3.trans ((aB (q4.trans ((aB (lL (st1:=dO (P4 dk b u c) N u F (.sh (.int c)) (.sh (.str (lG c))) (.sh (kD c)) x7 x8) (sl:=.sh (.int c)) rfl (by rfl') rfl rfl (fy q1))).trans rfl))).trans rfl)
have ml:((mp u c).getD [c]).length<=2:=by
 rw[e5]
 repeat' split
 all_goals first|exact ol|simp
obtain⟨y4,y5,y6,e⟩:=ih (F++(mp u c).getD [c]) (b||(mp u c).isNone) (.sh (.int c)) (.sh (.str (lG c))) (.sh (kD c)) x7 x8 (λc m=>h c (.tail _ m)) (by rw[lk];exact q5)
refine⟨y4,y5,y6,?_⟩;rw[show aY u (c::l)=(mp u c).getD [c]++aY u l from rfl,show cD u (c::l)=((mp u c).isNone||cD u l)from rfl,<-su,<-Bool.or_assoc,<-e];exact iy rfl ((aB s1).trans ((aB s2).trans ((aB s3).trans rfl)))
end
section
variable{N:Env}{n:ak}{x y z:E}{f:St}{a b:a0}
theorem VM(l:ev N n (.e z) f=vD (.int c) f)(h:ev N n (.e x) f=vD (.int a) f)(i:c<a->ev N n (.e y) f=vD (.int b) f):ev N (n+2) (.t (.p z [.Lt,.Lt] [x,y])) f=vB (decide (c<a)&&decide (a<b)) f:=by
 have j:ev N (n+1) (.x (.p z [.Lt,.Lt] [x,y])) f=vB (decide (c<a)&&decide (a<b)) f:=by
  show((ev N n (.e z) f).aT λv f=>og (ev N n) [.Lt,.Lt] v [x,y] f).bC=_
  refine aa l ?_
  show((ev N n (.e x) f).aT λd f=>rO (lu f.cells .Lt (.int c) d) λb=>match !b with|true=>vB b f|false=>og (ev N n) [.Lt] d [y] f).bC=_
  refine aa h ?_
  show(match !decide (c<a)with|true=>vB (decide (c<a)) f|false=>og (ev N n) [.Lt] (.int a) [y] f).bC=_
  by_cases k:c<a
  .refine aa (mM k) ?_
   show((ev N n (.e y) f).aT λd f=>rO (lu f.cells .Lt (.int a) d) λb=>vB b f).bC=_;exact aa (i k) rfl
  .exact aa (Lc k) rfl
 show(ev N (n+1) (.x (.p z [.Lt,.Lt] [x,y])) f).bindB (λb f=>vB b f)=_;exact aa j rfl
end
theorem item_at{l:ai a0}{i:ak}(h:l[i]?=Bc x)(a:i<100000):dP (l.map D.int) (i:a0)=Bc (.int x):=yH (by rw[y8,h];rfl) (l? a (by decide))
def iV:a0->ai a0->ai a0|a,[]=>[a]|a,b::r=>if decide (0<wt b)&&decide (wt b<wt a)then b::iV a r else a::iV b r
def pass:ai a0->ai a0|[]=>[]|a::r=>iV a r
theorem si:iV a (b::r)=if decide (0<wt b)&&decide (wt b<wt a)then b::iV a r else a::iV b r:=rfl
theorem Ka:wt 46=0:=by rfl'
theorem L4:iV 46 x=46::pass x:=by cases x with|nil=>rfl|cons b r=>exact aa si (aa (ej (by rw[Ka];simp;lia)) rfl)
theorem QR:∀{c:ai a0}{a:a0},iV a (c++46::x)=iV a c++46::pass x:=by intro c;induction c with|nil=>intro a;rw[AS,si,ej (by rw[Ka];simp),L4];rfl|cons b c i=>
intro a
refine aa Lq (aa si (aa si ?_))
split
.exact aa i rfl
.exact aa i rfl
theorem VF:pass (b++46::x)=pass b++46::pass x:=by cases b with|nil=>exact L4|cons a b=>exact QR
theorem Ko:pass (p++j1 r)=pass p++j1 (r.map pass):=by induction r generalizing p with|nil=>rw[FM,show j1 []=[]from rfl,lH,lH]|cons a r i=>rw[jx,l6,jx,<-i];exact VF
theorem aeC:∀{r:ai a0}{a:a0},∀c∈iV a r,c∈a::r:=by intro r;induction r with|nil=>exactλc m=>m|cons b r i=>
intro a c m
rw[si]at m
split at m
.rcases hZ.mp m with rfl|m
 .exact .tail _ (.head _)
 .rcases hZ.mp (i c m)with rfl|m
  .exact .head _
  .exact .tail _ (.tail _ m)
.rcases hZ.mp m with rfl|m
 .exact .head _
 .exact .tail _ (i c m)
theorem V2:∀{r:ai a0}{a:a0},(iV a r).length=r.length+1:=by intro r;induction r with|nil=>intro a;rfl|cons b r i=>intro a;refine aa si ?_;split<;>(rw[hS,i,hS])
def Na:D:=(wd 139).getD .none
def Nq(c:a0):D:=(jG [] Na (.int c)).getD .none
theorem RU(cs:ai Cell):Sr.map (λc=>(jG cs Na (.int c),jG cs (Nq c) (.int 3)))=Sr.map λc=>(Bc (Nq c),Bc (.int (wt c))):=by rfl'
abbrev Hi:E:=.p (.cI 0) [.Lt,.Lt] [.sub (.sub (.aO 139) (.jC 3 (.l 8))) (.cI 3),.sub (.sub (.aO 139) (.jC 3 (.b .Sub (.l 8) (.cI 1)))) (.cI 3)]
abbrev GI:ai S:=[.iff Hi [.pK 3 8] []]
theorem Vd{b:D}:((pre++a::b::r).set pre.length b).set (pre.length+1) a=pre++b::a::r:=by rw[aqs _ _ (ir _),m?,List.set_cons_zero,aqs _ _ (tm _)];exact aa (show pre.length+1-pre.length=1 by exact E? _ _) rfl
section
variable{w:ak->ai D->ai Cell->RC}{cs:ai Cell}{N:D}{u:aA}{t s j x7:Slot}
theorem M4{i:ak}(b:st=dO cs N u A t s j x7 m)(d:ev (NV w) 286 (.e e) st=vD (.int k) st)(f:k=(i:a0))(h:A[i]?=Bc c)(p:A.length<=1000)(l:c∈Sr):ev (NV w) 292 (.e (.sub (.sub (.aO 139) (.jC 3 e)) (.cI 3))) st=vD (.int (wt c)) st:=by subst b;subst f;have a:=cW (RU cs) c l;have r:i<A.length:=(List.getElem?_eq_some_iff.mp h).1;exact aV (qo (n:=290) (aV (qo (by rfl') (aV (yC rfl d (item_at h mA)) rfl) (db a).1) rfl) (by rfl') (db a).2) rfl
theorem inner(k:Slot):∀(i p:ai a0)(a:a0)(l:Slot),(∀c∈p++a::i,c∈Sr)->p.length+i.length+1<=500->∃y,bQ (ev (NV w) 296) (.nm 8) GI (gI i.length (p.length+1:ak)) (dO cs N u (p++a::i) t s j k l)=.ok .ay (dO cs N u (p++iV a i) t s j k y):=by intro i;induction i with|nil=>exactλp a l Y Y=>⟨l,rfl⟩|cons b r v=>
intro p a l h H
rw[hS]at H
have A:(p++a::b::r)[p.length]?=Bc a:=by rw[US (ir _),m?];rfl
have B:(p++a::b::r)[p.length+1]?=Bc b:=aa (US (tm _)) (aa (show p.length+1-p.length=1 by exact E? _ _) rfl)
have C:(p++a::b::r).length<=1000:=by simp;exact q0
have I:a∈Sr:=h a (by simp)
have J:b∈Sr:=h b (by simp)
have K:ev (NV w) 294 (.t Hi) (dO cs N u (p++a::b::r) t s j k (.sh (.int (p.length+1:ak))))=vB (decide (0<wt b)&&decide (wt b<wt a)) (dO cs N u (p++a::b::r) t s j k (.sh (.int (p.length+1:ak)))):=by refine VM (by rfl') (M4 rfl (by rfl') rfl B C J) λY=>?_;exact M4 rfl (e:=.b .Sub (.l 8) (.cI 1)) (i:=p.length) (k:=((p.length+1:ak):a0)-1) (by rfl') (by lia) A C I
have d:=ew (N:=NV w) (n:=294) (x:=[.pK 3 8]) (y:=[]) K;rw[si];cases F:(decide (0<wt b)&&decide (wt b<wt a))with|true=>
rw[F,eI rfl]at d
rw[eI rfl]
obtain⟨y,f⟩:=v (p++[b]) a (.sh (.int (p.length+1:ak))) (λc m=>h c (by simp at m⊢;rcases m with m|m|m|m<;>simp[m])) (by simp;lia)
refine⟨y,?_⟩
rw[show p++b::iV a r=p++[b]++iV a r by simp,<-f]
have L:ev (NV w) 293 (.s (.pK 3 8)) (dO cs N u (p++a::b::r) t s j k (.sh (.int (p.length+1:ak))))=.ok .ay (dO cs N u (p++[b]++a::r) t s j k (.sh (.int (p.length+1:ak)))):=by
 have M:((p++a::b::r).map D.int)=p.map .int++.int a::.int b::r.map .int:=by rw[lZ];rfl
 have G:(p.map D.int).length=p.length:=fx _
 have d:ev (NV w) 293 (.s (.pK 3 8)) (dO cs N u (p++a::b::r) t s j k (.sh (.int (p.length+1:ak))))=bk (decide ((1:a0)<=(p.length+1:ak))&&aM ((p++a::b::r).map D.int)) (rO ((p++a::b::r).map D.int)[p.length+1-1]? λO=>rO ((p++a::b::r).map D.int)[p.length+1]? λP=>.ok .ay ⟨[.sh N,.sh (.bool u),.sh (.ref 11),.o ((((p++a::b::r).map D.int).set (p.length+1-1) P).set (p.length+1) O),t,s,j,k,.sh (.int (p.length+1:ak))],cs⟩):=by rfl'
 rw[d,mM (by lia),fy q0,as9,y8,A,y8,B]
 show R.ok .ay ⟨[.sh N,.sh (.bool u),.sh (.ref 11),.o ((((p++a::b::r).map D.int).set p.length (.int b)).set (p.length+1) (.int a)),t,s,j,k,.sh (.int (p.length+1:ak))],cs⟩=_
 rw[M,<-G,Vd,G]
 unfold dO;rw[lZ,lZ,su];rfl
rw[show(gI (b::r).length (p.length+1:ak))=.int (p.length+1:ak)::gI r.length ((p.length+1:ak)+1)from rfl,show((p++[b]).length+1:ak)=p.length+1+1 by simp];exact iy rfl (ssq ((aB (d.trans (ssq ((aB L).trans rfl)))).trans rfl))|false=>rw[F,ej (by decide)]at d;rw[ej (by decide)];obtain⟨y,f⟩:=v (p++[a]) b (.sh (.int (p.length+1:ak))) (λc m=>h c (by simp at m⊢;rcases m with m|m|m|m<;>simp[m])) (by simp;lia);refine⟨y,?_⟩;rw[show p++a::iV b r=p++[a]++iV b r by simp,<-f];rw[show(gI (b::r).length (p.length+1:ak))=.int (p.length+1:ak)::gI r.length ((p.length+1:ak)+1)from rfl,show((p++[a]).length+1:ak)=p.length+1+1 by simp,show p++[a]++b::r=p++a::b::r by simp];exact iy rfl (ssq ((aB (d.trans rfl)).trans rfl))
end
section
variable{N:Env}{n:ak}{a b:E}{tg:cO}{bd:ai S}{f st1 st2:St}{r:R}
theorem O3{m:ak}(h:ev N n (.e b) f=vD (.int (m:a0)) st1)(j:m<1000)(c:bQ (ev N n) tg bd (gI m 0) st1=r):ev N (n+1) (.s (.bA tg (.fp VG b) bd)) f=r:=by show(((ev N n (.e b) f).aT λd f=>rI d λb=>bk (decide (b<1000)&&decide (-1000<b)) (vL (gI b.toNat 0) f)).bindL λi f=>bQ (ev N n) tg bd i f)=_;refine aa h ?_;show((bk (decide ((m:a0)<1000)&&decide (-1000<(m:a0))) (vL (gI m 0) st1)).bindL λi f=>bQ (ev N n) tg bd i f)=_;exact aa (mM q45) (aa (mM (P1 _)) c)
theorem ad1(h:ev N n (.e a) f=vD (.int 1) st1)(j:ev N n (.e b) st1=vD (.int ((m+1:ak):a0)) st2)(k:m<900)(c:bQ (ev N n) tg bd (gI m 1) st2=r):ev N (n+1) (.s (.bA tg (.fp (Bc a) b) bd)) f=r:=by show(((ev N n (.e a) f).aT λd f=>rI d λa=>(ev N n (.e b) f).aT λd f=>rI d λb=>bk ((decide (b<1000)&&decide (-1000<b))&&(decide (0<=a)&&decide (a<1000))) (vL (gI (b-a).toNat a) f)).bindL λi f=>bQ (ev N n) tg bd i f)=_;refine aa h ?_;show(((ev N n (.e b) st1).aT λd f=>rI d λb=>bk ((decide (b<1000)&&decide (-1000<b))&&(decide ((0:a0)<=1)&&decide ((1:a0)<1000))) (vL (gI (b-1).toNat 1) f)).bindL λi f=>bQ (ev N n) tg bd i f)=_;refine aa j ?_;show((bk ((decide (((m+1:ak):a0)<1000)&&decide (-1000<((m+1:ak):a0)))&&D1) (vL (gI (((m+1:ak):a0)-1).toNat 1) st2)).bindL λi f=>bQ (ev N n) tg bd i f)=_;exact aa (mM uO) (aa (mM (P1 _)) (aa (show(((m+1:ak):a0)-1).toNat=m from(gO e? (Int.add_sub_cancel (m:a0) 1)).trans (Int.toNat_natCast m)) c))
end
section
variable{j:ak->ai D->ai Cell->RC}{cs:ai Cell}{N:D}{u:aA}{t s p:Slot}{l:Cell}
abbrev Fy:ai S:=[.bA (.nm 8) (.fp (Bc (.cI 1)) (.ie 3)) GI]
theorem outer(I:pass B=B):∀(k:ak)(i:a0)(A:ai a0)(w v:Slot),pass A=B->A≠[]->(∀c∈A,c∈Sr)->A.length<=400->∃b C y,(b=A/\k=0\/b=B)/\bQ (ev (NV j) 298) (.nm 7) Fy (gI k i) (dO cs N u A t s p w v)=.ok .ay (dO cs N u b t s p C y):=by intro k;induction k with|zero=>exactλi A w v Y Y Y Y=>wm A w v (.inl ⟨rfl,rfl⟩) rfl|succ k J=>
intro i A w v F K G L
cases A with
|nil=>exact aL rfl K
|cons a r=>
rw[hS]at L
obtain⟨y,d⟩:=inner (.sh (.int i)) r [] a v G (by simp;exact q1)
have M:ev (NV j) 297 (.s (.bA (.nm 8) (.fp (Bc (.cI 1)) (.ie 3)) GI)) (dO cs N u (a::r) t s p (.sh (.int i)) v)=.ok .ay (dO cs N u B t s p (.sh (.int i)) y):=by exact aD F (ad1 (st2:=dO cs N u (a::r) t s p (.sh (.int i)) v) (by rfl') (aV (AH rfl (fy (aa hS q0))) (by rw[fx,hS];rfl)) q0 d)
have H:B.length=r.length+1:=aD F V2
have O:∀c∈B,c∈Sr:=λc m=>G c (aeC c (by rw[<-F]at m;exact m))
obtain⟨b,C,P,Q,U⟩:=J (i+1) B (.sh (.int i)) y I (λf=>by rw[f]at H;simp at H) O AQ
refine wm b C P (.inr ?_) ?_
.rcases Q with⟨h,_⟩|h<;>exact h
.exact aD U (iy rfl ((aB M).trans rfl))
theorem T9(A:∀c∈P,c∈Sr)(J:P.length<=100)(d:pass (aY u P)=B)(C:pass B=B)(F:∀c∈aY u P,c∈Sr)(K:(aY u P).length<=300):cu (NV j) 152 [il P,.bool u,.ref 11] (KA l (FD []) u)=.ok (.sh (il B)) (KA l (FD (dl (cD u P))) u):=by
 obtain⟨r,v,w,a⟩:=Zr P [] Un .ae .ae .ae .ae .ae A (by simp;exact SL)
 rw[AS,Ij]at a
 have G:cu (NV j) 152 [il P,.bool u,.ref 11] (KA l (FD []) u)=fin (cA (ev (NV j) 299) tM ⟨[.sh (il P),.sh (.bool u),.sh (.ref 11),.ae,.ae,.ae,.ae,.ae,.ae],KA l (FD []) u⟩):=by rfl'
 have H:ev (NV j) 299 (.s (tM.getD 1 .av)) (dO (KA l (FD []) u) (il P) u [] .ae .ae .ae .ae .ae)=bQ (ev (NV j) 298) (.nm 4) we (P.map .int) (dO (KA l (FD (dl Un)) u) (il P) u [] .ae .ae .ae .ae .ae):=by rfl'
 have i:∃y f,ev (NV j) 299 (.s (.bA (.nm 7) (.fp VG (.ie 3)) Fy)) (dO (KA l (FD (dl (cD u P))) u) (il P) u (aY u P) r v w .ae .ae)=.ok .ay (dO (KA l (FD (dl (cD u P))) u) (il P) u B r v w y f):=by
  by_cases k:aY u P=[]
  .rw[k]at d⊢;have d:[]=B:=d;exact aD d (jY .ae .ae (by rfl'))
  .obtain⟨b,y,f,m,I⟩:=outer C (aY u P).length 0 (aY u P) .ae .ae d k F q0
   have m:b=B:=by
    rcases m with⟨_,h⟩|h
    .exact aL (List.length_eq_zero_iff.mp h) k
    .exact h
   refine aD m ?_;exact jY y f (O3 (aV (AH rfl (fy q0)) (by rw[fx];rfl)) q8 I)
 obtain⟨y,f,i⟩:=i;refine aa G ?_;rw[show tM=[.g 3 (.a []),tM.getD 1 .av,.bA (.nm 7) (.fp VG (.ie 3)) Fy,.ret (.l 3)]from rfl,aB (by rfl'),aB (H.trans a),aB i];rfl'
end
noncomputable def eV(w:ai ak):ai (ai ak)->ai (ai ak)|[]=>[w]|a::r=>if a=w then a::r else a::eV w r
noncomputable def sT(k:ai (ai ak)):ai D:=k.map λY=>.bool D1
theorem B6:∀{r:ai (ai ak)},fF dJ (ww r)=D1:=by intro r;induction r with|nil=>rfl|cons a r i=>exact i
theorem Kr:∀{k:ai (ai ak)},putK dJ w (.str w) (.bool D1) (ww k) (sT k)=Bc (ww (eV w k),sT (eV w k)):=by intro k;induction k with|nil=>rfl|cons a r i=>
show(if a=w then bY (fF dJ (ww r)) (D.str a::ww r,D.bool D1::sT r)else(putK dJ w (.str w) (.bool D1) (ww r) (sT r)).map λp=>(.str a::p.1,.bool D1::p.2))=_
unfold eV
by_cases h:a=w
.exact aa (eI h) (aa (eI h) (aa B6 rfl))
.exact aa (ej h) (aa (ej h) (aa i rfl))
section
variable{N:Env}{n:ak}{a b c:E}{f st1 st2 st3:St}{r:ak}{s:ai ak}{w:D}{ks l:ai D}{p:ai D×ai D}
theorem Bg(h:ev N n (.e c) f=vD w st1)(d:ev N n (.e a) st1=vD (.ref r) st2)(i:ev N n (.e b) st2=vD (.str s) st3)(j:st3.cells[r]?=Bc (.dict ks l))(m:putK dJ s (.str s) w ks l=Bc p)(t:aM ks=D1):ev N (n+1) (.s (.dF a b c)) f=.ok .ay ⟨st3.l,st3.cells.set r (.dict p.1 p.2)⟩:=by show((ev N n (.e c) f).aT λw f=>(ev N n (.e a) f).aT λv f=>(ev N n (.e b) f).aT λk f=>jZ v λr=>rS k λs=>jV f.cells[r]? λks l=>rO (putK dJ s (.str s) w ks l) λp=>bk (aM ks) (.ok .ay ⟨f.l,f.cells.set r (.dict p.1 p.2)⟩))=_;rw[h];show((ev N n (.e a) st1).aT λv f=>(ev N n (.e b) f).aT λk f=>jZ v λr=>rS k λs=>jV f.cells[r]? λks l=>rO (putK dJ s (.str s) w ks l) λp=>bk (aM ks) (.ok .ay ⟨f.l,f.cells.set r (.dict p.1 p.2)⟩))=_;rw[d];show((ev N n (.e b) st2).aT λk f=>rS k λs=>jV f.cells[r]? λks l=>rO (putK dJ s (.str s) w ks l) λp=>bk (aM ks) (.ok .ay ⟨f.l,f.cells.set r (.dict p.1 p.2)⟩))=_;rw[i];show(jV st3.cells[r]? λks l=>rO (putK dJ s (.str s) w ks l) λp=>bk (aM ks) (.ok .ay ⟨st3.l,st3.cells.set r (.dict p.1 p.2)⟩))=_;rw[j];show(rO (putK dJ s (.str s) w ks l) λp=>bk (aM ks) (.ok .ay ⟨st3.l,st3.cells.set r (.dict p.1 p.2)⟩))=_;rw[m];show bk (aM ks) _=_;rw[t];rfl
end
noncomputable def fM(W k:ai (ai ak)):ai (ai ak):=W.foldl (λk w=>eV w k) k
section
variable{y:ak->ai D->ai Cell->RC}{j:Cell}{u:aA}{ks:ai (ai ak)}
theorem Aq(h:l[i]?=Bc (.sh (.ref 11)))(a:l.set i (.sh (.ref 11))=l)(b:ks.length<=1000):ev (NV y) (n+4) (.s (.dF (.l i) (.cS w) (.cT D1))) ⟨l,KA j (FD ks) u⟩=.ok .ay ⟨l,KA j (FD (eV w ks)) u⟩:=by refine Bg (st1:=⟨l,KA j (FD ks) u⟩) (st2:=⟨l,KA j (FD ks) u⟩) (st3:=⟨l,KA j (FD ks) u⟩) (by rfl') (aV (sl:=.sh (.ref 11)) ?_ rfl) (by rfl') rfl Kr (sm (by rw[fx];exact gY b (by decide)));show(rO ((l[i]?).bind fz) λd=>vD d ⟨l.set i (.sh d),KA j (FD ks) u⟩).bC=_;refine aa h ?_;show(vD (.ref 11) ⟨l.set i (.sh (.ref 11)),KA j (FD ks) u⟩).bC=_;exact aa a rfl
end
noncomputable def b2(s:ai a0):aA:=s.any λc=>decide (c=95)||decide (c=8226)
noncomputable def b3(s:ai a0):aA:=match s with|[]=>Un|c::_=>decide (c=769)||decide (c=803)
noncomputable def b4(s:ai a0):aA:=(!s.isEmpty)&&(decide (s[0]?=Bc 45)||(decide (s.getLast?=Bc 45)||decide ((s.drop 2).take 2=[45,45])))
def nV:S->E|.iff t _ _=>t|_=>.cN
noncomputable def LA:ai (ai a0):=[[97],[49,98],[252],[1488],[1576,1575],[223],[97,45],[],[769,98],[8226],[120,110,45,45,116,100,97],[120,110,45,45,122,99,97],[98,45,97],[1488,49],[97,98],[1488,97],[97,1488],[1488,45,1488],[1488,8226],[1488,49,1632],[1488,1632],[1488,769],[97,769],[97,95],[45,97],[120,110,45,45,110,118,103],[97,98,45,45,99],[97,803,769],[115,115]]
noncomputable def xY:ai ak:=[112,117,110,121,99,111,100,101]
noncomputable def xG:ai ak:=[97,115,99,105,105]
noncomputable def wN:ai ak:=[109,97,114,107]
noncomputable def z7:ai ak:=[104,121,112,104,101,110,115]
abbrev eC(cs:ai Cell)(m s:ai a0):St:=⟨[.sh (il m),.sh (.ref 11),.sh (il s)],cs⟩
section
variable(y:ak->ai D->ai Cell->RC)(cs:ai Cell)(m:ai a0)(d:ak)
theorem UJ:LA.map (λm=>ev (NV (aq (d+5))) 299 (.s (eG.getD 1 .av)) (eC cs m m))=LA.map λm=>.ok .ay (eC cs m (bU m)):=by rfl'
theorem Yv:Sn.map (λs=>ev (NV y) 298 (.t (nV (eG.getD 2 .av))) (eC cs m s))=Sn.map λs=>vB (b2 s) (eC cs m s):=by rfl'
theorem ls3:Sn.map (λs=>ev (NV y) 298 (.t (nV (eG.getD 3 .av))) (eC cs m s))=Sn.map λs=>vB (b3 s) (eC cs m s):=by rfl'
theorem Rc:Sn.map (λs=>ev (NV y) 298 (.t (nV (eG.getD 4 .av))) (eC cs m s))=Sn.map λs=>vB (b4 s) (eC cs m s):=by rfl'
theorem Zu:LA.map (λm=>((if b2 (bU m)then[lO]else[])++((if b3 (bU m)then[wN]else[])++if b4 (bU m)then[z7]else[])))=LA.map dR:=by rfl'
end
section
variable{j:Cell}{u:aA}{d:ak}
theorem Gi(h:ev (NV cl) 298 (.t t) (eC (KA j (FD k) u) m s)=vB b (eC (KA j (FD k) u) m s))(c:k.length<=1000):ev (NV cl) 299 (.s (.iff t [.dF (.l 1) (.cS w) (.cT D1)] [])) (eC (KA j (FD k) u) m s)=.ok .ay (eC (KA j (FD (fM (if b then[w]else[]) k)) u) m s):=by have a:=ew (x:=[.dF (.l 1) (.cS w) (.cT D1)]) (y:=[]) h;cases b with|true=>exact a.trans ((aB (Aq rfl rfl c)).trans rfl)|false=>exact a.trans rfl
theorem tQ:∀{W ks:ai (ai ak)},(fM W ks).length<=W.length+ks.length:=by
 have k:∀{ks:ai (ai ak)}{w:ai ak},(eV w ks).length<=ks.length+1:=by intro ks w;induction ks with|nil=>exact ir _|cons a r i=>
  unfold eV
  split
  .exact tm _
  .refine aa hS (aa hS ?_);exact asn ‹_›
 intro W;induction W with|nil=>intro ks;show ks.length<=0+ks.length;exact ajx _ _|cons w W i=>intro ks;have h:=i (ks:=eV w ks);have b:=k (ks:=ks) (w:=w);show(fM W (eV w ks)).length<=_;refine aa hS ?_;lia
theorem Ce:fM (A++B) k=fM B (fM A k):=List.foldl_append
theorem Hu(h:s∈Sn)(a:k.length<=100):cA (ev (NV cl) 299) (eG.drop 2) (eC (KA j (FD k) u) m s)=.ok (.ret (.sh (il s))) (eC (KA j (FD (fM ((if b2 s then[lO]else[])++((if b3 s then[wN]else[])++if b4 s then[z7]else[])) k)) u) m s):=by have l:(fM (if b2 s then[lO]else[]) k).length<=200:=gY tQ (by split<;>simp<;>lia);have b:(fM (if b3 s then[wN]else[]) (fM (if b2 s then[lO]else[]) k)).length<=300:=gY tQ (by split<;>simp<;>lia);rw[show eG.drop 2=[.iff (nV (eG.getD 2 .av)) [.dF (.l 1) (.cS lO) (.cT D1)] [],.iff (nV (eG.getD 3 .av)) [.dF (.l 1) (.cS wN) (.cT D1)] [],.iff (nV (eG.getD 4 .av)) [.dF (.l 1) (.cS z7) (.cT D1)] [],.ret (.l 2)]from rfl,aB (Gi (cW (Yv cl _ m) s h) q0),aB (Gi (cW (ls3 cl _ m) s h) q0),aB (Gi (cW (Rc cl _ m) s h) q0),Ce,Ce];rfl'
theorem W7(h:m∈LA)(a:bU m∈Sn)(b:k.length<=100):aq (d+6) 154 [il m,.ref 11] (KA j (FD k) u)=.ok (.sh (il (bU m))) (KA j (FD (fM (dR m) k)) u):=by
 have B:cu (NV (aq (d+5))) 154 [il m,.ref 11] (KA j (FD k) u)=fin (cA (ev (NV (aq (d+5))) 299) eG ⟨[.sh (il m),.sh (.ref 11),.ae],KA j (FD k) u⟩):=by rfl'
 refine aa (cN (by rfl)) (aa B (aa (show eG=.g 2 (.l 0)::eG.getD 1 .av::eG.drop 2 from rfl) (aa (aB (by rfl')) (aa (aB (cW (UJ (KA j (FD k) u) d) m h)) (aa (Hu a b) (aD (cW Zu m h) ?_))))));rfl
end
noncomputable def lV:S->ai S|.iff _ a _=>a|_=>[]
abbrev rp:ai S:=lV (eG.getD 1 .av)
noncomputable def LC:ai (ai a0):=[[120,110,45,45,97,98,99,45],[120,110,45,45]]
noncomputable def fJ:ai a0:=[120,110,45,45,57,57]
section
variable(cs:ai Cell)(d:ak)
theorem zp:LC.map (λm=>ev (NV (aq (d+5))) 298 (.t (nV (eG.getD 1 .av))) (eC cs m m))=LC.map λm=>vB D1 (eC cs m m):=by rfl'
theorem DV:LC.map (λm=>ev (NV (aq (d+5))) 297 (.s (rp.getD 0 .av)) (eC cs m m))=LC.map λm=>.ok .ay (eC cs m (bU m)):=by rfl'
theorem lc3:LC.map (λm=>ev (NV (aq (d+5))) 297 (.s (rp.getD 1 .av)) (eC cs m (bU m)))=LC.map λm=>.ok .ay (eC cs m (bU m)):=by rfl'
theorem Vw:LC.map (λm=>ev (NV (aq (d+5))) 296 (.t (nV (rp.getD 2 .av))) (eC cs m (bU m)))=LC.map λm=>vB D1 (eC cs m (bU m)):=by rfl'
theorem lc5:LC.map (λm=>((dR m),(if b2 (bU m)then[lO]else[])++((if b3 (bU m)then[wN]else[])++if b4 (bU m)then[z7]else[])))=LC.map λm=>([xG],[]):=by rfl'
theorem ld1:ev (NV (aq (d+5))) 298 (.t (nV (eG.getD 1 .av))) (eC cs fJ fJ)=vB D1 (eC cs fJ fJ):=by rfl'
theorem ld2:ev (NV (aq (d+5))) 297 (.s (rp.getD 0 .av)) (eC cs fJ fJ)=.ok .ay ⟨[.sh (il fJ),.sh (.ref 11),.sh .none],cs⟩:=by rfl'
theorem UR:ev (NV (aq (d+5))) 296 (.t (nV (rp.getD 1 .av))) ⟨[.sh (il fJ),.sh (.ref 11),.sh .none],cs⟩=vB D1 ⟨[.sh (il fJ),.sh (.ref 11),.sh .none],cs⟩:=by rfl'
end
section
variable{b:Cell}{u:aA}{d:ak}{a:ai (ai ak)}
theorem Vn(h:m∈LC)(i:bU m∈Sn)(j:a.length<=90):aq (d+6) 154 [il m,.ref 11] (KA b (FD a) u)=.ok (.sh (il (bU m))) (KA b (FD (fM (dR m) a)) u):=by
 have B:cu (NV (aq (d+5))) 154 [il m,.ref 11] (KA b (FD a) u)=fin (cA (ev (NV (aq (d+5))) 299) eG ⟨[.sh (il m),.sh (.ref 11),.ae],KA b (FD a) u⟩):=by rfl'
 have w:=db (cW lc5 m h)
 have c:=ew (x:=[.dF (.l 1) (.cS xG) (.cT D1)]) (y:=[]) (cW (Vw (KA b (FD a) u) d) m h)
 rw[eI rfl]at c
 have f:=ew (x:=rp) (y:=[]) (cW (zp (KA b (FD a) u) d) m h);rw[eI rfl]at f;have s:ev (NV (aq (d+5))) 299 (.s (eG.getD 1 .av)) (eC (KA b (FD a) u) m m)=.ok .ay (eC (KA b (FD (eV xG a)) u) m (bU m)):=f.trans ((aB (cW (DV (KA b (FD a) u) d) m h)).trans ((aB (cW (lc3 (KA b (FD a) u) d) m h)).trans ((aB (c.trans ((aB (Aq rfl rfl q0)).trans rfl))).trans rfl)));have k:(eV xG a).length<=100:=gY (tQ (W:=[xG])) (by simp;lia);refine aa (cN (by rfl)) (aa B (aa (show eG=.g 2 (.l 0)::eG.getD 1 .av::eG.drop 2 from rfl) (aa (aB (by rfl')) (aa (aB s) (aa (Hu i k) (aa w.2 (aa w.1 ?_)))))));rfl
theorem abm(i:a.length<=100):aq (d+6) 154 [il fJ,.ref 11] (KA b (FD a) u)=.ok (.sh (il fJ)) (KA b (FD (fM [xY] a)) u):=by
 have B:cu (NV (aq (d+5))) 154 [il fJ,.ref 11] (KA b (FD a) u)=fin (cA (ev (NV (aq (d+5))) 299) eG ⟨[.sh (il fJ),.sh (.ref 11),.ae],KA b (FD a) u⟩):=by rfl'
 have c:=ew (x:=[.dF (.l 1) (.cS xY) (.cT D1),.ret (.l 0)]) (y:=[]) (UR (KA b (FD a) u) d)
 rw[eI rfl]at c
 have f:=ew (x:=rp) (y:=[]) (ld1 (KA b (FD a) u) d)
 rw[eI rfl]at f;have s:ev (NV (aq (d+5))) 297 (.s (rp.getD 1 .av)) ⟨[.sh (il fJ),.sh (.ref 11),.sh .none],KA b (FD a) u⟩=.ok (.ret (.sh (il fJ))) ⟨[.sh (il fJ),.sh (.ref 11),.sh .none],KA b (FD (eV xY a)) u⟩:=c.trans ((aB (Aq rfl rfl q0)).trans (ik (by rfl')));have h:ev (NV (aq (d+5))) 299 (.s (eG.getD 1 .av)) (eC (KA b (FD a) u) fJ fJ)=.ok (.ret (.sh (il fJ))) ⟨[.sh (il fJ),.sh (.ref 11),.sh .none],KA b (FD (eV xY a)) u⟩:=f.trans ((aB (ld2 (KA b (FD a) u) d)).trans (ik s));refine aa (cN (by rfl)) (aa B (aa (show eG=.g 2 (.l 0)::eG.getD 1 .av::eG.drop 2 from rfl) (aa (aB (by rfl')) (aa (ik h) ?_))));rfl
def A9(m:ai a0):aA:=wM m LA||(wM m LC||decide (m=fJ))
theorem acA(h:A9 m=D1)(c:bU m∈Sn)(f:a.length<=90):aq (d+6) 154 [il m,.ref 11] (KA b (FD a) u)=.ok (.sh (il (bU m))) (KA b (FD (fM (dR m) a)) u):=by
 rcases(v! _ _).mp h with h|h
 .exact W7 (Ac h) c (by lia)
 .rcases(v! _ _).mp h with h|h
  .exact Vn (Ac h) c f
  .exact aa (hQ h) (aa (show dR fJ=[xY]by rfl') (aa (show bU fJ=fJ by rfl') (abm (by lia))))
end
def Kd(d:Cell):ai Cell:=[d,k1,k2,O9,k4,k4,k6,k7,k8,k9,wF]
section
variable{u:T->St->R}{t:E}{x y:D}{r w:ai D}{v:Slot}{cap:ai Slot}{cs cs':ai Cell}{c:E}{b:aA}
theorem ES(h:u (.e t) ⟨.sh x::cap,cs⟩=vD y ⟨.sh x::cap,cs'⟩):cm u t (.nm 0) [] (x::r) w ⟨v::cap,cs⟩=cm u t (.nm 0) [] r (w++[y]) ⟨.sh x::cap,cs'⟩:=by show(u (.e t) ⟨.sh x::cap,cs⟩).aT (λy A=>cm u t (.nm 0) [] r (w++[y]) A)=_;exact aa h rfl
theorem YJ(a:u (.t c) ⟨.sh x::cap,cs⟩=vB D1 ⟨.sh x::cap,cs⟩)(h:u (.e t) ⟨.sh x::cap,cs⟩=vD y ⟨.sh x::cap,cs'⟩):cm u t (.nm 0) [c] (x::r) w ⟨v::cap,cs⟩=cm u t (.nm 0) [c] r (w++[y]) ⟨.sh x::cap,cs'⟩:=by show((u (.t c) ⟨.sh x::cap,cs⟩).bindB λb A=>match b with|false=>vB Un A|true=>vB D1 A).bindB (λb A=>match b with|false=>cm u t (.nm 0) [c] r w A|true=>(u (.e t) A).aT λy A=>cm u t (.nm 0) [c] r (w++[y]) A)=_;refine aa a ?_;show(u (.e t) ⟨.sh x::cap,cs⟩).aT (λy A=>cm u t (.nm 0) [c] r (w++[y]) A)=_;exact aa h rfl
theorem Xj(a:u (.t c) ⟨.sh x::cap,cs⟩=vB Un ⟨.sh x::cap,cs⟩):cm u t (.nm 0) [c] (x::r) w ⟨v::cap,cs⟩=cm u t (.nm 0) [c] r w ⟨.sh x::cap,cs⟩:=by show((u (.t c) ⟨.sh x::cap,cs⟩).bindB λb A=>match b with|false=>vB Un A|true=>vB D1 A).bindB (λb A=>match b with|false=>cm u t (.nm 0) [c] r w A|true=>(u (.e t) A).aT λy A=>cm u t (.nm 0) [c] r (w++[y]) A)=_;exact aa a rfl
end
section
variable{N:Env}{n:ak}{a t:E}{F:cO}{C:ai E}{nl caps:ai ak}{A st1 G:St}{d:D}{p l:ai D}{loc cap:ai Slot}
theorem vE(h:ev N n (.e a) A=vD d st1)(b:oE d=Bc p)(f:aM p=D1)(c:mz caps st1.l=Bc (loc,cap))(i:cm (ev N n) t F C p [] ⟨nl.map (λY=>Slot.ae)++cap,st1.cells⟩=.ok (.ds l) G):ev N (n+1) (.x (.comp t F (.ex a) C nl caps)) A=.ok (.o (.o l)) ⟨loc,G.cells⟩:=by show((((ev N n (.e a) A).aT λd A=>rO (oE d) λl=>vL l A).bindL λp A=>bk (aM p) (inScope nl caps A λA=>cm (ev N n) t F C p [] A))).bC=_;refine aa h ?_;show(((rO (oE d) λl=>vL l st1).bindL λp A=>bk (aM p) (inScope nl caps A λA=>cm (ev N n) t F C p [] A))).bC=_;refine aa b ?_;show(bk (aM p) (inScope nl caps st1 λA=>cm (ev N n) t F C p [] A)).bC=_;refine aa f ?_;show(inScope nl caps st1 λA=>cm (ev N n) t F C p [] A).bC=_;show(cY (mz caps st1.l) R.fail _).bC=_;refine aa c ?_;show(jn ((λA=>cm (ev N n) t F C p [] A) ⟨nl.map (λY=>Slot.ae)++cap,st1.cells⟩) R.fail _).bC=_;exact aa (show(λA=>cm (ev N n) t F C p [] A) ⟨nl.map (λY=>Slot.ae)++cap,st1.cells⟩=_ from i) rfl
end
def kR(d:Cell):Prop:=∃l m,d=.bW l m/\l.length<=900
theorem U3(h:kR d):hV 17 d=D1:=by obtain⟨l,m,rfl,_⟩:=h;rfl
theorem Rm:∀(i:ai a0)(m:a0),∃b,qQ i m=Bc b:=by intro i;induction i with|nil=>exactλm=>⟨m,rfl⟩|cons c r d=>intro m;obtain⟨b,a⟩:=d (y7 (m*31+c+1) 1000003);exact⟨b,a⟩
theorem abO:∀{l:ai a0},fV (l.map D.int)=Bc l:=by intro l;induction l with|nil=>rfl|cons a r i=>show(fV (r.map D.int)).map (a::.)=_;exact aa i rfl
theorem aaH(G:ev N n (.ss (nQ.take 1)) ⟨[.sh d,.ae,.ae,.ae],cs⟩=.ok .ay ⟨[j,.o l,.sh (.int m),c],a⟩)(h:fV l=Bc i)(b:qQ i m=Bc f):sS N n [d] cs=.ok (.sh (.ref a.length)) (a++[.bW i f]):=by show jn (ev N n (.ss (nQ.take 1)) ⟨[.sh d,.ae,.ae,.ae],cs⟩) RC.fail _=_;refine aa G ?_;show cY (fV l) RC.fail _=_;refine aa h ?_;show cY (qQ i m) RC.fail _=_;refine aa b ?_;rfl
abbrev Ly(s):=(⟨[.sh (il s),.ae,.ae,.ae],[]⟩:St)
theorem Qk(h:s.length<=63):∃d,kR d/\aq (e+2) 147 [il s] []=.ok (.sh (.ref 0)) [d]:=by
 have Q:∀(l:ai a0)(w:ai D)(v:Slot),cm (ev (NV (aq (e+1))) 297) (.b .Mod (.call 136 [.l 0]) (.cI 1000003)) (.nm 0) [] (l.map .int) w ⟨[v],[]⟩=.ok (.ds (w++(l.map λi=>y7 i 1000003).map .int)) ⟨[match l.getLast? with|some a=>.sh (.int a)|none=>v],[]⟩:=by intro l;induction l with|nil=>intro w v;show _=R.ok (.ds (w++[])) _;rw[lH];rfl|cons i l c=>
  intro w v
  have b:ev (NV (aq (e+1))) 297 (.e (.b .Mod (.call 136 [.l 0]) (.cI 1000003))) ⟨[.sh (.int i)],[]⟩=vD (.int (y7 i 1000003)) ⟨[.sh (.int i)],[]⟩:=by rfl'
  refine aa l6 (aa (ES b) ?_)
  rw[c]
  congr 2
  .simp
  .cases l with|nil=>rfl|cons j l=>congr 1
 have f:nR (il s) VG (Bc 24)=Bc (.o ((s.take 24).map .int)):=by
  show bY (aM (s.map D.int)) (Slot.o (gu (s.map D.int) VG (Bc 24)))=_
  refine aa (fy q0) ?_
  have :gu (s.map D.int) VG (Bc 24)=(s.take 24).map D.int:=by
   unfold gu
   show((s.map D.int).drop 0).take (Fb (s.map D.int).length 24-0)=_
   refine aa ν (aD Z! ?_)
   congr 1;have :Fb (s.map D.int).length 24=min 24 s.length:=(as8 _ 24).trans (by rw[fx]);rw[this,P?,<-List.take_take,Ω]
  rw[this];rfl
 have k:ev (NV (aq (e+1))) 297 (.e (.cU (.l 0) VG (Bc (.cI 24)))) (Ly s)=vD (il (s.take 24)) (Ly s):=by
  have b:ev (NV (aq (e+1))) 297 (.e (.cU (.l 0) VG (Bc (.cI 24)))) (Ly s)=((oS (nR (il s) VG (Bc 24)) (Ly s)).bC).iK λs A=>oD (fz s) A:=by rfl'
  rw[f]at b;exact b
 have m:ev (NV (aq (e+1))) 298 (.x (.comp (.b .Mod (.call 136 [.l 0]) (.cI 1000003)) (.nm 0) (.ex (.cU (.l 0) VG (Bc (.cI 24)))) [] [135] [])) (Ly s)=.ok (.o (.o (((s.take 24).map λi=>y7 i 1000003).map .int))) (Ly s):=vE (nl:=[135]) k rfl (fy (by rw[Gh];exact K!)) rfl (Q (s.take 24) [] .ae)
 obtain⟨p,r⟩:=Rm ((s.take 24).map λi=>y7 i 1000003) 1007
 refine⟨.bW ((s.take 24).map λi=>y7 i 1000003) p,⟨_,_,rfl,by rw[fx,Gh];exact K!⟩,?_⟩
 have G:ev (NV (aq (e+1))) 300 (.ss (nQ.take 1)) (Ly s)=.ok .ay ⟨[.sh (il s),.o (((s.take 24).map λi=>y7 i 1000003).map .int),.sh (.int 1007),.ae],[]⟩:=by show cA (ev (NV (aq (e+1))) 299) [.de [1,2] [.comp (.b .Mod (.call 136 [.l 0]) (.cI 1000003)) (.nm 0) (.ex (.cU (.l 0) VG (Bc (.cI 24)))) [] [135] [],.cI 1007]] _=_;exact(aB (tL (n5 m (n5 (st1:=(Ly s)) (by rfl') rfl)) rfl)).trans rfl
 have B:aq (e+2) 147 [il s] []=sS (NV (aq (e+1))) 300 [il s] []:=by rfl'
 exact B.trans (aaH G abO r)
theorem BH(h:kR i)(b:0<k):∃d j,kR j/\0<=d/\d<k/\aq (e+1) 150 [.ref 0,.int k] (i::rest)=.ok (.sh (.int d)) (j::rest):=by
 obtain⟨l,m,rfl,c⟩:=h
 have f:∀a:a0,fj .Mod a k=Bc (y7 a k):=λa=>by show cY (bY (decide (0<k)) (Slot.sh (.int (y7 a k)))) VG _=_;exact aa (mM b) rfl
 have B:aq (e+1) 150 [.ref 0,.int k] (.bW l m::rest)=uh [.ref 0,.int k] (.bW l m::rest):=by rfl'
 refine aa B ?_;cases l with|cons a l=>rw[hS]at c;refine hY (y7 a k) (.bW l m) ⟨l,m,rfl,aso c⟩ (aqv a b) (ase a b) ((eI (NE (gY c (by decide)))).trans ?_);rw[f];rfl|nil=>refine hY (y7 (b! (y7 (m*4801+97) 1000003) 7) k) (.bW [] (y7 (m*4801+97) 1000003)) ⟨[],_,rfl,oZ _⟩ (aqv _ b) (ase _ b) ?_;show cY (fj .Mod (b! (y7 (m*4801+97) 1000003) 7) k) RC.fail _=_;rw[f];rfl
section
variable(a b:Cell)(d:ak)
theorem aae:aq (d+20) 148 [] [a]=.ok (.sh (.ref 1)) (Kd a):=by rfl'
theorem adJ(t:aA):aq (d+10) 149 [.bool t] (Kd a++[b])=.ok (.sh (.ref 12)) (KA a b t):=by rfl'
end
abbrev DD:E:=.comp (.sub (.sub (.aO 139) (.l 0)) (.cI 5)) (.nm 0) (.ex (.l 0)) [] [21] []
section
variable(cl:ak->ai D->ai Cell->RC)(cs:ai Cell)(d:ak)
theorem aaz:(Sn.filter λs=>!s.isEmpty).map (λs=>aq (d+10) 156 [.list (cj s)] cs)=(Sn.filter λs=>!s.isEmpty).map λs=>.ok (.sh (.bool (ey s))) cs:=by rfl'
theorem HU:Sn.map (λs=>aq (d+10) 158 [il s] cs)=Sn.map λs=>.ok (.sh (il (bR s))) cs:=by rfl'
theorem fki:Sn.map (λs=>ev (NV cl) 297 (.e DD) ⟨[.sh (il s)],cs⟩)=Sn.map λs=>vD (.list (cj s)) ⟨[.sh (il s)],cs⟩:=by rfl'
theorem abh:Sn.all (λs=>(!s.isEmpty)||ey s)=D1:=by rfl'
theorem aeA:Sn.all (λs=>(bR s).isEmpty==s.isEmpty)=D1:=by rfl'
end
theorem RZ:∀{l:ai a0},eqB (il l) (il l)=D1:=by intro l;show mK (l.map D.int) (l.map D.int)=D1;induction l with|nil=>rfl|cons a r i=>show((a==a)&&mK (r.map D.int) (r.map D.int))=D1;refine aa i ?_;rw[fm];rfl
theorem abl:∀{l:ai (ai ak)},mK (ww l) (ww l)=D1:=by intro l;induction l with|nil=>rfl|cons a r i=>show(decide (a=a)&&mK (ww r) (ww r))=D1;exact aa i (aa (mM rfl) rfl)
theorem BE:gX (il l) (il l)=Bc D1:=by show bY (dat 8 (il l)&&dat 8 (il l)) (eqB (il l) (il l))=_;exact aa (show dat 8 (il l)=D1 from xQ) (aa RZ rfl)
theorem IB(h:l.all dQ=D1):gX (.list (ww l)) (.list (ww l))=Bc D1:=by show bY (dat 8 (.list (ww l))&&dat 8 (.list (ww l))) (mK (ww l) (ww l))=_;exact aa (HO h) (aa abl rfl)
section
variable{cl:ak->ai D->ai Cell->RC}{cs:ai Cell}
theorem adI:∀(H:ai (ai a0))(c:ai D)(v:Slot),(∀s∈H,s∈Sn)->∃d,cm (ev (NV cl) 297) DD (.nm 0) [] (H.map il) c ⟨[v],cs⟩=.ok (.ds (c++H.map λs=>.list (cj s))) ⟨[d],cs⟩:=by intro H;induction H with|nil=>intro c v _;exact⟨v,by show _=R.ok (.ds (c++[])) _;rw[lH];rfl⟩|cons s H i=>intro c v h;obtain⟨d,a⟩:=i (c++[.list (cj s)]) (.sh (il s)) λb m=>h b (.tail _ m);refine⟨d,?_⟩;refine aa l6 (aa (ES (cW (fki cl cs) s (h s (.head _)))) (aa a (aa l6 ?_)));simp
abbrev pd:E:=.p (.l 1) [.In] [.u [.cS [82],.cS [65,76],.cS [65,78]]]
def jJ(W:ai D):ai D:=(W.filter pY).map λY=>.int 1
theorem Qx(a:iw tg d st.l=Bc loc)(h:rec (.t c) ⟨loc,st.cells⟩=vB b s):cm rec elt tg [c] (d::r) acc st=(if b then(rec (.e elt) s).aT λy st=>cm rec elt tg [c] r (acc++[y]) st else cm rec elt tg [c] r acc s):=by show rO (iw tg d st.l) _=_;refine aa a ?_;show R.bindB (R.bindB (rec (.t c) ⟨loc,st.cells⟩) _) _=_;refine aa h ?_;cases b<;>rfl
theorem adl:∀(W:ai D)(c:ai D)(v:Slot),(∀w∈W,inD cs w sF=Bc (pY w))->∃d,cm (ev (NV cl) 294) (.cI 1) (.nm 1) [pd] W c ⟨[a,v],cs⟩=.ok (.ds (c++jJ W)) ⟨[a,d],cs⟩:=by intro W;induction W with|nil=>intro c v _;exact⟨v,by show _=R.ok (.ds (c++[])) _;rw[lH];rfl⟩|cons w W i=>intro c v h;have t:ev (NV cl) 294 (.t pd) ⟨[a,.sh w],cs⟩=vB (pY w) ⟨[a,.sh w],cs⟩:=fX (w:=sF) (st1:=⟨[a,.sh w],cs⟩) (by rfl') (by rfl') (h w (.head _));have s:=Qx (elt:=.cI 1) (tg:=.nm 1) (r:=W) (acc:=c) (st:=⟨[a,v],cs⟩) (loc:=[a,.sh w]) rfl t;cases f:pY w with|true=>rw[f]at s;obtain⟨d,b⟩:=i (c++[.int 1]) (.sh w) λa m=>h a (.tail _ m);refine⟨d,s.trans (Hp (b:=cm (ev (NV cl) 294) (.cI 1) (.nm 1) [pd] W (c++[.int 1]) ⟨[a,.sh w],cs⟩) (by rfl') (b.trans ?_))⟩;unfold jJ;rw[pi,f];simp|false=>rw[f]at s;obtain⟨d,b⟩:=i c (.sh w) λa m=>h a (.tail _ m);refine⟨d,s.trans (Hp (b:=cm (ev (NV cl) 294) (.cI 1) (.nm 1) [pd] W c ⟨[a,.sh w],cs⟩) (by rfl') (b.trans ?_))⟩;unfold jJ;rw[pi,f];rfl
theorem Ru(W:ai D):(jJ W).length<=W.length:=by unfold jJ;rw[fx];exact List.length_filter_le _ _
theorem Zi:∀(H:ai (ai a0))(c:ai D)(v w:Slot),(∀s∈H,(cj s).length<=14)->c.length+14*H.length<=1000->∃i d,jR (ev (NV cl) 294) (.cI 1) (.nm 0) (.nm 1) (.l 0) [pd] (H.map λs=>.list (cj s)) c ⟨[v,w],cs⟩=.ok (.ds (c++H.flatMap λs=>jJ (cj s))) ⟨[i,d],cs⟩:=by intro H;induction H with|nil=>intro c v w _ _;exact jY v w (by show _=R.ok (.ds (c++[])) _;rw[lH];rfl)|cons s H j=>
intro c v w h k
rw[hS]at k
have t:=h s (.head _)
obtain⟨d,a⟩:=adl (cj s) c w Ky
have u:=Ru (cj s)
obtain⟨l,p,r⟩:=j (c++jJ (cj s)) (.sh (.list (cj s))) d (λb m=>h b (.tail _ m)) (aa lk (by lia))
refine jY l p ?_
have f:jR (ev (NV cl) 294) (.cI 1) (.nm 0) (.nm 1) (.l 0) [pd] ((s::H).map λs=>.list (cj s)) c ⟨[v,w],cs⟩=bk (aM c&&aM (cj s)) ((cm (ev (NV cl) 294) (.cI 1) (.nm 1) [pd] (cj s) c ⟨[.sh (.list (cj s)),w],cs⟩).bindL λc f=>jR (ev (NV cl) 294) (.cI 1) (.nm 0) (.nm 1) (.l 0) [pd] (H.map λs=>.list (cj s)) c f):=by rfl'
refine aa f (aa (sm q1) (aa (sm q0) (aa a (aa Di ?_))));rw[<-su];exact r
noncomputable abbrev GV:E:=.bj .And [.p (.l 0) [.NotEq] [.a []],.nt (.call 156 [.l 0])]
theorem Hn:dat (n+1) (.list (cj s))=D1:=by show(cj s).all (dat n)=D1;unfold cj ww;refine aa nA (aa SN ?_);exact lg.mpr λc Y=>by show dat n (.str (xA c))=D1;cases n<;>exact Hw c
theorem TY:(cj s).isEmpty=s.isEmpty:=by cases s<;>rfl
theorem Sj:∀(H:ai (ai a0))(f:ai D)(v:Slot),(∀s∈H,s∈Sn)->∃i,cm (ev (NV (aq (d+10))) 292) (.l 0) (.nm 0) [GV] (H.map λs=>.list (cj s)) f ⟨[v],cs⟩=.ok (.ds (f++(H.filter λs=>!ey s).map λs=>.list (cj s))) ⟨[i],cs⟩:=by intro H;induction H with|nil=>intro f v _;exact⟨v,by show _=R.ok (.ds (f++[])) _;rw[lH];rfl⟩|cons s H j=>
intro f v h
have k:=h s (.head _)
have t:ev (NV (aq (d+10))) 292 (.t GV) ⟨[.sh (.list (cj s))],cs⟩=vB (!ey s) ⟨[.sh (.list (cj s))],cs⟩:=by
 have a:=zB (a:=.p (.l 0) [.NotEq] [.a []]) (b:=.nt (.call 156 [.l 0])) (fX (st1:=⟨[.sh (.list (cj s))],cs⟩) (st2:=⟨[.sh (.list (cj s))],cs⟩) (by rfl') (by rfl') (by show(gX (.list (cj s)) (.list [])).map (!.)=_;refine aa (eq_nil Hn) (aa TY ?_);rfl)) λp=>yM (n:=290) (Gx (N:=NV (aq (d+10))) (n:=288) (ds:=[.list (cj s)]) (st1:=⟨[.sh (.list (cj s))],cs⟩) (by rfl') (cW (aaz cs d) s (List.mem_filter.mpr ⟨k,p⟩)))
 refine aa a ?_
 have :=lg.mp abh s k
 revert this;cases s.isEmpty<;>cases ey s<;>intro h<;>first|rfl|exact no h
refine aa l6 (aa pi ?_);cases l:ey s with|true=>rw[l]at t;obtain⟨i,b⟩:=j f (.sh (.list (cj s))) λc m=>h c (.tail _ m);exact⟨i,(Xj t).trans b⟩|false=>rw[l]at t;obtain⟨i,b⟩:=j (f++[.list (cj s)]) (.sh (.list (cj s))) λc m=>h c (.tail _ m);refine⟨i,(YJ (y:=.list (cj s)) (cs':=cs) t (by rfl')).trans (b.trans ?_)⟩;simp
end
section
variable{N:Env}{n k m:ak}{a:E}{b st1:St}{f:Slot}{d:D}{c:ai Cell}
theorem Fv(h:ev N n (.e a) b=vD d st1)(i:N.kw k m=D1)(j:N.call k [d] st1.cells=.ok f c):ev N (n+1) (.x (.T3 k m a)) b=.ok (.o f) ⟨st1.l,c⟩:=by show((ev N n (.e a) b).aT λd b=>bk (N.kw k m) ((N.call k [d] b.cells).to b.l)).bC=_;refine aa h ?_;show(bk (N.kw k m) ((N.call k [d] st1.cells).to st1.l)).bC=_;exact aa i (aa j rfl)
end
noncomputable def PC:ai (ai a0):=[[97],[49,98],[252],[1488],[1576,1575],[223],[65,45],[],[769,98],[8226],[120,110,45,45,116,100,97],[120,110,45,45,57,57],[120,110,45,45,122,99,97],[120,110,45,45,97,98,99,45],[120,110,45,45],[98,45,97],[1488,49],[65,98],[1488,97],[97,1488],[1488,45,1488],[1488,8226],[1488,49,1632],[1488,1632],[1488,769],[97,769],[97,95],[45,97],[120,110,45,45,110,118,103],[97,98,45,45,99],[97,173,98],[97,769,803]]
theorem aeI(c:0<=d)(f:d<32)(cs:ai Cell):∃a∈PC,jG cs (ld PC) (.int d)=Bc (il a):=by
 obtain⟨k,rfl⟩:=sw c
 have h:k<PC.length:=aa (show PC.length=32 by rfl') (Int.ofNat_lt.mp f)
 refine aF (PC[k]) (pr h) ?_
 have b:jG cs (ld PC) (.int (k:a0))=dP (PC.map il) (k:a0):=by rfl'
 exact aa b (yH (by rw[y8,ma h];rfl) (nB h (aa (show PC.length=32 by rfl') (by decide))))
theorem DK:∀a∈PC,a.length<=8:=by
 have h:PC.all (λa=>qA a.length 8)=D1:=by rfl'
 exactλa m=>mc (lg.mp h a m)
noncomputable abbrev cK(s:D)(a b c d f h i m j k l p:Slot)(cs:ai Cell):St:=⟨[.sh s,.sh (.ref 0),.sh (.ref 1),.sh (.ref 11),.sh (.ref 12),a,b,c,d,f,h,i,m,j,k,l,p],cs⟩
noncomputable abbrev iX(s:D)(F:ai a0)(a:Slot)(cs:ai Cell):St:=cK s (.o (F.map .int)) a .ae .ae .ae .ae .ae .ae .ae .ae .ae .ae cs
abbrev F2:ai S:=[.g 5 (.b .Add (.b .Add (.l 5) (.b .Mult (.a [.cI 46]) (.call 136 [.p (.l 6) [.Gt] [.cI 0]]))) (.sub (.aO 151) (.call 150 [.l 1,.call 7 [.aO 151]])))]
abbrev Sc(l):=(⟨[.sh (il l),.ae,.ae,.ae,.ae,.ae,.ae,.ae,.ae,.ae,.ae,.ae,.ae,.ae,.ae,.ae,.ae],[]⟩:St)
abbrev J!(l)(i):=(⟨[.sh (il l),.sh (.ref 0),.sh (.ref 1),.sh (.ref 11),.ae,.ae,.ae,.ae,.ae,.ae,.ae,.ae,.ae,.ae,.ae,.ae,.ae],Kd i++[FD []]⟩:St)
abbrev J'(l)(i):=(⟨[.sh (il l),.ae,.ae,.ae,.ae,.ae,.ae,.ae,.ae,.ae,.ae,.ae,.ae,.ae,.ae,.ae,.ae],[i]⟩:St)
section
variable{s:D}{u:aA}{d:ak}
abbrev KX(u:aA)(a:Cell):ai Cell:=KA a (FD []) u
theorem LY{x6:Slot}(l:kR f)(H:F.length<=100)(c:ai a0)(m:∀f,ev (NV (aq (d+42))) 293 (.e (.b .Mult (.a [.cI 46]) (.call 136 [.p (.l 6) [.Gt] [.cI 0]]))) (cK s (.sh (il F)) (.sh (.int i)) .ae .ae .ae .ae .ae .ae .ae .ae .ae .ae (KX u f))=vD (il c) (cK s (.sh (il F)) (.sh (.int i)) .ae .ae .ae .ae .ae .ae .ae .ae .ae .ae (KX u f)))(I:c.length<=1):∃a∈PC,∃j,kR j/\ev (NV (aq (d+42))) 298 (.ss F2) (iX s F (.sh (.int i)) (KX u f))=.ok .ay (iX s (F++(c++a)) (.sh (.int i)) (KX u j)):=by
 refine cps λP k=>?_
 obtain⟨p,j,r,t,v,w⟩:=BH (rest:=(KX u f).tail) (k:=32) (e:=d+41) l (by decide)
 obtain⟨a,h,y⟩:=aeI t v (KX u j)
 refine k ?_;clear k P
 have J:=DK a h
 refine⟨a,h,j,r,?_⟩
 have A:dE .Add (il F) (il c)=Bc (.o (F.map .int++c.map .int)):=by show bY (aM (F.map D.int)&&aM (c.map D.int)) (Slot.o (F.map D.int++c.map D.int))=_;exact aa (fy (by lia)) (aa (fy (by lia)) rfl)
 have B:dE .Add (.list (F.map .int++c.map .int)) (il a)=Bc (.o ((F.map .int++c.map .int)++a.map .int)):=by show bY (aM (F.map D.int++c.map D.int)&&aM (a.map D.int)) (Slot.o ((F.map .int++c.map .int)++a.map .int))=_;exact aa (sm (by rw[lk,fx,fx];lia)) (aa (fy (by lia)) rfl)
 have C:ev (NV (aq (d+42))) 295 (.e (.b .Add (.l 5) (.b .Mult (.a [.cI 46]) (.call 136 [.p (.l 6) [.Gt] [.cI 0]])))) (iX s F (.sh (.int i)) (KX u f))=vD (.list (F.map .int++c.map .int)) (cK s (.sh (il F)) (.sh (.int i)) .ae .ae .ae .ae .ae .ae .ae .ae .ae .ae (KX u f)):=by exact aV (n:=294) (ij (n:=293) (v:=il F) (w:=il c) (st1:=cK s (.sh (il F)) (.sh (.int i)) .ae .ae .ae .ae .ae .ae .ae .ae .ae .ae (KX u f)) (st2:=cK s (.sh (il F)) (.sh (.int i)) .ae .ae .ae .ae .ae .ae .ae .ae .ae .ae (KX u f)) (by rfl') (m f) A) rfl
 have G:ev (NV (aq (d+42))) 295 (.e (.sub (.aO 151) (.call 150 [.l 1,.call 7 [.aO 151]]))) (cK s (.sh (il F)) (.sh (.int i)) .ae .ae .ae .ae .ae .ae .ae .ae .ae .ae (KX u f))=vD (il a) (cK s (.sh (il F)) (.sh (.int i)) .ae .ae .ae .ae .ae .ae .ae .ae .ae .ae (KX u j)):=by exact aV (n:=294) (qo (n:=293) (v:=ld PC) (k:=.int p) (w:=il a) (st1:=cK s (.sh (il F)) (.sh (.int i)) .ae .ae .ae .ae .ae .ae .ae .ae .ae .ae (KX u f)) (st2:=cK s (.sh (il F)) (.sh (.int i)) .ae .ae .ae .ae .ae .ae .ae .ae .ae .ae (KX u j)) (by rfl') (aV (n:=292) (x_call (N:=NV (aq (d+42))) (n:=291) (ds:=[.ref 0,.int 32]) (st1:=cK s (.sh (il F)) (.sh (.int i)) .ae .ae .ae .ae .ae .ae .ae .ae .ae .ae (KX u f)) (by rfl') w) rfl) y) rfl
 have b:(F++(c++a)).map D.int=(F.map .int++c.map .int)++a.map .int:=by rw[lZ,lZ,su]
 unfold iX cK;rw[b];exact ssq ((aB (fw (n:=296) (ij (n:=295) C G B))).trans rfl)
abbrev KJ:E:=.b .Mult (.a [.cI 46]) (.call 136 [.p (.l 6) [.Gt] [.cI 0]])
theorem aar:ev (NV (aq (d+42))) 293 (.e KJ) (cK s (.sh (il F)) (.sh (.int 0)) .ae .ae .ae .ae .ae .ae .ae .ae .ae .ae cs)=vD (il []) (cK s (.sh (il F)) (.sh (.int 0)) .ae .ae .ae .ae .ae .ae .ae .ae .ae .ae cs):=by rfl'
theorem R2:ev (NV (aq (d+42))) 293 (.e KJ) (cK s (.sh (il F)) (.sh (.int ((i+1:ak):a0))) .ae .ae .ae .ae .ae .ae .ae .ae .ae .ae cs)=vD (il [46]) (cK s (.sh (il F)) (.sh (.int ((i+1:ak):a0))) .ae .ae .ae .ae .ae .ae .ae .ae .ae .ae cs):=by
 have t:ev (NV (aq (d+42))) 289 (.e (.p (.l 6) [.Gt] [.cI 0])) (cK s (.sh (il F)) (.sh (.int ((i+1:ak):a0))) .ae .ae .ae .ae .ae .ae .ae .ae .ae .ae cs)=vD (.bool (decide ((0:a0)<((i+1:ak):a0)))) (cK s (.sh (il F)) (.sh (.int ((i+1:ak):a0))) .ae .ae .ae .ae .ae .ae .ae .ae .ae .ae cs):=by rfl'
 rw[mM (by lia)]at t;exact aV (n:=292) (ij (n:=291) (v:=il [46]) (w:=.int 1) (sl:=.o ([46].map D.int)) (st1:=cK s (.sh (il F)) (.sh (.int ((i+1:ak):a0))) .ae .ae .ae .ae .ae .ae .ae .ae .ae .ae cs) (by rfl') (aV (n:=290) (x_call (N:=NV (aq (d+42))) (n:=289) (ds:=[.bool D1]) (st1:=cK s (.sh (il F)) (.sh (.int ((i+1:ak):a0))) .ae .ae .ae .ae .ae .ae .ae .ae .ae .ae cs) (gw t rfl) (cs':=cs) (sl:=.sh (.int 1)) (by rfl')) rfl) (by rfl')) rfl
theorem Yh:∀(k i:ak)(F:ai a0)(c:Slot)(f:Cell),kR f->F.length+9*k<=100->∃r y j,(∀a∈r,a∈PC)/\r.length=k/\kR j/\bQ (ev (NV (aq (d+42))) 298) (.nm 6) F2 (gI k ((i+1:ak):a0)) (iX s F c (KX u f))=.ok .ay (iX s (F++j1 r) y (KX u j)):=by intro k;induction k with|zero=>exactλi F c f h Y=>qj ([]) c f nM rfl h (by rw[show j1 []=[]from rfl,lH];rfl)|succ k t=>
intro i F c f h I
refine cps λP l=>?_
obtain⟨a,p,v,w,A⟩:=LY (s:=s) (u:=u) (d:=d) (F:=F) (i:=((i+1:ak):a0)) (x6:=c) h (by lia) [46] (λY=>R2) (by decide)
refine l ?_;clear l P
have J:=DK a p
obtain⟨r,y,j,B,C,G,H⟩:=t (i+1) (F++([46]++a)) (.sh (.int ((i+1:ak):a0))) v w (by simp;lia)
refine qj (a::r) y j (λb m=>?_) (aa hS (aa C rfl)) G ?_
.rcases hZ.mp m with rfl|m
 .exact p
 .exact B b m
.rw[show F++j1 (a::r)=F++([46]++a)++j1 r by rw[jx];simp,<-H];exact iy rfl A
theorem Vy:gD=.de [1,2,3] [.call 147 [.l 0],.call 148 [],.i7 [] []]::gD.getD 1 .av::.g 5 (.a [])::gD.getD 3 .av::gD.drop 4:=by rfl'
theorem Zw(d:ak)(i:Cell):aq (d+42) 148 [] [i]=.ok (.sh (.ref 1)) (Kd i):=aae i (d+22)
theorem ZM(d:ak)(a:Cell)(t:aA):aq (d+42) 149 [.bool t] (Kd a++[FD []])=.ok (.sh (.ref 12)) (KX t a):=adJ a (FD []) (d+32) t
theorem fO(h:aq e k ds cs=r):(NV (aq e)).call k ds (⟨l,cs⟩:St).cells=r:=h
theorem Si(A:l.length<=63):∃u p r y v,p∈PC/\(∀a∈r,a∈PC)/\r.length<=2/\kR v/\cA (ev (NV (aq (d+42))) 299) gD (Sc l)=cA (ev (NV (aq (d+42))) 299) (gD.drop 4) (iX (il l) (p++j1 r) y (KX u v)):=by
 refine cps λP k=>?_
 obtain⟨i,j,B⟩:=Qk (e:=d+40) A
 obtain⟨f,h,C,h0,h1,F⟩:=BH (rest:=(Kd i++[FD []]).tail) (k:=4) (e:=d+41) j (by decide)
 refine k ?_;clear k P
 have G:ev (NV (aq (d+42))) 299 (.s (.de [1,2,3] [.call 147 [.l 0],.call 148 [],.i7 [] []])) (Sc l)=.ok .ay (J! l i):=by
  have H:ev (NV (aq (d+42))) 298 (.x (.call 147 [.l 0])) (Sc l)=.ok (.o (.sh (.ref 0))) (J' l i):=x_call (N:=NV (aq (d+42))) (n:=297) (args:=[.l 0]) (ds:=[il l]) (st1:=(Sc l)) (by rfl') (fO B)
  have I:ev (NV (aq (d+42))) 298 (.x (.call 148 [])) (J' l i)=.ok (.o (.sh (.ref 1))) ⟨[.sh (il l),.ae,.ae,.ae,.ae,.ae,.ae,.ae,.ae,.ae,.ae,.ae,.ae,.ae,.ae,.ae,.ae],Kd i⟩:=x_call (N:=NV (aq (d+42))) (n:=297) (args:=[]) (ds:=[]) (st1:=(J' l i)) (by rfl') (fO (Zw d i))
  have K:ev (NV (aq (d+42))) 298 (.x (.i7 [] [])) ⟨[.sh (il l),.ae,.ae,.ae,.ae,.ae,.ae,.ae,.ae,.ae,.ae,.ae,.ae,.ae,.ae,.ae,.ae],Kd i⟩=.ok (.o (.sh (.ref 11))) ⟨[.sh (il l),.ae,.ae,.ae,.ae,.ae,.ae,.ae,.ae,.ae,.ae,.ae,.ae,.ae,.ae,.ae,.ae],Kd i++[FD []]⟩:=by rfl'
  exact tL (n:=298) (is:=[1,2,3]) (ss:=[.sh (.ref 0),.sh (.ref 1),.sh (.ref 11)]) (st1:=⟨[.sh (il l),.ae,.ae,.ae,.ae,.ae,.ae,.ae,.ae,.ae,.ae,.ae,.ae,.ae,.ae,.ae,.ae],Kd i++[FD []]⟩) (loc:=[.sh (il l),.sh (.ref 0),.sh (.ref 1),.sh (.ref 11),.ae,.ae,.ae,.ae,.ae,.ae,.ae,.ae,.ae,.ae,.ae,.ae,.ae]) (n5 H (n5 I (n5 K rfl))) rfl
 have L:ev (NV (aq (d+42))) 299 (.s (gD.getD 1 .av)) (J! l i)=.ok .ay ⟨[.sh (il l),.sh (.ref 0),.sh (.ref 1),.sh (.ref 11),.sh (.ref 12),.ae,.ae,.ae,.ae,.ae,.ae,.ae,.ae,.ae,.ae,.ae,.ae],KX (f==3) h⟩:=fw (n:=298) (Fv (N:=NV (aq (d+42))) (n:=297) (k:=149) (m:=73) (d:=.bool (f==3)) (a:=.p (.call 150 [.l 1,.cI 4]) [.Eq] [.cI 3]) (st1:=⟨[.sh (il l),.sh (.ref 0),.sh (.ref 1),.sh (.ref 11),.ae,.ae,.ae,.ae,.ae,.ae,.ae,.ae,.ae,.ae,.ae,.ae,.ae],Kd h++[FD []]⟩) (aV (n:=296) (uJ (n:=295) (v:=.int f) (w:=.int 3) (st1:=⟨[.sh (il l),.sh (.ref 0),.sh (.ref 1),.sh (.ref 11),.ae,.ae,.ae,.ae,.ae,.ae,.ae,.ae,.ae,.ae,.ae,.ae,.ae],Kd h++[FD []]⟩) (aV (n:=294) (x_call (N:=NV (aq (d+42))) (n:=293) (ds:=[.ref 0,.int 4]) (st1:=(J! l i)) (by rfl') F) rfl) (by rfl') (by rfl')) rfl) (by rfl') (fO (ZM d h (f==3))))
 refine cps λP k=>?_
 obtain⟨b,V,t,M,g1,N⟩:=BH (rest:=(KX (f==3) h).tail) (k:=3) (e:=d+41) C (by decide)
 refine k ?_;clear k P
 obtain⟨m,rfl⟩:=sw M
 refine cps λP k=>?_
 obtain⟨a,w,O,Q,U⟩:=LY (s:=il l) (u:=f==3) (d:=d) (F:=[]) (i:=0) (x6:=.ae) t (by decide) [] (λY=>aar) (by decide)
 have ql:=DK a w
 obtain⟨r,y,J,W,hk,X,Z⟩:=Yh (s:=il l) (u:=f==3) (d:=d) m 0 a (.sh (.int 0)) O Q (by lia)
 refine k ?_;clear k P
 refine⟨f==3,a,r,y,J,w,W,?_,X,?_⟩
 lia
 have c:dE .Add (.int 1) (.int (m:a0))=Bc (.sh (.int ((m+1:ak):a0))):=by show Bc (Slot.sh (.int (1+(m:a0))))=_;rw[show(1+(m:a0))=((m+1:ak):a0)by lia]
 have s3:ev (NV (aq (d+42))) 299 (.s (gD.getD 3 .av)) (iX (il l) [] .ae (KX (f==3) h))=.ok .ay (iX (il l) (a++j1 r) y (KX (f==3) J)):=O3 (n:=298) (m:=m+1) (tg:=.nm 6) (bd:=F2) (b:=.b .Add (.cI 1) (.call 150 [.l 1,.cI 3])) (st1:=iX (il l) [] .ae (KX (f==3) V)) (aV (n:=297) (ij (n:=296) (v:=.int 1) (w:=.int (m:a0)) (st1:=iX (il l) [] .ae (KX (f==3) h)) (by rfl') (aV (n:=295) (x_call (N:=NV (aq (d+42))) (n:=294) (ds:=[.ref 0,.int 3]) (st1:=iX (il l) [] .ae (KX (f==3) h)) (by rfl') N) rfl) c) rfl) (by lia) (Eq.trans (iy rfl U) Z);rw[Vy,aB G,aB L,aB (st1:=iX (il l) [] .ae (KX (f==3) h)) (by rfl'),aB s3];rfl
end
def pcB(u:aA)(a:ai a0):aA:=Ai u a&&((a.all λc=>decide (c∈Sr))&&(((aY u a).all λc=>decide (c∈Sr))&&(decide (pass (aY u a)=md u a)&&(decide (pass (md u a)=md u a)&&A9 (md u a)))))
theorem Zh(u:aA):PC.all (pcB u)=D1:=by cases u<;>rfl'
structure xB(u:aA)(q:ai a0):Prop where
pg:PG u q
sr:∀c∈q,c∈Sr
sm:∀c∈aY u q,c∈Sr
p1:pass (aY u q)=md u q
p2:pass (md u q)=md u q
raw:A9 (md u q)=D1
theorem PO(h:q∈PC):xB u q:=by obtain⟨a,h⟩:=iA (lg.mp (Zh u) q h);obtain⟨b,h⟩:=iA h;obtain⟨d,h⟩:=iA h;obtain⟨f,h⟩:=iA h;obtain⟨i,j⟩:=iA h;exact⟨Mu a,λc m=>hQ (lg.mp b c m),λc m=>hQ (lg.mp d c m),hQ f,hQ i,j⟩
theorem Ja(h:∀a∈p::r,∀c∈a,c∈Sr):∀c∈p++j1 r,c∈Sr:=λc m=>by
 rcases nG.mp m with m|m
 .exact h p (.head _) c m
 .obtain⟨a,b,m⟩:=List.mem_flatMap.mp m
  rcases hZ.mp m with rfl|m
  .exact hQ (by rfl')
  .exact h a (.tail _ b) c m
section
variable{u:aA}{d:ak}{p:ai a0}{r:ai (ai a0)}{dk:Cell}
theorem Qu:cD u (p++j1 r)=(p::r).any (cD u):=by show(p++j1 r).any (λc=>(mp u c).isNone)=_;rw[IN,NB (by rw[GL];rfl)];rfl
theorem zQ:oL (aY u (p++j1 r))=md u p++j1 (r.map (md u)):=by rw[tC,vR,Ia,nA];rfl
theorem ace(j:∀a∈p::r,xB u a)(s:r.length<=3):aq (d+42) 152 [il (p++j1 r),.bool u,.ref 11] (KA dk (FD []) u)=.ok (.sh (il (oL (aY u (p++j1 r))))) (KA dk (FD (dl ((p::r).any (cD u)))) u):=by
 have t:aY u (p++j1 r)=aY u p++j1 (r.map (aY u)):=by rw[tC,vR]
 have v:∀a∈aY u p::r.map (aY u),∃b∈p::r,a=aY u b:=λa m=>by obtain⟨b,k,c⟩:=List.mem_map.mp (show a∈(p::r).map (aY u)from m);exact⟨b,k,c.symm⟩
 have w:∀{f i:ai a0->ai a0}{l:ai (ai a0)},(∀b∈l,f b=i b)->l.map f=l.map i:=λh=>C' h
 rw[cN (by rfl),T9 (Ja λa m=>(j a m).sr) (gY (n7 λa m=>(j a m).pg.lp) (pU s (ir _))),Qu]
 .rw[zQ,tC,vR,Ko,(j p (.head _)).p1,nA];congr 2;exact w λb m=>(j b (.tail _ m)).p1
 .rw[zQ,Ko,(j p (.head _)).p2,nA]
  congr 2;exact w λb m=>(j b (.tail _ m)).p2
 .rw[t];exact Ja λa m=>by obtain⟨b,k,rfl⟩:=v a m;exact(j b k).sm
 .rw[t];refine gY (n7 λa m=>by obtain⟨b,k,rfl⟩:=v a m;exact(j b k).pg.lm) ?_;rw[fx];exact gY (pU s (ir _)) (by decide)
end
section
variable{cl:ak->ai D->ai Cell->RC}{cs:ai Cell}{s:D}{x5 x6 x7:Slot}
abbrev spS(s:D)(x5 x6 x7:Slot)(A:ai (ai a0))(a:ai a0)(b:Slot)(cs:ai Cell):St:=cK s x5 x6 x7 (.bS (A.map th++[a.map D.int])) b .ae .ae .ae .ae .ae .ae .ae cs
abbrev Kz:ai S:=[.iff (.p (.l 9) [.Eq] [.cI 46]) [.app 8 (.a [])] [.mX 8 9]]
theorem Qw{T:ai (ai a0)}:∀(l:ai a0)(A:ai (ai a0))(a:ai a0)(h:Slot),A.length+a.length+l.length<=1000->A++jh a l=T->∃B b y,B++[b]=T/\bQ (ev (NV cl) 298) (.nm 9) Kz (l.map .int) (spS s x5 x6 x7 A a h cs)=.ok .ay (spS s x5 x6 x7 B b y cs):=by intro l;induction l with|nil=>exactλA a h Y d=>⟨A,a,h,d,rfl⟩|cons c l m=>
intro A a h r d
rw[hS]at r
rw[xS]at d
have t:ev (NV cl) 296 (.t (.p (.l 9) [.Eq] [.cI 46])) (spS s x5 x6 x7 A a (.sh (.int c)) cs)=vB (c==46) (spS s x5 x6 x7 A a (.sh (.int c)) cs):=by rfl'
have f:=ew (x:=[.app 8 (.a [])]) (y:=[.mX 8 9]) t
by_cases p:(c==46)=D1
.rw[eI p]at f d
 obtain⟨B,b,y,i,j⟩:=m (A++[a]) [] (.sh (.int c)) (by simp;exact XF) (by rw[su];exact d)
 refine⟨B,b,y,i,?_⟩
 have k:=IX (N:=NV cl) (n:=294) (i:=8) (a:=.a []) (st:=spS s x5 x6 x7 A a (.sh (.int c)) cs) (st1:=spS s x5 x6 x7 A a (.sh (.int c)) cs) (m:=[]) rfl (by rfl') rfl (sm (by simp;exact aec))
 rw[<-j]
 refine iy rfl ((aB (f.trans ((aB k).trans ?_))).trans rfl)
 unfold spS cK;rw[lZ];rfl
.rw[ej p]at f d;obtain⟨B,b,y,i,j⟩:=m A (a++[c]) (.sh (.int c)) (by simp;exact adF) d;refine⟨B,b,y,i,?_⟩;have k:=yT (N:=NV cl) (n:=294) (i:=8) (j:=9) (st:=spS s x5 x6 x7 A a (.sh (.int c)) cs) rfl rfl (fy Zo);rw[<-j];refine iy rfl ((aB (f.trans ((aB k).trans ?_))).trans rfl);unfold spS cK;rw[lZ];rfl
theorem Zb:∀(f:ai (ai a0))(k:ai (ai ak))(c:ai D)(v:Slot),(∀m∈f,A9 m=D1/\bU m∈Sn)->k.length+f.length<=80->∃i,cm (ev (NV (aq (d+6))) 297) (.call 154 [.l 0,.l 1]) (.nm 0) [] (f.map il) c ⟨[v,.sh (.ref 11)],KA dk (FD k) u⟩=.ok (.ds (c++(f.map bU).map il)) ⟨[i,.sh (.ref 11)],KA dk (FD (fM (f.flatMap dR) k)) u⟩:=by intro f;induction f with|nil=>intro k c v _ _;exact⟨v,by show _=R.ok (.ds (c++[])) _;rw[lH];rfl⟩|cons m f j=>intro k c v h l;rw[hS]at l;obtain⟨p,r⟩:=h m (.head _);have t:ev (NV (aq (d+6))) 297 (.e (.call 154 [.l 0,.l 1])) ⟨[.sh (il m),.sh (.ref 11)],KA dk (FD k) u⟩=vD (il (bU m)) ⟨[.sh (il m),.sh (.ref 11)],KA dk (FD (fM (dR m) k)) u⟩:=aV (x_call (by rfl') (fO (acA p r q1))) rfl;have w:=tQ (W:=dR m) (ks:=k);have A:=(vX m).2;obtain⟨i,a⟩:=j (fM (dR m) k) (c++[il (bU m)]) (.sh (il m)) (λb y=>h b (.tail _ y)) (by lia);refine⟨i,?_⟩;rw[l6,ES t,a,Di,Ce];simp
end
section
variable{N:Env}{n:ak}{a f:E}{k t:cO}{y:E}{j:ai E}{nl caps:ai ak}{i st1 A:St}{items l:ai D}{loc cap:ai Slot}
theorem Ef(h:ev N n (.e a) i=vD (.list items) st1)(b:mz caps st1.l=Bc (loc,cap))(c:jR (ev N n) f k t y j items [] ⟨nl.map (λY=>Slot.ae)++cap,st1.cells⟩=.ok (.ds l) A):ev N (n+1) (.x (.sD f k a t y j nl caps)) i=.ok (.o (.o l)) ⟨loc,A.cells⟩:=by show((ev N n (.e a) i).aT λv i=>rL v λitems=>inScope nl caps i λi=>jR (ev N n) f k t y j items [] i).bC=_;refine aa h ?_;show(inScope nl caps st1 λi=>jR (ev N n) f k t y j items [] i).bC=_;show(cY (mz caps st1.l) R.fail _).bC=_;refine aa b ?_;show(jn ((λi=>jR (ev N n) f k t y j items [] i) ⟨nl.map (λY=>Slot.ae)++cap,st1.cells⟩) R.fail _).bC=_;exact aa (show(λi=>jR (ev N n) f k t y j items [] i) ⟨nl.map (λY=>Slot.ae)++cap,st1.cells⟩=_ from c) rfl
end
noncomputable abbrev Hy:S:=.de [7,8] [.call 152 [.l 5,.bw (.l 4) 73,.l 3],.nest]
abbrev NF:S:=.bA (.nm 9) (.ex (.l 7)) Kz
noncomputable abbrev JC:S:=.g 10 (.comp (.call 154 [.l 0,.l 1]) (.nm 0) (.ex (.l 8)) [] [153] [3])
abbrev Mt:S:=.g 11 (.comp DD (.nm 0) (.ex (.l 10)) [] [153] [])
abbrev PK:E:=.p (.sD (.cI 1) (.nm 0) (.l 11) (.nm 1) (.l 0) [pd] [155,141] []) [.NotEq] [.a []]
abbrev GO:E:=.p (.comp (.l 0) (.nm 0) (.ex (.l 11)) [GV] [155] []) [.NotEq] [.a []]
abbrev NX:S:=.iff PK [.iff GO [.dF (.l 3) (.cS jr) (.cT D1)] []] []
theorem aag:gD.drop 4=Hy::NF::JC::Mt::NX::gD.drop 9:=by rfl'
abbrev kk(H:ai (ai a0)):ai D:=H.map λs=>.list (cj s)
def eR(u:aA)(p:ai (ai a0)):ai (ai ak):=fM ((p.map (md u)).flatMap dR) (dl (p.any (cD u)))
def fC(u:aA)(p:ai (ai a0)):ai (ai ak):=if ky (aK u p)&&(aK u p).any (λs=>!ey s)then eV jr (eR u p)else eR u p
theorem Z5:(H.flatMap λs=>jJ (cj s)).isEmpty=!ky H:=by induction H with|nil=>rfl|cons s H i=>
have c:ky (s::H)=(rZ s||ky H):=rfl
have d:(jJ (cj s)).isEmpty=!rZ s:=by unfold jJ rZ;refine aa Ψ ?_;induction cj s with|nil=>rfl|cons w W i=>refine aa pi (aa qE ?_);cases pY w with|true=>rfl|false=>exact i
refine aa Di ?_;rw[show∀a b:ai D,(a++b).isEmpty=(a.isEmpty&&b.isEmpty)fromλa b=>by cases a<;>rfl,i,d,c,Bool.not_or]
theorem VO{H:ai (ai a0)}:dat 8 (.list (H.flatMap λs=>jJ (cj s)))=D1:=by show(H.flatMap λs=>jJ (cj s)).all (dat 7)=D1;refine lg.mpr λa m=>?_;obtain⟨s,_,m⟩:=List.mem_flatMap.mp m;obtain⟨w,_,rfl⟩:=List.mem_map.mp m;rfl
theorem H8(h:ps.length<=4):(eR u ps).length<=5:=by
 have a:=tQ (W:=(ps.map (md u)).flatMap dR) (ks:=dl (ps.any (cD u)))
 have b:=Au (λd=>(vX d).2) (ps.map (md u))
 rw[fx]at b
 have c:(dl (ps.any (cD u))).length<=1:=by unfold dl;split<;>simp
 show(fM _ _).length<=5;lia
section
variable{u:aA}{d:ak}{p:ai a0}{r:ai (ai a0)}{dk:Cell}{s:D}{y6:Slot}
theorem Yy:(cj x).length=x.length:=by show((x.map xA).map D.str).length=_;rw[fx,fx]
abbrev s7(u)(p)(r):=(.sh (il (oL (aY u (p++j1 r)))):Slot)
abbrev kU(s:D)(p:ai a0)(r:ai (ai a0))(u:aA)(y6 y a:Slot)(cs:ai Cell):St:=cK s (.sh (il (p++j1 r))) y6 (s7 u p r) (.sh (ld ((p::r).map (md u)))) y (.sh (ld (aK u (p::r)))) a .ae .ae .ae .ae .ae cs
abbrev Dk(dk)(p)(r)(u):=KA dk (FD (dl ((p::r).any (cD u)))) u
abbrev B2(u)(p)(r):=(.sh (.list (kk (aK u (p::r)))):Slot)
theorem adP(j:∀a∈p::r,xB u a)(X:r.length<=2):∃y,cA (ev (NV (aq (d+42))) 299) (gD.drop 4) (iX s (p++j1 r) y6 (KX u dk))=cA (ev (NV (aq (d+42))) 299) (gD.drop 9) (cK s (.sh (il (p++j1 r))) y6 (s7 u p r) (.sh (ld ((p::r).map (md u)))) y (.sh (ld (aK u (p::r)))) (B2 u p r) .ae .ae .ae .ae .ae (KA dk (FD (fC u (p::r))) u)):=by
 have l:∀a∈p::r,PG u a:=λa m=>(j a m).pg
 have k:=rh l
 have hH:(aK u (p::r)).length<=3:=by unfold aK;rw[fx,fx,hS];lia
 have v:ev (NV (aq (d+42))) 299 (.s Hy) (iX s (p++j1 r) y6 (KX u dk))=.ok .ay (cK s (.sh (il (p++j1 r))) y6 (s7 u p r) (.bS [[]]) .ae .ae .ae .ae .ae .ae .ae .ae (Dk dk p r u)):=by have w:ev (NV (aq (d+42))) 298 (.x (.call 152 [.l 5,.bw (.l 4) 73,.l 3])) (iX s (p++j1 r) y6 (KX u dk))=.ok (.o (s7 u p r)) (cK s (.sh (il (p++j1 r))) y6 .ae .ae .ae .ae .ae .ae .ae .ae .ae .ae (Dk dk p r u)):=x_call (N:=NV (aq (d+42))) (n:=297) (ds:=[il (p++j1 r),.bool u,.ref 11]) (st1:=cK s (.sh (il (p++j1 r))) y6 .ae .ae .ae .ae .ae .ae .ae .ae .ae .ae (KX u dk)) (by rfl') (fO (ace j (by lia)));exact tL (n:=298) (is:=[7,8]) (ss:=[.sh (il (oL (aY u (p++j1 r)))),.bS [[]]]) (st1:=cK s (.sh (il (p++j1 r))) y6 .ae .ae .ae .ae .ae .ae .ae .ae .ae .ae (Dk dk p r u)) (n5 w (n5 (sl:=.bS [[]]) (st1:=cK s (.sh (il (p++j1 r))) y6 .ae .ae .ae .ae .ae .ae .ae .ae .ae .ae (Dk dk p r u)) (by rfl') rfl)) rfl
 have A:jh [] (oL (aY u (p++j1 r)))=(p::r).map (md u):=by
  rw[zQ,Ip]
  .rfl
  .intro a m
   obtain⟨c,h,rfl⟩:=List.mem_map.mp (show a∈(p::r).map (md u)from m);exact(l c h).no
 have lm:(oL (aY u (p++j1 r))).length<=400:=by
  rw[zQ]
  refine gY (n7 (m:=14) λa m=>?_) ?_
  .obtain⟨c,h,rfl⟩:=List.mem_map.mp (show a∈(p::r).map (md u)from m)
   show(gi wt bM [] (aY u c)).length<=14;rw[A8 zT,CM,Mn];exact(l c h).lm
  .rw[fx];exact gY (pU (by lia) (ir _)) (by decide)
 obtain⟨B,b,y,C,F⟩:=Qw (cl:=aq (d+42)) (cs:=KA dk (FD (dl ((p::r).any (cD u)))) u) (s:=s) (x5:=.sh (il (p++j1 r))) (x6:=y6) (x7:=.sh (il (oL (aY u (p++j1 r))))) (T:=(p::r).map (md u)) (oL (aY u (p++j1 r))) [] [] .ae (by simp;lia) (by rw[AS];exact A)
 have G:ev (NV (aq (d+42))) 299 (.s NF) (cK s (.sh (il (p++j1 r))) y6 (s7 u p r) (.bS [[]]) .ae .ae .ae .ae .ae .ae .ae .ae (Dk dk p r u))=.ok .ay (spS s (.sh (il (p++j1 r))) y6 (s7 u p r) B b y (Dk dk p r u)):=rA (n:=298) (d:=il (oL (aY u (p++j1 r)))) (st1:=cK s (.sh (il (p++j1 r))) y6 (s7 u p r) (.bS [[]]) .ae .ae .ae .ae .ae .ae .ae .ae (Dk dk p r u)) (by rfl') rfl F
 have I:(B.map th++[b.map D.int]).map D.list=((p::r).map (md u)).map il:=by rw[<-C,lZ,nA,lZ];rfl
 obtain⟨v',J⟩:=Zb (u:=u) (dk:=dk) (d:=d+36) ((p::r).map (md u)) (dl ((p::r).any (cD u))) [] .ae (λm f=>by obtain⟨c,h,rfl⟩:=List.mem_map.mp f;exact⟨(j c h).raw,(l c h).sn⟩) (by rw[fx,hS];unfold dl;split<;>simp<;>lia)
 have K:ev (NV (aq (d+42))) 297 (.e (.l 8)) (spS s (.sh (il (p++j1 r))) y6 (s7 u p r) B b y (Dk dk p r u))=vD (ld ((p::r).map (md u))) (cK s (.sh (il (p++j1 r))) y6 (s7 u p r) (.sh (ld ((p::r).map (md u)))) y .ae .ae .ae .ae .ae .ae .ae (Dk dk p r u)):=by
  have a:ev (NV (aq (d+42))) 297 (.e (.l 8)) (spS s (.sh (il (p++j1 r))) y6 (s7 u p r) B b y (Dk dk p r u))=vD (.list ((B.map th++[b.map D.int]).map D.list)) (cK s (.sh (il (p++j1 r))) y6 (s7 u p r) (.sh (.list ((B.map th++[b.map D.int]).map D.list))) y .ae .ae .ae .ae .ae .ae .ae (Dk dk p r u)):=by rfl'
  rw[I]at a;exact a
 have L:ev (NV (aq (d+42))) 299 (.s JC) (spS s (.sh (il (p++j1 r))) y6 (s7 u p r) B b y (Dk dk p r u))=.ok .ay (cK s (.sh (il (p++j1 r))) y6 (s7 u p r) (.sh (ld ((p::r).map (md u)))) y (.o ((aK u (p::r)).map il)) .ae .ae .ae .ae .ae .ae (KA dk (FD (eR u (p::r))) u)):=fw (n:=298) (vE (n:=297) (nl:=[153]) (caps:=[3]) (cap:=[.sh (.ref 11)]) (loc:=(cK s (.sh (il (p++j1 r))) y6 (s7 u p r) (.sh (ld ((p::r).map (md u)))) y .ae .ae .ae .ae .ae .ae .ae []).l) K rfl (sm (by rw[fx,fx,hS];lia)) rfl J)
 obtain⟨v7,Z⟩:=adI (cl:=aq (d+42)) (cs:=KA dk (FD (eR u (p::r))) u) (aK u (p::r)) [] .ae k
 have M:ev (NV (aq (d+42))) 299 (.s Mt) (cK s (.sh (il (p++j1 r))) y6 (s7 u p r) (.sh (ld ((p::r).map (md u)))) y (.o ((aK u (p::r)).map il)) .ae .ae .ae .ae .ae .ae (KA dk (FD (eR u (p::r))) u))=.ok .ay (cK s (.sh (il (p++j1 r))) y6 (s7 u p r) (.sh (ld ((p::r).map (md u)))) y (.sh (ld (aK u (p::r)))) (.o (kk (aK u (p::r)))) .ae .ae .ae .ae .ae (KA dk (FD (eR u (p::r))) u)):=fw (n:=298) (vE (n:=297) (nl:=[153]) (caps:=[]) (cap:=[]) (d:=ld (aK u (p::r))) (st1:=cK s (.sh (il (p++j1 r))) y6 (s7 u p r) (.sh (ld ((p::r).map (md u)))) y (.sh (ld (aK u (p::r)))) .ae .ae .ae .ae .ae .ae (KA dk (FD (eR u (p::r))) u)) (loc:=(cK s (.sh (il (p++j1 r))) y6 (s7 u p r) (.sh (ld ((p::r).map (md u)))) y (.sh (ld (aK u (p::r)))) .ae .ae .ae .ae .ae .ae []).l) (by rfl') rfl (sm (by rw[fx];lia)) rfl Z)
 have N:ev (NV (aq (d+42))) 299 (.s NX) (cK s (.sh (il (p++j1 r))) y6 (s7 u p r) (.sh (ld ((p::r).map (md u)))) y (.sh (ld (aK u (p::r)))) (.o (kk (aK u (p::r)))) .ae .ae .ae .ae .ae (KA dk (FD (eR u (p::r))) u))=.ok .ay (cK s (.sh (il (p++j1 r))) y6 (s7 u p r) (.sh (ld ((p::r).map (md u)))) y (.sh (ld (aK u (p::r)))) (B2 u p r) .ae .ae .ae .ae .ae (KA dk (FD (fC u (p::r))) u)):=by
  have O:∀c∈aK u (p::r),(cj c).length<=14:=λc m=>by rw[Yy];exact(pJ c (k c m)).1
  obtain⟨v8,w8,P⟩:=Zi (cl:=aq (d+42)) (cs:=KA dk (FD (eR u (p::r))) u) (aK u (p::r)) [] .ae .ae O (by simp;lia)
  obtain⟨v9,Q⟩:=Sj (cs:=KA dk (FD (eR u (p::r))) u) (d:=d+32) (aK u (p::r)) [] .ae k
  have U:ev (NV (aq (d+42))) 298 (.t PK) (kU s p r u y6 y (.o (kk (aK u (p::r)))) (KA dk (FD (eR u (p::r))) u))=vB (ky (aK u (p::r))) (kU s p r u y6 y (B2 u p r) (KA dk (FD (eR u (p::r))) u)):=fX (n:=296) (op:=.NotEq) (v:=.list ((aK u (p::r)).flatMap λs=>jJ (cj s))) (w:=.list []) (st1:=kU s p r u y6 y (B2 u p r) (KA dk (FD (eR u (p::r))) u)) (st2:=kU s p r u y6 y (B2 u p r) (KA dk (FD (eR u (p::r))) u)) (aV (n:=295) (Ef (n:=294) (nl:=[155,141]) (caps:=[]) (cap:=[]) (items:=kk (aK u (p::r))) (st1:=kU s p r u y6 y (B2 u p r) (KA dk (FD (eR u (p::r))) u)) (loc:=(kU s p r u y6 y (B2 u p r) []).l) (by rfl') rfl P) rfl) (by rfl') (by show(gX (.list ((aK u (p::r)).flatMap λs=>jJ (cj s))) (.list [])).map (!.)=_;rw[eq_nil VO,Z5];cases ky (aK u (p::r))<;>rfl)
  have a:=ew (N:=NV (aq (d+42))) (n:=298) (x:=[.iff GO [.dF (.l 3) (.cS jr) (.cT D1)] []]) (y:=[]) U
  have V:ev (NV (aq (d+42))) 296 (.t GO) (kU s p r u y6 y (B2 u p r) (KA dk (FD (eR u (p::r))) u))=vB ((aK u (p::r)).any λs=>!ey s) (kU s p r u y6 y (B2 u p r) (KA dk (FD (eR u (p::r))) u)):=fX (n:=294) (op:=.NotEq) (v:=.list (((aK u (p::r)).filter λs=>!ey s).map λs=>.list (cj s))) (w:=.list []) (st1:=kU s p r u y6 y (B2 u p r) (KA dk (FD (eR u (p::r))) u)) (st2:=kU s p r u y6 y (B2 u p r) (KA dk (FD (eR u (p::r))) u)) (aV (n:=293) (vE (n:=292) (nl:=[155]) (caps:=[]) (cap:=[]) (d:=.list (kk (aK u (p::r)))) (st1:=kU s p r u y6 y (B2 u p r) (KA dk (FD (eR u (p::r))) u)) (loc:=(kU s p r u y6 y (B2 u p r) []).l) (by rfl') rfl (sm (by rw[fx];lia)) rfl Q) rfl) (by rfl') (by
show(gX (.list (((aK u (p::r)).filter λs=>!ey s).map λs=>.list (cj s))) (.list [])).map (!.)=_
rw[eq_nil (by show(((aK u (p::r)).filter λs=>!ey s).map λs=>D.list (cj s)).all (dat 7)=D1;rw[SN];exact lg.mpr λc Y=>Hn),Ψ];show Bc (!(((aK u (p::r)).filter λs=>!ey s).isEmpty))=_;refine gO Bc ?_;induction aK u (p::r)with|nil=>rfl|cons c H W=>rw[pi,qE];cases ey c with|true=>exact W|false=>rfl);have i:=ew (N:=NV (aq (d+42))) (n:=296) (x:=[.dF (.l 3) (.cS jr) (.cT D1)]) (y:=[]) V;unfold fC;cases f:ky (aK u (p::r))with|false=>rw[f,ej (by decide)]at a;rw[t',ej (by decide)];exact a.trans rfl|true=>rw[f,eI rfl]at a;rw[q?];cases t:(aK u (p::r)).any λs=>!ey s with|false=>rw[t,ej (by decide)]at i;rw[ej (by decide)];exact a.trans (ssq ((aB (i.trans rfl)).trans rfl))|true=>
  rw[t,eI rfl]at i
  rw[eI rfl]
  have fl:=H8 (u:=u) (ps:=p::r) (by rw[hS];lia);exact a.trans (ssq ((aB (i.trans (ssq ((aB (Aq (n:=291) (i:=3) rfl rfl (by lia))).trans rfl)))).trans rfl))
 refine⟨y,?_⟩;rw[aag,aB v,aB G,aB L,aB M,aB N]
end
theorem vY:∀{ks:ai (ai ak)},x∈eV w ks↔x=w\/x∈ks:=by intro ks;induction ks with|nil=>show x∈[w]↔_;simp|cons a r i=>
unfold eV
by_cases h:a=w
.rw[eI h,hZ,h];exact⟨.inr,λb=>b.elim .inl id⟩
.rw[ej h,hZ,hZ,i];exact⟨λb=>b.elim (λb=>.inr (.inl b)) λb=>b.elim .inl λb=>.inr (.inr b),λb=>b.elim (λb=>.inr (.inl b)) λb=>b.elim .inl λb=>.inr (.inr b)⟩
theorem FF:∀{k:ai (ai ak)},k.Nodup->(eV w k).Nodup:=by intro k;induction k with|nil=>exactλY=>(show[w].Nodup by simp)|cons a r i=>
intro b
unfold eV
by_cases h:a=w
.rw[eI h];exact b
.rw[ej h]
 obtain⟨d,f⟩:=List.nodup_cons.mp b
 refine List.nodup_cons.mpr ⟨λm=>?_,i f⟩
 rcases vY.mp m with c|c
 .exact h c
 .exact d c
theorem KY:∀{W k:ai (ai ak)},x∈fM W k↔x∈W\/x∈k:=by intro W;induction W with|nil=>exactλ{k}=>⟨.inr,λh=>h.elim (λh=>nomatch h) id⟩|cons w W i=>intro k;show x∈fM W (eV w k)↔_;rw[i,vY,hZ];exact⟨λa=>a.elim (λa=>.inl (.inr a)) λa=>a.elim (λa=>.inl (.inl a)) .inr,λa=>a.elim (λa=>a.elim (λa=>.inr (.inl a)) .inl) λa=>.inr (.inr a)⟩
theorem M8:∀{W k:ai (ai ak)},k.Nodup->(fM W k).Nodup:=by intro W;induction W with|nil=>exactλh=>h|cons w W i=>exactλh=>i (FF h)
theorem Jc:∀(r F:ai (ai ak)),(F++r).Pairwise gV->F.Nodup->(iP F r).Pairwise gV/\(iP F r).Nodup/\∀d,d∈iP F r↔d∈F\/d∈r:=by intro r;induction r with|nil=>exactλF h f=>cV (by rw[lH]at h;exact h) f (λd=>⟨.inl,λi=>i.elim id λi=>nomatch i⟩)|cons w r p=>
intro F h f
refine aa AP ?_
by_cases j:F.getLast?=Bc w
.refine aa (eI j) ?_
 have v:w∈F:=No j;obtain⟨a,b,c⟩:=p F (h.sublist (av5 (List.sublist_cons_self _ _) _)) f;exact cV a b (λd=>by rw[c,hZ];exact⟨λi=>i.elim .inl λi=>.inr (.inr i),λi=>i.elim .inl λi=>i.elim (λi=>.inl (aa i v)) .inr⟩)
.refine aa (ej j) ?_
 have A:((F++[w])++r).Pairwise gV:=by rw[su];exact h
 have B:w∉F:=λm=>by have s:=List.pairwise_append.mp h;cases k:F.getLast? with|none=>rw[List.getLast?_eq_none_iff.mp k]at m;cases m|some u=>
  have C:u∈F:=No k
  have G:gV u w:=s.2.2 u C w (.head _)
  have l:gV w u\/w=u:=by
   obtain⟨I,rfl⟩:=List.getLast?_eq_some_iff.mp k
   rcases nG.mp m with m|m
   .exact .inl ((List.pairwise_append.mp s.1).2.2 w m u (.head _))
   .exact .inr (hX.mp m)
  rcases l with l|l
  .exact j (by rw[k,EG G l])
  .exact j (by rw[k,l])
 obtain⟨a,b,c⟩:=p (F++[w]) A (P7.mpr ⟨f,by simp,λd t y H i=>by rw[hX.mp H]at i;rw[i]at t;exact B t⟩);exact cV a b (λd=>by rw[c,nG,hX,hZ];exact⟨λi=>i.elim (λi=>i.elim .inl λi=>.inr (.inl i)) λi=>.inr (.inr i),λi=>i.elim (λi=>.inl (.inl i)) λi=>i.elim (λi=>.inl (.inr i)) .inr⟩)
theorem settle(d:k.Nodup)(h:∀f,f∈W↔f∈k):Zd W=bE k:=by obtain⟨a,b,c⟩:=Jc (bE W) [] (by rw[AS];exact zH W) im;refine apn (λa b Y Y f y=>EG f y) a (zH k) ((List.perm_ext_iff_of_nodup b ((sZ k).nodup_iff.mpr d)).mpr λf=>?_);rw[c,(sZ W).mem_iff,(sZ k).mem_iff,<-h];exact⟨λi=>i.elim (λi=>nomatch i) id,.inr⟩
theorem PB:(dl b).Nodup:=by
 unfold dl
 split
 .simp
 .exact im
theorem CB:(fC u p).Nodup:=by
 unfold fC eR
 split
 .exact FF (M8 PB)
 .exact M8 PB
theorem Ra{H:ai (ai a0)}:x∈H.flatMap (ls ey)↔x=jr/\(H.any λs=>!ey s)=D1:=by induction H with|nil=>show x∈[]↔x=jr/\Un=D1;simp|cons s H i=>refine aa Di ?_;rw[nG,i,qE];unfold ls;cases ey s with|true=>show(x∈[]\/_)↔(x=jr/\(Un||_)=D1);rw[Ij];exact⟨λa=>a.elim (λa=>nomatch a) id,.inr⟩|false=>show(x∈[jr]\/_)↔(x=jr/\(D1||_)=D1);rw[SI,hX];exact⟨λa=>⟨a.elim id λa=>a.1,rfl⟩,λa=>.inl a.1⟩
theorem aeB{G:ai (ai ak)}:x∈(if b=D1 then G else[])↔b=D1/\x∈G:=by cases b with|true=>rw[eI rfl];exact⟨λa=>⟨rfl,a⟩,λa=>a.2⟩|false=>rw[ej (by decide)];exact⟨λa=>(nomatch a),λa=>(nomatch a.1)⟩
theorem FZ(a:ai ak):a∈Wd u p↔a∈fC u p:=by
 have h:a∈Wd u p↔(a∈dl (p.any (cD u))\/a∈(p.map (md u)).flatMap dR)\/(ky (aK u p)=D1/\a=jr/\((aK u p).any λs=>!ey s)=D1):=by rw[<-Ra,<-aeB,<-nG,<-nG];exact WP
 rw[h]
 unfold fC
 have f:a∈eR u p↔a∈dl (p.any (cD u))\/a∈(p.map (md u)).flatMap dR:=by unfold eR;rw[KY];exact⟨λb=>b.elim .inr .inl,λb=>b.elim .inr .inl⟩
 cases c:ky (aK u p)with|false=>rw[t',ej (by decide),f];exact⟨λb=>b.elim id λb=>(nomatch b.1),.inl⟩|true=>rw[q?];cases d:(aK u p).any λs=>!ey s with|false=>refine aa (ej (by decide)) ?_;rw[f];exact⟨λb=>b.elim id λb=>(nomatch b.2.2),.inl⟩|true=>refine aa (eI rfl) ?_;rw[vY,f];exact⟨λb=>b.elim .inr λb=>.inl b.2.1,λb=>b.elim (λb=>.inr ⟨rfl,b,rfl⟩) .inl⟩
theorem NH:Zd (Wd u p)=bE (fC u p):=settle CB FZ
section
variable{N:Env}{n:ak}{a b j:E}{A:cO}{m:ai E}{nl caps:ai ak}{c st1 p:St}{items l:ai D}{loc cap:ai Slot}{q:aA}
theorem UK(h:ev N n (.t a) c=vB Un st1)(d:ev N n (.t b) st1=vB q p):ev N (n+1) (.t (.bj .Or [a,b])) c=vB q p:=by show(ev N n (.t a) c).bindB (λf c=>match f with|true=>vB f c|false=>(ev N n (.t b) c).bindB λf c=>match f with|true=>vB f c|false=>vB Un c)=_;refine aa h ?_;show(ev N n (.t b) st1).bindB (λf c=>match f with|true=>vB f c|false=>vB Un c)=_;refine aa d ?_;cases q<;>rfl
theorem XM(h:ev N n (.e a) c=vD (.list items) st1)(f:aM (jo (λn i=>D.u [.int n,i]) 0 items)=D1)(k:mz caps st1.l=Bc (loc,cap))(q:cm (ev N n) j A m (jo (λn i=>D.u [.int n,i]) 0 items) [] ⟨nl.map (λY=>Slot.ae)++cap,st1.cells⟩=.ok (.ds l) p):ev N (n+1) (.x (.comp j A (.gq a) m nl caps)) c=.ok (.o (.o l)) ⟨loc,p.cells⟩:=by show((((ev N n (.e a) c).aT λd c=>rL d λl=>vL (jo (λn i=>.u [.int n,i]) 0 l) c).bindL λitems c=>bk (aM items) (inScope nl caps c λc=>cm (ev N n) j A m items [] c))).bC=_;refine aa h ?_;show(bk (aM (jo (λn i=>D.u [.int n,i]) 0 items)) (inScope nl caps st1 λc=>cm (ev N n) j A m (jo (λn i=>D.u [.int n,i]) 0 items) [] c)).bC=_;refine aa f ?_;show(inScope nl caps st1 λc=>cm (ev N n) j A m (jo (λn i=>D.u [.int n,i]) 0 items) [] c).bC=_;show(cY (mz caps st1.l) R.fail _).bC=_;refine aa k ?_;show(jn ((λc=>cm (ev N n) j A m (jo (λn i=>D.u [.int n,i]) 0 items) [] c) ⟨nl.map (λY=>Slot.ae)++cap,st1.cells⟩) R.fail _).bC=_;exact aa (show(λc=>cm (ev N n) j A m (jo (λn i=>D.u [.int n,i]) 0 items) [] c) ⟨nl.map (λY=>Slot.ae)++cap,st1.cells⟩=_ from q) rfl
end
theorem Ng{i:ak}{a:D}(h:l[i]?=Bc a)(b:i<100000):dP l (i:a0)=Bc a:=yH h (l? b (by decide))
theorem Jo{a:D}:gu (a::l) (Bc 1) VG=l:=by unfold gu;show((a::l).drop (Fb (a::l).length 1)).take ((a::l).length-Fb (a::l).length 1)=_;rw[show Fb (a::l).length 1=1 from(as8 _ 1).trans (TB (ajx 1 _))];show l.take (l.length+1-1)=l;rw[as9,Ω]
theorem RE:∀{l:ai D}{k:a0},(jo f k l).length=l.length:=by intro l;induction l with|nil=>intro k;rfl|cons a r i=>intro k;show(jo f (k+1) r).length+1=_;rw[i];rfl
noncomputable def kM(k a:a0)(s:ai a0):aA:=s.isEmpty&&((k==0)||decide (k+1<a))
def TH:a0->a0->ai (ai a0)->ai D|_,_,[]=>[]|k,a,s::r=>(if kM k a s then[il s]else[])++TH (k+1) a r
noncomputable def iB:a0->a0->ai (ai a0)->aA|_,_,[]=>Un|k,a,s::r=>kM k a s||iB (k+1) a r
theorem acu:∀{r:ai (ai a0)}{k:a0},(TH k n r).isEmpty=!iB k n r/\dat 8 (.list (TH k n r))=D1:=by intro r;induction r with|nil=>intro k;exact⟨rfl,rfl⟩|cons s r i=>intro k;obtain⟨a,h⟩:=i;show((if kM k n s then[il s]else[])++TH (k+1) n r).isEmpty=!(kM k n s||iB (k+1) n r)/\((if kM k n s then[il s]else[])++TH (k+1) n r).all (dat 7)=D1;cases kM k n s with|true=>exact⟨rfl,aa (eI rfl) (aa Gf (aa (show(TH (k+1) n r).all (dat 7)=D1 from h) (by show(dat 7 (il s)&&D1&&D1)=D1;rw[xQ];rfl)))⟩|false=>exact⟨a,h⟩
abbrev sQ:E:=.bj .And [.p (.l 1) [.Eq] [.a []],.bj .Or [.p (.l 0) [.Eq] [.cI 0],.p (.b .Add (.l 0) (.cI 1)) [.Lt] [.call 7 [.l 2]]]]
section
variable{d:ak}{cs:ai Cell}
theorem ab7(m:H.length<=100):∀(r:ai (ai a0))(k:a0)(c:ai D)(v w:Slot),∃h i,cm (ev (NV (aq (d+42))) 294) (.l 1) (.tp [.nm 0,.nm 1]) [sQ] (rK k r) c ⟨[v,w,.sh (ld H)],cs⟩=.ok (.ds (c++TH k H.length r)) ⟨[h,i,.sh (ld H)],cs⟩:=by intro r;induction r with|nil=>exactλk c v w=>jY v w (by show _=R.ok (.ds (c++[])) _;rw[lH];rfl)|cons s r j=>
intro k c v w
have t:ev (NV (aq (d+42))) 294 (.t sQ) ⟨[.sh (.int k),.sh (il s),.sh (ld H)],cs⟩=vB (kM k H.length s) ⟨[.sh (.int k),.sh (il s),.sh (ld H)],cs⟩:=zB (fX (st1:=⟨[.sh (.int k),.sh (il s),.sh (ld H)],cs⟩) (by rfl') (by rfl') (by
show gX (.list (s.map D.int)) (.list [])=_
refine aa (eq_nil xQ) ?_;cases s<;>rfl)) λY=>zO (by rfl') λY=>fX (v:=.int (k+1)) (st1:=⟨[.sh (.int k),.sh (il s),.sh (ld H)],cs⟩) (by rfl') (aV (x_call (by rfl') (fO ((f7 (l:=H.map il) (by rw[fx];exact q0)).trans (by rw[fx])))) rfl) rfl
have f:cm (ev (NV (aq (d+42))) 294) (.l 1) (.tp [.nm 0,.nm 1]) [sQ] (rK k (s::r)) c ⟨[v,w,.sh (ld H)],cs⟩=((ev (NV (aq (d+42))) 294 (.t sQ) ⟨[.sh (.int k),.sh (il s),.sh (ld H)],cs⟩).bindB λb f=>match b with|false=>vB Un f|true=>vB D1 f).bindB (λb f=>match b with|false=>cm (ev (NV (aq (d+42))) 294) (.l 1) (.tp [.nm 0,.nm 1]) [sQ] (rK (k+1) r) c f|true=>(ev (NV (aq (d+42))) 294 (.e (.l 1)) f).aT λy f=>cm (ev (NV (aq (d+42))) 294) (.l 1) (.tp [.nm 0,.nm 1]) [sQ] (rK (k+1) r) (c++[y]) f):=by rfl'
rw[t]at f
show∃h i,_=R.ok (.ds (c++((if kM k H.length s then[il s]else[])++TH (k+1) H.length r))) _;cases l:kM k H.length s with|true=>rw[l]at f;obtain⟨h,i,a⟩:=j (k+1) (c++[il s]) (.sh (.int k)) (.sh (il s));refine jY h i (f.trans (Hp (by rfl') (a.trans ?_)));refine aa (eI rfl) ?_;rw[su]|false=>rw[l]at f;obtain⟨h,i,a⟩:=j (k+1) c (.sh (.int k)) (.sh (il s));refine jY h i (f.trans (Hp (by rfl') (a.trans ?_)));refine aa (ej (by decide)) ?_;rw[AS]
end
abbrev tS(s:D)(P:ai a0)(H:ai (ai a0))(a b c d f m h i j k:Slot)(cs:ai Cell):St:=cK s (.sh (il P)) a b c d (.sh (ld H)) f m h i j k cs
abbrev DS:ai S:=[.g 12 (.b .Add (.b .Add (.l 12) (.a [.cI 46])) (.l 13))]
abbrev Tx(a:Slot)(F:ai a0):Prop:=a=.sh (il F)\/a=.o (F.map .int)
theorem HR(h:F.length<=1000)(a:q.length<=1000):dE .Add (.list (F.map .int++[.int 46])) (il q)=Bc (.o ((F++46::q).map .int)):=by show bY (aM (F.map D.int++[.int 46])&&aM (q.map D.int)) (Slot.o ((F.map .int++[.int 46])++q.map .int))=_;refine aa (sm (by rw[lk,fx];simp;exact q0)) (aa (fy q0) (aa lZ ?_));rw[su];rfl
theorem Nt(h:F.length<=1000):dE .Add (il F) (il [46])=Bc (.o (F.map .int++[.int 46])):=by show bY (aM (F.map D.int)&&D1) (Slot.o (F.map .int++[.int 46]))=_;exact aa (fy q0) rfl
section
variable{cl:ak->ai D->ai Cell->RC}{cs:ai Cell}{s:D}{P:ai a0}{H:ai (ai a0)}{x6 x7 x8 x9 aJ a9 b0 bz:Slot}
theorem acP:∀(r:ai (ai a0))(F:ai a0)(m c:Slot),Tx m F->F.length+(j1 r).length<=900->∃i d,Tx i (F++j1 r)/\bQ (ev (NV cl) 298) (.nm 13) DS (r.map il) (tS s P H x6 x7 x8 x9 aJ m c a9 b0 bz cs)=.ok .ay (tS s P H x6 x7 x8 x9 aJ i d a9 b0 bz cs):=by intro r;induction r with|nil=>exactλF m c h Y=>dm m c (by rw[show j1 []=[]from rfl,lH];exact h) rfl|cons a r f=>intro F m c h j;rw[jx,hS,lk]at j;have k:ev (NV cl) 295 (.e (.b .Add (.l 12) (.a [.cI 46]))) (tS s P H x6 x7 x8 x9 aJ m (.sh (il a)) a9 b0 bz cs)=vD (.list (F.map .int++[.int 46])) (tS s P H x6 x7 x8 x9 aJ (.sh (il F)) (.sh (il a)) a9 b0 bz cs):=aV (ij (st1:=tS s P H x6 x7 x8 x9 aJ (.sh (il F)) (.sh (il a)) a9 b0 bz cs) (by rcases h with rfl|rfl<;>rfl') (by rfl') (Nt q1)) rfl;have l:ev (NV cl) 298 (.ss DS) (tS s P H x6 x7 x8 x9 aJ m (.sh (il a)) a9 b0 bz cs)=.ok .ay (tS s P H x6 x7 x8 x9 aJ (.o ((F++46::a).map .int)) (.sh (il a)) a9 b0 bz cs):=(aB (fw (ij (st2:=tS s P H x6 x7 x8 x9 aJ (.sh (il F)) (.sh (il a)) a9 b0 bz cs) k (by rfl') (HR q1 KG)))).trans rfl;obtain⟨i,d,p,b⟩:=f (F++46::a) (.o ((F++46::a).map .int)) (.sh (il a)) (.inr rfl) (aa lk (aa hS (by lia)));refine dm i d (aa jx (aa (show F++46::(a++j1 r)=F++46::a++j1 r by simp) p)) ?_;exact aD b (iy rfl l)
end
theorem abX(h:l[i]?=Bc (.sh (.ref 11)))(b:l.set i (.sh (.ref 11))=l)(c:k.length<=1000):ev (NV cl) (n+4) (.s (.dF (.l i) (.cS w) (.cT D1))) ⟨l,KB a (FD k) u []⟩=.ok .ay ⟨l,KB a (FD (eV w k)) u []⟩:=by refine Bg (st1:=⟨l,KB a (FD k) u []⟩) (st2:=⟨l,KB a (FD k) u []⟩) (st3:=⟨l,KB a (FD k) u []⟩) (by rfl') (aV (sl:=.sh (.ref 11)) ?_ rfl) (by rfl') rfl Kr (sm (by rw[fx];exact gY c (by decide)));show(rO ((l[i]?).bind fz) λd=>vD d ⟨l.set i (.sh d),KB a (FD k) u []⟩).bC=_;refine aa h ?_;show(vD (.ref 11) ⟨l.set i (.sh (.ref 11)),KB a (FD k) u []⟩).bC=_;exact aa b rfl
abbrev O8:S:=.g 12 (.sub (.l 10) (.cI 0))
abbrev PI:S:=.bA (.nm 13) (.ex (.cU (.l 10) (Bc (.cI 1)) VG)) DS
noncomputable abbrev LD:S:=.g 14 (.call 157 [.call 39 [.l 5],.l 2,.l 4])
abbrev Ox:E:=.p (.call 39 [.sub (.l 14) (.cI 0)]) [.NotEq] [.l 12]
abbrev HP:E:=.p (.call 39 [.sub (.l 14) (.cI 1)]) [.NotEq] [.call 105 [.l 3]]
abbrev J0:S:=.iff (.bj .Or [Ox,HP]) [.av] []
abbrev xF:E:=.p (.comp (.l 1) (.tp [.nm 0,.nm 1]) (.gq (.l 10)) [sQ] [140,153] [10]) [.NotEq] [.a []]
abbrev H3:S:=.iff xF [.dF (.l 3) (.cS gM) (.cT D1)] []
theorem aba:gD.drop 9=O8::PI::LD::J0::H3::gD.drop 14:=by rfl'
theorem Ws:∀{l:ai (ai ak)},fq n (sT l)=D1:=by intro l;induction l with|nil=>rfl|cons a r i=>show fq n (.bool D1::sT r)=D1;unfold fq;exact aa i rfl
theorem Bu(h:kR b):HC b (FD k):=⟨U3 h,by show(fq 17 (ww k)&&fq 17 (sT k))=D1;refine aa Ik (aa Ws ?_);rfl⟩
theorem OI(h:k.length<60):aq (d+1) 105 [.ref 11] (KB f (FD k) u [])=.ok (.sh (.list (ww (bE k)))) (KB f (FD k) u []):=by
 have a:aq (d+1) 105 [.ref 11] (KB f (FD k) u [])=qP (qJ (KB f (FD k) u []) (.ref 11)) (KB f (FD k) u []):=by rfl'
 have s:qJ (KB f (FD k) u []) (.ref 11)=Bc (.list (ww (bE k))):=by
  have b:xR (KB f (FD k) u []) (.ref 11)=Bc (.list (ww (bE k))):=by
   have c:xR (KB f (FD k) u []) (.ref 11)=(bY (fF dJ (ww k)) ()).bind λY=>qK (ww k):=by rfl'
   refine aa c (aa B6 ?_);show qK (ww k)=_;unfold qK;exact aa Jw (eI (show ys k.length 60=D1 from NE h))
  unfold qJ;exact aa b rfl
 exact aa a (aa s rfl)
def gQ(u:aA)(p:ai (ai a0)):ai (ai ak):=if iB 0 (aK u p).length (aK u p)then eV gM (fC u p)else fC u p
theorem Ht:(eV w ks).length<=ks.length+1:=gY (tQ (W:=[w]) (ks:=ks)) (by simp;lia)
theorem KP(h:ps.length<=4):(fC u ps).length<=6:=by
 have a:=H8 (u:=u) h
 unfold fC
 split
 .have :=Ht (w:=jr) (ks:=eR u ps);lia
 .exact q0
theorem abU(h:ps.length<=5):(fC u ps).all dQ=D1:=lg.mpr λa m=>lg.mp (xl h).2 a ((FZ a).mpr m)
abbrev s6(h)(a)(k):=(.sh (.u [il (be 0 (h::a)),.list (ww (bE k))]):Slot)
section
variable{u:aA}{d:ak}{p:ai a0}{r:ai (ai a0)}{b:Cell}{s:D}{x6 x7 x8 x9 aJ:Slot}
theorem RN(hp:∀q∈p::r,xB u q)(hr:r.length<=2)(hd:kR b):∃cQ,cA (ev (NV (aq (d+42))) 299) (gD.drop 9) (tS s (p++j1 r) (aK u (p::r)) x6 x7 x8 x9 aJ .ae .ae .ae .ae .ae (KA b (FD (fC u (p::r))) u))=cA (ev (NV (aq (d+42))) 299) (gD.drop 14) (tS s (p++j1 r) (aK u (p::r)) x6 x7 x8 x9 aJ (.sh (il (be 0 (aK u (p::r))))) cQ (.sh (.u [il (be 0 (aK u (p::r))),.list (ww (bE (fC u (p::r))))])) .ae .ae (KB b (FD (gQ u (p::r))) u [])):=by
 have lC:∀q∈p::r,PG u q:=λq m=>(hp q m).pg
 have iM:=rh lC
 have hH:(aK u (p::r)).length<=3:=by unfold aK;rw[fx,fx,hS];exact q8
 have J5:=O2 (d:=d+1) (dk:=b) (fl:=FD (fC u (p::r))) (u:=u) (X:=KA b (FD (fC u (p::r))) u) (.inl rfl) (Bu hd) lC q0
 rw[NH]at J5
 have jl:=qk (H:=aK u (p::r)) q0 λy m=>(pJ y (iM y m)).1
 have kl:=KP (u:=u) (ps:=p::r) (aa hS q8)
 have kw:=abU (u:=u) (ps:=p::r) (aa hS q8)
 have lP:(p++j1 r).length<=100:=gY (n7 (m:=14) λq m=>(lC q m).lp) (pU q0 (ir _))
 have he:∃h0 ht,aK u (p::r)=h0::ht:=(jY _ _ rfl)
 unfold gQ
 generalize fC u (p::r)=ks at*
 generalize hP:p++j1 r=P at*
 generalize aK u (p::r)=H at*
 obtain⟨h0,ht,rfl⟩:=he
 have l0:=(pJ h0 (iM h0 (.head _))).1
 have hx:be 0 (h0::ht)=h0++j1 ht:=z9
 rw[hS]at hH
 have s9:ev (NV (aq (d+42))) 299 (.s O8) (tS s P (h0::ht) x6 x7 x8 x9 aJ .ae .ae .ae .ae .ae (KA b (FD ks) u))=.ok .ay (tS s P (h0::ht) x6 x7 x8 x9 aJ (.sh (il h0)) .ae .ae .ae .ae (KA b (FD ks) u)):=fw (n:=298) (qo (n:=297) (v:=ld (h0::ht)) (k:=.int 0) (w:=il h0) (st1:=tS s P (h0::ht) x6 x7 x8 x9 aJ .ae .ae .ae .ae .ae (KA b (FD ks) u)) (st2:=tS s P (h0::ht) x6 x7 x8 x9 aJ .ae .ae .ae .ae .ae (KA b (FD ks) u)) (by rfl') (by rfl') ((by rfl':jG (KA b (FD ks) u) (ld (h0::ht)) (.int 0)=dP ((h0::ht).map il) ((0:ak):a0)).trans (Ng (i:=0) rfl (by decide))))
 have dj:ev (NV (aq (d+42))) 298 (.e (.cU (.l 10) (Bc (.cI 1)) VG)) (tS s P (h0::ht) x6 x7 x8 x9 aJ (.sh (il h0)) .ae .ae .ae .ae (KA b (FD ks) u))=vD (ld ht) (tS s P (h0::ht) x6 x7 x8 x9 aJ (.sh (il h0)) .ae .ae .ae .ae (KA b (FD ks) u)):=by
  have q:ev (NV (aq (d+42))) 298 (.e (.cU (.l 10) (Bc (.cI 1)) VG)) (tS s P (h0::ht) x6 x7 x8 x9 aJ (.sh (il h0)) .ae .ae .ae .ae (KA b (FD ks) u))=((oS (nR (ld (h0::ht)) (Bc 1) VG) (tS s P (h0::ht) x6 x7 x8 x9 aJ (.sh (il h0)) .ae .ae .ae .ae (KA b (FD ks) u))).bC).iK λs st=>oD (fz s) st:=by rfl'
  have z:nR (ld (h0::ht)) (Bc 1) VG=Bc (.o (ht.map il)):=by show bY (aM ((h0::ht).map il)) (Slot.o (gu (il h0::ht.map il) (Bc 1) VG))=_;exact aa (sm (by rw[fx,hS];exact q0)) (aa Jo rfl)
  rw[z]at q;exact q
 have jt:(j1 ht).length<=100:=by have :=jl;rw[hx,lk]at this;exact q2
 refine cps λP_ k_=>?_
 obtain⟨iW,cQ,hy,WQ⟩:=acP (cl:=aq (d+42)) (cs:=KA b (FD ks) u) (s:=s) (P:=P) (H:=h0::ht) (x6:=x6) (x7:=x7) (x8:=x8) (x9:=x9) (aJ:=aJ) (a9:=.ae) (b0:=.ae) (bz:=.ae) ht h0 (.sh (il h0)) .ae (.inl rfl) q6
 refine k_ ?_;clear k_ P_
 rw[<-hx]at hy
 have ZJ:ev (NV (aq (d+42))) 299 (.s PI) (tS s P (h0::ht) x6 x7 x8 x9 aJ (.sh (il h0)) .ae .ae .ae .ae (KA b (FD ks) u))=.ok .ay (tS s P (h0::ht) x6 x7 x8 x9 aJ iW cQ .ae .ae .ae (KA b (FD ks) u)):=rA (n:=298) dj rfl WQ
 have s11:ev (NV (aq (d+42))) 299 (.s LD) (tS s P (h0::ht) x6 x7 x8 x9 aJ iW cQ .ae .ae .ae (KA b (FD ks) u))=.ok .ay (tS s P (h0::ht) x6 x7 x8 x9 aJ iW cQ (s6 h0 ht ks) .ae .ae (KB b (FD ks) u [])):=fw (n:=298) (x_call (N:=NV (aq (d+42))) (n:=297) (args:=[.call 39 [.l 5],.l 2,.l 4]) (ds:=[il P,.ref 1,.ref 12]) (st1:=tS s P (h0::ht) x6 x7 x8 x9 aJ iW cQ .ae .ae .ae (KA b (FD ks) u)) (gw (aV (n:=296) (x_call (N:=NV (aq (d+42))) (n:=295) (ds:=[il P]) (st1:=tS s P (h0::ht) x6 x7 x8 x9 aJ iW cQ .ae .ae .ae (KA b (FD ks) u)) (by rfl') (fO (oG (l:=P.map .int) (by rw[fx];exact q0)))) rfl) (by rfl')) (fO J5))
 have U5:ev (NV (aq (d+42))) 299 (.s J0) (tS s P (h0::ht) x6 x7 x8 x9 aJ iW cQ (s6 h0 ht ks) .ae .ae (KB b (FD ks) u []))=.ok .ay (tS s P (h0::ht) x6 x7 x8 x9 aJ (.sh (il (be 0 (h0::ht)))) cQ (s6 h0 ht ks) .ae .ae (KB b (FD ks) u [])):=by
  have ta:ev (NV (aq (d+42))) 297 (.t Ox) (tS s P (h0::ht) x6 x7 x8 x9 aJ iW cQ (s6 h0 ht ks) .ae .ae (KB b (FD ks) u []))=vB Un (tS s P (h0::ht) x6 x7 x8 x9 aJ (.sh (il (be 0 (h0::ht)))) cQ (s6 h0 ht ks) .ae .ae (KB b (FD ks) u [])):=fX (n:=295) (op:=.NotEq) (v:=il (be 0 (h0::ht))) (w:=il (be 0 (h0::ht))) (st1:=tS s P (h0::ht) x6 x7 x8 x9 aJ iW cQ (s6 h0 ht ks) .ae .ae (KB b (FD ks) u [])) (aV (n:=294) (x_call (N:=NV (aq (d+42))) (n:=293) (ds:=[il (be 0 (h0::ht))]) (st1:=tS s P (h0::ht) x6 x7 x8 x9 aJ iW cQ (s6 h0 ht ks) .ae .ae (KB b (FD ks) u [])) (by rfl') (fO (oG (l:=(be 0 (h0::ht)).map .int) (by rw[fx];exact q0)))) rfl) (by rcases hy with rfl|rfl<;>rfl') (by show(gX (il (be 0 (h0::ht))) (il (be 0 (h0::ht)))).map (!.)=_;rw[BE];rfl)
  have tb:ev (NV (aq (d+42))) 297 (.t HP) (tS s P (h0::ht) x6 x7 x8 x9 aJ (.sh (il (be 0 (h0::ht)))) cQ (s6 h0 ht ks) .ae .ae (KB b (FD ks) u []))=vB Un (tS s P (h0::ht) x6 x7 x8 x9 aJ (.sh (il (be 0 (h0::ht)))) cQ (s6 h0 ht ks) .ae .ae (KB b (FD ks) u [])):=fX (n:=295) (op:=.NotEq) (v:=.list (ww (bE ks))) (w:=.list (ww (bE ks))) (st1:=tS s P (h0::ht) x6 x7 x8 x9 aJ (.sh (il (be 0 (h0::ht)))) cQ (s6 h0 ht ks) .ae .ae (KB b (FD ks) u [])) (aV (n:=294) (x_call (N:=NV (aq (d+42))) (n:=293) (ds:=[.list (ww (bE ks))]) (st1:=tS s P (h0::ht) x6 x7 x8 x9 aJ (.sh (il (be 0 (h0::ht)))) cQ (s6 h0 ht ks) .ae .ae (KB b (FD ks) u [])) (by rfl') (fO (oG (l:=ww (bE ks)) (by rw[fx,Bp];exact q0)))) rfl) (aV (n:=294) (x_call (N:=NV (aq (d+42))) (n:=293) (ds:=[.ref 11]) (st1:=tS s P (h0::ht) x6 x7 x8 x9 aJ (.sh (il (be 0 (h0::ht)))) cQ (s6 h0 ht ks) .ae .ae (KB b (FD ks) u [])) (by rfl') (fO (OI q8))) rfl) (by show(gX (.list (ww (bE ks))) (.list (ww (bE ks)))).map (!.)=_;rw[IB (Bx kw)];rfl)
  have q:=ew (N:=NV (aq (d+42))) (n:=298) (x:=[.av]) (y:=[]) (UK (n:=297) ta tb)
  rw[ej (by decide)]at q;exact q.trans rfl
 obtain⟨v',w',Vj⟩:=ab7 (d:=d) (cs:=KB b (FD ks) u []) (H:=h0::ht) (by rw[hS];exact q0) (h0::ht) 0 [] .ae .ae
 obtain⟨i1,i2⟩:=acu (n:=((h0::ht).length:a0)) (r:=h0::ht) (k:=0)
 have Xe:ev (NV (aq (d+42))) 298 (.t xF) (tS s P (h0::ht) x6 x7 x8 x9 aJ (.sh (il (be 0 (h0::ht)))) cQ (s6 h0 ht ks) .ae .ae (KB b (FD ks) u []))=vB (iB 0 (h0::ht).length (h0::ht)) (tS s P (h0::ht) x6 x7 x8 x9 aJ (.sh (il (be 0 (h0::ht)))) cQ (s6 h0 ht ks) .ae .ae (KB b (FD ks) u [])):=fX (n:=296) (op:=.NotEq) (v:=.list (TH 0 (h0::ht).length (h0::ht))) (w:=.list []) (st1:=tS s P (h0::ht) x6 x7 x8 x9 aJ (.sh (il (be 0 (h0::ht)))) cQ (s6 h0 ht ks) .ae .ae (KB b (FD ks) u [])) (st2:=tS s P (h0::ht) x6 x7 x8 x9 aJ (.sh (il (be 0 (h0::ht)))) cQ (s6 h0 ht ks) .ae .ae (KB b (FD ks) u [])) (aV (n:=295) (XM (n:=294) (nl:=[140,153]) (caps:=[10]) (cap:=[.sh (ld (h0::ht))]) (items:=(h0::ht).map il) (st1:=tS s P (h0::ht) x6 x7 x8 x9 aJ (.sh (il (be 0 (h0::ht)))) cQ (s6 h0 ht ks) .ae .ae (KB b (FD ks) u [])) (loc:=(tS s P (h0::ht) x6 x7 x8 x9 aJ (.sh (il (be 0 (h0::ht)))) cQ (s6 h0 ht ks) .ae .ae []).l) (by rfl') (sm (by rw[RE,fx,hS];exact q0)) rfl Vj) rfl) (by rfl') (by show(gX (.list (TH 0 (h0::ht).length (h0::ht))) (.list [])).map (!.)=_;rw[eq_nil i2,i1];cases iB 0 (h0::ht).length (h0::ht)<;>rfl)
 have nh:=ew (N:=NV (aq (d+42))) (n:=298) (x:=[.dF (.l 3) (.cS gM) (.cT D1)]) (y:=[]) Xe
 have QP:ev (NV (aq (d+42))) 299 (.s H3) (tS s P (h0::ht) x6 x7 x8 x9 aJ (.sh (il (be 0 (h0::ht)))) cQ (s6 h0 ht ks) .ae .ae (KB b (FD ks) u []))=.ok .ay (tS s P (h0::ht) x6 x7 x8 x9 aJ (.sh (il (be 0 (h0::ht)))) cQ (s6 h0 ht ks) .ae .ae (KB b (FD (if iB 0 (h0::ht).length (h0::ht)then eV gM ks else ks)) u [])):=by cases hb:iB 0 (h0::ht).length (h0::ht)with|true=>rw[hb,eI rfl]at nh;rw[eI rfl];exact nh.trans ((aB (abX (n:=293) (i:=3) rfl rfl q0)).trans rfl)|false=>
  rw[hb,ej (by decide)]at nh
  rw[ej (by decide)];exact nh.trans rfl
 exact⟨cQ,by rw[aba,aB s9,aB ZJ,aB s11,aB U5,aB QP]⟩
end
theorem SH{A B:ai (ai ak)}(h:∀c,c∈A↔c∈B):A.isEmpty=B.isEmpty:=by cases A with
|nil=>cases B with|nil=>rfl|cons b B=>exact nomatch(h b).mpr (.head _)
|cons a A=>cases B with|nil=>exact nomatch(h a).mp (.head _)|cons b B=>rfl
theorem LS(a:ai ak):a∈Zd W↔a∈W:=by obtain⟨_,_,c⟩:=Jc (bE W) [] (by rw[AS];exact zH W) im;show a∈iP [] (bE W)↔_;rw[c,(sZ W).mem_iff];exact⟨λb=>b.elim (λb=>nomatch b) id,.inr⟩
theorem ac6{L:ai (ai a0)}:x∈L.flatMap (λl=>if l.isEmpty then[gM]else[])↔x=gM/\L.any (·.isEmpty)=D1:=by induction L with|nil=>show x∈[]↔x=gM/\Un=D1;simp|cons s L i=>refine aa Di ?_;rw[nG,i,qE];cases s.isEmpty with|false=>show(x∈[]\/_)↔(x=gM/\(Un||_)=D1);rw[Ij];exact⟨λa=>a.elim (λa=>nomatch a) id,.inr⟩|true=>show(x∈[gM]\/_)↔(x=gM/\(D1||_)=D1);rw[SI,hX];exact⟨λa=>⟨a.elim id λa=>a.1,rfl⟩,λa=>.inl a.1⟩
theorem ad8:∀{r:ai (ai a0)}{k:a0},0<k->k+r.length=n->iB k n r=(r.dropLast).any (·.isEmpty):=by intro r;induction r with|nil=>exactλY Y=>rfl|cons s r i=>intro k a h;rw[hS]at h;show(kM k n s||iB (k+1) n r)=_;refine aa (i (by lia) (by lia)) ?_;unfold kM;refine aa (show(k==0)=Un by simp;exact SC) ?_;rw[Ij];cases r with|nil=>refine aa (Lc (by simp at h;lia)) ?_;rw[s?];rfl|cons t r=>refine aa (mM (by simp at h;lia)) ?_;rw[q!];rfl
theorem Ri:iB 0 (h::t).length (h::t)=(dg (h::t)).any (·.isEmpty):=by
 have b:iB 0 (h::t).length (h::t)=(h.isEmpty||(t.dropLast).any (·.isEmpty)):=by
  show(kM 0 (h::t).length h||iB (0+1) (h::t).length t)=_
  refine aa (ad8 (by decide) (by rw[hS];lia)) ?_
  unfold kM
  refine aa (show((0:a0)==0)=D1 from rfl) ?_;rw[SI,q!]
 refine aa b ?_
 unfold dg;cases t with|nil=>exact aa (ej (by simp)) rfl|cons a t=>
by_cases f:(h::a::t).getLast?=Bc []
.exact aa (eI (aa f (by simp))) rfl
.refine aa (ej (λc=>f (hQ (iA c).2))) (aa qE ?_)
 congr 1
 have d:(a::t)≠[]:=by simp
 have :=List.dropLast_concat_getLast d
 refine aD this (aa IN ?_);have i:(a::t).getLast d≠[]:=λc=>f (aa (List.getLast?_cons_cons) (aa (List.getLast?_eq_some_getLast d) (aa c rfl)));refine aa ar6 (aa qE (aa (show((a::t).getLast d).isEmpty=Un by cases h:(a::t).getLast d with|nil=>exact aL h i|cons=>rfl) ?_));simp
theorem ZH(c:∀s∈H,s∈Sn):(dg (H.map bR)).any (·.isEmpty)=(dg H).any (·.isEmpty):=by
 have w:∀s∈H,(bR s).isEmpty=s.isEmpty:=λs m=>by have :=lg.mp aeA s (c s m);exact eq_of_beq this
 have b:∀L:ai (ai a0),(∀s∈L,s∈H)->(L.map bR).any (·.isEmpty)=L.any (·.isEmpty):=by intro L;induction L with|nil=>exactλY=>rfl|cons s L i=>exactλh=>aa l6 (aa qE (aa qE (aa (w s (h s (.head _))) (aa (i λa m=>h a (.tail _ m)) rfl))))
 have l:((H.map bR).getLast?=Bc [])↔(H.getLast?=Bc []):=by refine aa (y?) ?_;cases d:H.getLast? with|none=>simp|some s=>
  have :=w s (No d)
  show Bc (bR s)=Bc []↔Bc s=Bc []
  constructor
  .intro h;rw[eF h]at this;cases s with|nil=>rfl|cons=>exact no this.symm
  .intro h;rw[eF h]at this⊢;cases f:bR []with|nil=>rfl|cons=>rw[f]at this;exact no this
 unfold dg
 rw[fx,show decide ((H.map bR).getLast?=Bc [])=decide (H.getLast?=Bc [])from decide_eq_decide.mpr l]
 split
 .exact aD asc (b _ λs m=>C? _ m)
 .exact b _ λs m=>m
section
variable{u:aA}{d:ai (ai a0)}
theorem JY(b:∀s∈H,s∈Sn)(c:H≠[])(a:ai ak):a∈i9 (H.map bR)↔a=gM/\iB 0 H.length H=D1:=by cases H with|nil=>exact aL rfl c|cons h t=>unfold i9;rw[ac6,ZH b,Ri]
theorem CH(h:∀s∈aK u d,s∈Sn)(c:aK u d≠[])(a:ai ak):a∈Zd (Wd u d)++Ea u d↔a∈gQ u d:=by rw[nG,LS,FZ];show(_\/a∈i9 ((aK u d).map bR))↔_;rw[JY h c];unfold gQ;cases iB 0 (aK u d).length (aK u d)with|true=>refine aa (eI rfl) ?_;rw[vY];exact⟨λb=>b.elim .inr λb=>.inl b.1,λb=>b.elim (λb=>.inr ⟨b,rfl⟩) .inl⟩|false=>exact aa (ej (by decide)) ⟨λb=>b.elim id λb=>(nomatch b.2),.inl⟩
theorem X9:(gQ u d).Nodup:=by
 unfold gQ
 split
 .exact FF CB
 .exact CB
theorem Zd3(h:∀s∈aK u d,s∈Sn)(c:aK u d≠[]):Zd (Zd (Wd u d)++Ea u d)=bE (gQ u d):=settle X9 (CH h c)
theorem Hj(h:∀s∈aK u d,s∈Sn)(c:aK u d≠[]):(Zd (Wd u d)++Ea u d).isEmpty=(gQ u d).isEmpty:=SH (CH h c)
theorem Np:eV w k≠[]:=λh=>by have :=(vY (w:=w) (ks:=k)).mpr (.inl rfl);rw[h]at this;cases this
structure Clean(u:aA)(ps:ai (ai a0)):Prop where
mv:ps.any (cD u)=Un
ws:∀q∈ps,dR (md u q)=[]
two:(ky (aK u ps)&&(aK u ps).any λs=>!ey s)=Un
em:iB 0 (aK u ps).length (aK u ps)=Un
theorem clean(h:gQ u d=[]):Clean u d:=by unfold gQ at h;cases c:iB 0 (aK u d).length (aK u d)with|true=>rw[c,eI rfl]at h;exact aL h Np|false=>rw[c,ej (by decide)]at h;unfold fC at h;cases f:(ky (aK u d)&&(aK u d).any λs=>!ey s)with|true=>rw[f,eI rfl]at h;exact aL h Np|false=>
rw[f,ej (by decide)]at h
have i:∀a,¬(a∈(d.map (md u)).flatMap dR\/a∈dl (d.any (cD u))):=λa b=>by
 have :=(KY).mpr b
 rw[show fM ((d.map (md u)).flatMap dR) (dl (d.any (cD u)))=[]from h]at this;cases this
refine⟨?_,λb m=>?_,f,c⟩
.cases j:d.any (cD u)with|false=>rfl|true=>exact aL (.inr (aa j (.head _))) (i lO)
.cases k:dR (md u b)with|nil=>rfl|cons w r=>exact aL (.inl (List.mem_flatMap.mpr ⟨md u b,List.mem_map.mpr ⟨b,m,rfl⟩,aa k (.head _)⟩)) (i w)
end
def cR(u:aA)(a:ai a0):ai a0:=bR (bU (md u a))
def LB(u:aA)(a:ai a0):aA:=(cD u a||((!(dR (md u a)).isEmpty)||(rZ (bU (md u a))&&!ey (bU (md u a)))))||(Ai u (cR u a)&&(decide (md u (cR u a)=cR u a)&&(decide (bU (cR u a)=bU (md u a))&&((dR (cR u a)).isEmpty&&!cD u (cR u a)))))
theorem adp(u:aA):PC.all (LB u)=D1:=by cases u<;>rfl'
structure Due(u:aA)(q:ai a0):Prop where
pg:PG u (cR u q)
Hh:md u (cR u q)=cR u q
sh':bU (cR u q)=bU (md u q)
Xl:dR (cR u q)=[]di:cD u (cR u q)=Un
theorem Tt(h:q∈PC)(a:cD u q=Un)(b:dR (md u q)=[])(c:(rZ (bU (md u q))&&!ey (bU (md u q)))=Un):Due u q:=by
 have :=lg.mp (adp u) q h
 unfold LB at this
 rw[a,b,c]at this
 obtain⟨i,h⟩:=iA (show(Ai u (cR u q)&&(decide (md u (cR u q)=cR u q)&&(decide (bU (cR u q)=bU (md u q))&&((dR (cR u q)).isEmpty&&!cD u (cR u q)))))=D1 from this)
 obtain⟨j,h⟩:=iA h
 obtain⟨k,h⟩:=iA h
 obtain⟨d,f⟩:=iA h
 refine⟨Mu i,hQ j,hQ k,?_,?_⟩
 .cases l:dR (cR u q)with|nil=>rfl|cons=>rw[l]at d;exact no d
 .cases m:cD u (cR u q)with|false=>rfl|true=>rw[m]at f;exact no f
theorem Vu(k:ev N n (.e a) s=vD (.bool D1) h)(l:ev N n (.e b) h=vD (.bool D1) i)(m:ev N n (.e c) i=vD d j):ev N (n+1) (.x (.bj .And [a,b,c])) s=.ok (.o (.sh d)) j:=by show((ev N n (.e a) s).bindB λf s=>match halt .And f with|true=>vB f s|false=>(ev N n (.e b) s).bindB λf s=>match halt .And f with|true=>vB f s|false=>(ev N n (.e c) s).aT λd s=>vD d s).bC=_;rw[k];show((ev N n (.e b) h).bindB λf s=>match halt .And f with|true=>vB f s|false=>(ev N n (.e c) s).aT λd s=>vD d s).bC=_;rw[l];show((ev N n (.e c) i).aT λd s=>vD d s).bC=_;rw[m];rfl
abbrev Mw:S:=.g 15 (.call 158 [.sub (.l 10) (.cI 0)])
abbrev Ed:ai S:=[.g 15 (.b .Add (.b .Add (.l 15) (.a [.cI 46])) (.call 158 [.l 13]))]
abbrev Xf:S:=.bA (.nm 13) (.ex (.cU (.l 10) (Bc (.cI 1)) VG)) Ed
noncomputable abbrev Cc:E:=.call 159 [.call 39 [.l 5],.l 2,.l 4]
abbrev FI:E:=.ite (.jB (.l 3) Un) (.l 15) (.b .Add (.a [.cS [119,111,114,100,115]]) (.call 105 [.l 3]))
abbrev wQ:S:=.iff (.p Cc [.NotEq] [FI]) [.av] []
abbrev uf:S:=.iff (.jB (.l 3) D1) [.ret (.cT D1)] []
noncomputable abbrev uy:S:=.g 16 (.call 157 [.call 39 [.l 15],.l 2,.l 4])
abbrev Dt:E:=.p (.call 39 [.sub (.l 16) (.cI 0)]) [.Eq] [.l 12]
abbrev F3:E:=.p (.call 39 [.sub (.l 16) (.cI 1)]) [.Eq] [.a []]
noncomputable abbrev Ff:E:=.p (.call 159 [.call 39 [.l 15],.l 2,.l 4]) [.Eq] [.l 15]
abbrev wU:S:=.ret (.bj .And [Dt,F3,Ff])
theorem aam:gD.drop 14=[Mw,Xf,wQ,uf,uy,wU]:=by rfl'
noncomputable def O4:ai ak:=[119,111,114,100,115]
abbrev Ba(T):=(.sh (.u [il T,.list []]):Slot)
abbrev yh(w)(k)(A)(u):=KB w (FD (k::A)) u []
section
variable{s:D}{P T:ai a0}{H:ai (ai a0)}{j l f i t p v:Slot}{w:Cell}{u:aA}{A:ai (ai ak)}{d:ak}
abbrev uS(s:D)(P T:ai a0)(H:ai (ai a0))(j l f i t b p a v:Slot)(cs:ai Cell):St:=tS s P H j l f i t (.sh (il T)) b p a v cs
theorem abp:∀(r:ai (ai a0))(F:ai a0)(c k:Slot),(∀y∈r,y∈Sn)->Tx c F->F.length+(j1 (r.map bR)).length<=900->∃B C,Tx B (F++j1 (r.map bR))/\bQ (ev (NV (aq (d+42))) 298) (.nm 13) Ed (r.map il) (uS s P T H j l f i t k p c v cs)=.ok .ay (uS s P T H j l f i t C p B v cs):=by intro r;induction r with|nil=>exactλF c k Y h Y=>⟨c,k,by rw[show j1 (List.map bR [])=[]from rfl,lH];exact h,rfl⟩|cons a r I=>intro F c k G h J;rw[l6,jx,hS,lk]at J;have K:ev (NV (aq (d+42))) 295 (.e (.b .Add (.l 15) (.a [.cI 46]))) (uS s P T H j l f i t (.sh (il a)) p c v cs)=vD (.list (F.map .int++[.int 46])) (uS s P T H j l f i t (.sh (il a)) p (.sh (il F)) v cs):=aV (ij (st1:=uS s P T H j l f i t (.sh (il a)) p (.sh (il F)) v cs) (by rcases h with rfl|rfl<;>rfl') (by rfl') (Nt q1)) rfl;have L:ev (NV (aq (d+42))) 295 (.e (.call 158 [.l 13])) (uS s P T H j l f i t (.sh (il a)) p (.sh (il F)) v cs)=vD (il (bR a)) (uS s P T H j l f i t (.sh (il a)) p (.sh (il F)) v cs):=aV (x_call (st1:=uS s P T H j l f i t (.sh (il a)) p (.sh (il F)) v cs) (by rfl') (fO (cW (HU cs (d+32)) a (G a (.head _))))) rfl;have M:ev (NV (aq (d+42))) 298 (.ss Ed) (uS s P T H j l f i t (.sh (il a)) p c v cs)=.ok .ay (uS s P T H j l f i t (.sh (il a)) p (.o ((F++46::bR a).map .int)) v cs):=(aB (fw (ij K L (HR q1 KG)))).trans rfl;obtain⟨B,C,N,b⟩:=I (F++46::bR a) (.o ((F++46::bR a).map .int)) (.sh (il a)) (λy m=>G y (.tail _ m)) (.inr rfl) (by rw[lk,hS];lia);refine⟨B,C,by rw[l6,jx,show F++46::(bR a++j1 (r.map bR))=F++46::bR a++j1 (r.map bR)by simp];exact N,?_⟩;rw[<-b];exact iy rfl M
theorem We(hs:∀y∈h0::ht,y∈Sn)(hl:ht.length<=3):∃kB cQ,Tx kB (be 0 ((h0::ht).map bR))/\cA (ev (NV (aq (d+42))) 299) (gD.drop 14) (uS s P T (h0::ht) j l f i t br p .ae v cs)=cA (ev (NV (aq (d+42))) 299) [wQ,uf,uy,wU] (uS s P T (h0::ht) j l f i t cQ p kB v cs):=by
 have jl:=qk (H:=(h0::ht).map bR) (by rw[fx,hS];exact q8) λy m=>by obtain⟨z,hz,rfl⟩:=List.mem_map.mp m;exact(pJ z (hs z hz)).2
 have hx:be 0 ((h0::ht).map bR)=bR h0++j1 (ht.map bR):=z9
 rw[hx,lk]at jl
 have s14:ev (NV (aq (d+42))) 299 (.s Mw) (uS s P T (h0::ht) j l f i t br p .ae v cs)=.ok .ay (uS s P T (h0::ht) j l f i t br p (.sh (il (bR h0))) v cs):=fw (x_call (N:=NV (aq (d+42))) (st1:=uS s P T (h0::ht) j l f i t br p .ae v cs) (gw (aV (qo (st1:=uS s P T (h0::ht) j l f i t br p .ae v cs) (by rfl') (by rfl') ((by rfl':jG cs (ld (h0::ht)) (.int 0)=dP ((h0::ht).map il) ((0:ak):a0)).trans (Ng rfl (by decide)))) rfl) rfl) (fO (cW (HU cs (d+32)) h0 (hs h0 (.head _)))))
 have dj:ev (NV (aq (d+42))) 298 (.e (.cU (.l 10) (Bc (.cI 1)) VG)) (uS s P T (h0::ht) j l f i t br p (.sh (il (bR h0))) v cs)=vD (ld ht) (uS s P T (h0::ht) j l f i t br p (.sh (il (bR h0))) v cs):=by
  have q:ev (NV (aq (d+42))) 298 (.e (.cU (.l 10) (Bc (.cI 1)) VG)) (uS s P T (h0::ht) j l f i t br p (.sh (il (bR h0))) v cs)=((oS (nR (ld (h0::ht)) (Bc 1) VG) (uS s P T (h0::ht) j l f i t br p (.sh (il (bR h0))) v cs)).bC).iK λs st=>oD (fz s) st:=by rfl'
  have z:nR (ld (h0::ht)) (Bc 1) VG=Bc (.o (ht.map il)):=by show bY (aM ((h0::ht).map il)) (Slot.o (gu (il h0::ht.map il) (Bc 1) VG))=_;rw[sm (by rw[fx,hS];exact q8),Jo];rfl
  rw[z]at q;exact q
 obtain⟨kB,cQ,h1,QM⟩:=abp ht (bR h0) (.sh (il (bR h0))) br (λy m=>hs y (.tail _ m)) (.inl rfl) q0;refine⟨kB,cQ,by rw[hx];exact h1,?_⟩;rw[aam,aB s14,aB (rA dj rfl QM)]
theorem Z3(K:Tx b0 F)(L:P.length<=900)(M:(k::A).length<=50)(C:(k::A).all dQ=D1)(G:aq (d+42) 159 [il P,.ref 1,.ref 12] (yh w k A u)=.ok (.sh (.list (jH::ww (bE (k::A))))) (yh w k A u)):∃st,cA (ev (NV (aq (d+42))) 299) [wQ,uf,uy,wU] (uS s P T H j l f i t br p b0 v (yh w k A u))=.ok (.ret (.sh (.bool D1))) st:=by
 have I:ev (NV (aq (d+42))) 296 (.e Cc) (uS s P T H j l f i t br p b0 v (yh w k A u))=vD (.list (jH::ww (bE (k::A)))) (uS s P T H j l f i t br p b0 v (yh w k A u)):=aV (x_call (st1:=uS s P T H j l f i t br p b0 v (yh w k A u)) (gw (aV (x_call (st1:=uS s P T H j l f i t br p b0 v (yh w k A u)) (by rfl') (fO (oG (by rw[fx];exact q0)))) rfl) (by rfl')) (fO G)) rfl
 have B:∀(n:ak)(g:aA),ev (NV (aq (d+42))) (n+6) (.t (.jB (.l 3) g)) (uS s P T H j l f i t br p b0 v (yh w k A u))=vB (Un !=g) (uS s P T H j l f i t br p b0 v (yh w k A u)):=λn g=>by
  have q:ev (NV (aq (d+42))) (n+6) (.t (.jB (.l 3) g)) (uS s P T H j l f i t br p b0 v (yh w k A u))=((bk (fF dJ (ww (k::A))) (vB (Un !=g) (uS s P T H j l f i t br p b0 v (yh w k A u)))).bC).bindB λb st=>vB b st:=by rfl'
  rw[B6]at q;exact q
 have o:dE .Add (.list [jH]) (.list (ww (bE (k::A))))=Bc (.o (jH::ww (bE (k::A)))):=by show bY (aM [jH]&&aM (ww (bE (k::A)))) (Slot.o ([jH]++ww (bE (k::A))))=_;rw[sm (l:=ww (bE (k::A))) (by rw[fx,Bp];exact q0)];rfl
 have J:ev (NV (aq (d+42))) 296 (.e FI) (uS s P T H j l f i t br p b0 v (yh w k A u))=vD (.list (jH::ww (bE (k::A)))) (uS s P T H j l f i t br p b0 v (yh w k A u)):=aV (za (B 288 Un) (aV (ij (st1:=uS s P T H j l f i t br p b0 v (yh w k A u)) (by rfl') (aV (x_call (st1:=uS s P T H j l f i t br p b0 v (yh w k A u)) (by rfl') (fO (OI q8))) rfl) o) rfl)) rfl
 have mA:=ew (n:=298) (x:=[.av]) (y:=[]) (fX (op:=.NotEq) I J (by show(gX (.list (ww (O4::bE (k::A)))) (.list (ww (O4::bE (k::A))))).map (!.)=_;rw[IB (by rw[Nf,Bx C];rfl)];rfl))
 rw[ej (by decide)]at mA
 have sH:=ew (n:=298) (x:=[.ret (.cT D1)]) (y:=[]) (B 292 D1)
 rw[eI (by rfl)]at sH
 have AN:ev (NV (aq (d+42))) 298 (.ss [.ret (.cT D1)]) (uS s P T H j l f i t br p b0 v (yh w k A u))=.ok (.ret (.sh (.bool D1))) (uS s P T H j l f i t br p b0 v (yh w k A u)):=by rfl'
 exact⟨_,(aB (mA.trans rfl)).trans (ik (sH.trans AN))⟩
theorem VZ(k:Tx a F)(M:P.length<=900)(N:F.length<=900)(O:T.length<=900)(r:aq (d+42) 159 [il P,.ref 1,.ref 12] (KB w (FD []) u [])=.ok (.sh (il F)) (KB w (FD []) u []))(y:aq (d+42) 157 [il F,.ref 1,.ref 12] (KB w (FD []) u [])=.ok (Ba T) (KB w (FD []) u []))(B:aq (d+42) 159 [il F,.ref 1,.ref 12] (KB w (FD []) u [])=.ok (.sh (il F)) (KB w (FD []) u [])):∃C,cA (ev (NV (aq (d+42))) 299) [wQ,uf,uy,wU] (uS s P T H j l f i t b p a v (KB w (FD []) u []))=.ok (.ret (.sh (.bool D1))) C:=by
 have G:ev (NV (aq (d+42))) 296 (.e Cc) (uS s P T H j l f i t b p a v (KB w (FD []) u []))=vD (il F) (uS s P T H j l f i t b p a v (KB w (FD []) u [])):=aV (x_call (st1:=uS s P T H j l f i t b p a v (KB w (FD []) u [])) (gw (aV (x_call (st1:=uS s P T H j l f i t b p a v (KB w (FD []) u [])) (by rfl') (fO (oG (by rw[fx];exact q0)))) rfl) (by rfl')) (fO r)) rfl
 have I:ev (NV (aq (d+42))) 296 (.e FI) (uS s P T H j l f i t b p a v (KB w (FD []) u []))=vD (il F) (uS s P T H j l f i t b p (.sh (il F)) v (KB w (FD []) u [])):=aV (BF (st1:=uS s P T H j l f i t b p a v (KB w (FD []) u [])) (by rfl') (by rcases k with rfl|rfl<;>rfl')) rfl
 have m:=ew (x:=[.av]) (y:=[]) (fX (op:=.NotEq) G I (by show(gX (il F) (il F)).map (!.)=_;rw[BE];rfl))
 rw[ej (by decide)]at m
 have c:ev (NV (aq (d+42))) 299 (.s uy) (uS s P T H j l f i t b p (.sh (il F)) v (KB w (FD []) u []))=.ok .ay (uS s P T H j l f i t b p (.sh (il F)) (Ba T) (KB w (FD []) u [])):=fw (n:=298) (x_call (ds:=[il F,.ref 1,.ref 12]) (st1:=uS s P T H j l f i t b p (.sh (il F)) v (KB w (FD []) u [])) (gw (aV (x_call (N:=NV (aq (d+42))) (ds:=[il F]) (st1:=uS s P T H j l f i t b p (.sh (il F)) v (KB w (FD []) u [])) (by rfl') (fO (oG (by rw[fx];exact q0)))) rfl) (by rfl')) (fO y))
 have J:ev (NV (aq (d+42))) 296 (.e Dt) (uS s P T H j l f i t b p (.sh (il F)) (Ba T) (KB w (FD []) u []))=vD (.bool D1) (uS s P T H j l f i t b p (.sh (il F)) (Ba T) (KB w (FD []) u [])):=aV (uJ (st1:=uS s P T H j l f i t b p (.sh (il F)) (Ba T) (KB w (FD []) u [])) (aV (x_call (ds:=[il T]) (st1:=uS s P T H j l f i t b p (.sh (il F)) (Ba T) (KB w (FD []) u [])) (by rfl') (fO (oG (by rw[fx];exact q0)))) rfl) (by rfl') BE) rfl
 have K:ev (NV (aq (d+42))) 296 (.e F3) (uS s P T H j l f i t b p (.sh (il F)) (Ba T) (KB w (FD []) u []))=vD (.bool D1) (uS s P T H j l f i t b p (.sh (il F)) (Ba T) (KB w (FD []) u [])):=by rfl'
 have L:ev (NV (aq (d+42))) 296 (.e Ff) (uS s P T H j l f i t b p (.sh (il F)) (Ba T) (KB w (FD []) u []))=vD (.bool D1) (uS s P T H j l f i t b p (.sh (il F)) (Ba T) (KB w (FD []) u [])):=aV (uJ (aV (x_call (ds:=[il F,.ref 1,.ref 12]) (st1:=uS s P T H j l f i t b p (.sh (il F)) (Ba T) (KB w (FD []) u [])) (gw (aV (x_call (ds:=[il F]) (st1:=uS s P T H j l f i t b p (.sh (il F)) (Ba T) (KB w (FD []) u [])) (by rfl') (fO (oG (by rw[fx];exact q0)))) rfl) (by rfl')) (fO B)) rfl) (by rfl') BE) rfl
 have X:ev (NV (aq (d+42))) 297 (.x (.bj .And [Dt,F3,Ff])) (uS s P T H j l f i t b p (.sh (il F)) (Ba T) (KB w (FD []) u []))=.ok (.o (.sh (.bool D1))) (uS s P T H j l f i t b p (.sh (il F)) (Ba T) (KB w (FD []) u [])):=Vu J K L
 have h:ev (NV (aq (d+42))) 299 (.s uf) (uS s P T H j l f i t b p (.sh (il F)) v (KB w (FD []) u []))=.ok .ay (uS s P T H j l f i t b p (.sh (il F)) v (KB w (FD []) u [])):=by rfl'
 exact⟨_,(aB (m.trans rfl)).trans ((aB h).trans ((aB c).trans (ik (nD (aV X rfl)))))⟩
end
section
variable{u:aA}{d:ak}{p:ai a0}{r:ai (ai a0)}{a:Cell}
theorem YC(Y:∀b∈f,b∈PC)(c:Clean u f):∀b∈f,Due u b:=λb m=>by
 refine Tt (Y b m) ?_ (c.ws b m) ?_
 .cases i:cD u b with|false=>rfl|true=>
  have :=c.mv
  rw[List.any_eq_true.mpr ⟨b,m,i⟩]at this;exact no this.symm
 .have h:bU (md u b)∈aK u f:=List.mem_map.mpr ⟨_,List.mem_map.mpr (aF b m rfl),rfl⟩;cases j:rZ (bU (md u b))with|false=>rfl|true=>cases k:ey (bU (md u b))with|true=>rfl|false=>have l:ky (aK u f)=D1:=List.any_eq_true.mpr (aF _ h j);have t:((aK u f).any λs=>!ey s)=D1:=List.any_eq_true.mpr (aF _ h (aa k rfl));have :=c.two;rw[l,t]at this;exact no this.symm
theorem El(h:∀b∈c,Due u b):aK u (c.map (cR u))=aK u c:=by unfold aK;refine aa nA (aa nA (aa nA ?_));refine C' λb m=>?_;show bU (md u (cR u b))=bU (md u b);exact aa ((h b m).Hh) (aa ((h b m).sh') rfl)
theorem M3(h:∀b∈ps,Due u b)(c:Clean u ps):fC u (ps.map (cR u))=[]:=by
 have l:(ps.map (cR u)).any (cD u)=Un:=by cases s:(ps.map (cR u)).any (cD u)with|false=>rfl|true=>
refine cps λP k=>?_
obtain⟨f,j,i⟩:=List.any_eq_true.mp s
refine k ?_;clear k P
obtain⟨b,m,rfl⟩:=List.mem_map.mp j
rw[(h b m).di]at i;exact no i
 have t:((ps.map (cR u)).map (md u)).flatMap dR=[]:=by
  refine List.flatMap_eq_nil_iff.mpr λf j=>?_
  obtain⟨y,v,rfl⟩:=List.mem_map.mp j
  obtain⟨b,m,rfl⟩:=List.mem_map.mp v;exact aa ((h b m).Hh) (aa ((h b m).Xl) rfl)
 unfold fC;refine aa (El h) (aa c.two (aa (ej (by decide)) ?_));unfold eR;exact aa l (aa t rfl)
theorem Wz(h:∀b∈f,Due u b)(c:Clean u f):gQ u (f.map (cR u))=[]:=by unfold gQ;exact aa (El h) (aa c.em (aa (ej (by decide)) (aa (M3 h c) rfl)))
theorem last(I:∀q∈p::r,q∈PC)(Y:r.length<=2)(F:kR a)(J:Tx kB (be 0 ((aK u (p::r)).map bR))):∃st,cA (ev (NV (aq (d+42))) 299) [wQ,uf,uy,wU] (uS s (p++j1 r) (be 0 (aK u (p::r))) (aK u (p::r)) x6 x7 x8 x9 aJ br (.sh (.u [il (be 0 (aK u (p::r))),.list (ww (bE (fC u (p::r))))])) kB .ae (KB a (FD (gQ u (p::r))) u []))=.ok (.ret (.sh (.bool D1))) st:=by
 have G:∀q∈p::r,PG u q:=λq m=>(PO (I q m)).pg
 have A:=rh G
 have B:aK u (p::r)≠[]:=by unfold aK;simp
 have Z:(aK u (p::r)).length<=3:=by unfold aK;rw[fx,fx,hS];lia
 have j:(p++j1 r).length<=100:=gY (n7 λq m=>(G q m).lp) (pU (by lia) (ir _))
 have v:=qk (by lia) λy m=>(pJ y (A y m)).1
 have w:=qk (H:=(aK u (p::r)).map bR) (by rw[fx];lia) λy m=>by obtain⟨z,P,rfl⟩:=List.mem_map.mp m;exact(pJ z (A z P)).2
 have C:=OV (d:=d) (X:=KB a (FD (gQ u (p::r))) u []) (.inr rfl) (Bu F) G (by lia)
 rw[Hj A B,Zd3 A B]at C
 have Q:=KP (u:=u) (ps:=p::r) (aa hS (by lia))
 have U:(gQ u (p::r)).length<=7:=by
  unfold gQ
  split
  .have :=Ht (w:=gM) (ks:=fC u (p::r));lia
  .lia
 have K:(gQ u (p::r)).all dQ=D1:=lg.mpr λx m=>by
  rcases nG.mp ((CH A B x).mpr m)with m|m
  .exact lg.mp (xl (aa hS (by lia))).2 x ((LS x).mp m)
  .exact aa (((JY A B x).mp m).1) rfl
 cases H:gQ u (p::r)with|cons k b=>rw[H]at C U K;exact Z3 J (by lia) (by lia) K C|nil=>
rw[H]at C
have c:=clean H
have D:=YC I c
have L:∀q∈cR u p::r.map (cR u),PG u q:=λq m=>by obtain⟨x,V,rfl⟩:=List.mem_map.mp (show q∈(p::r).map (cR u)from m);exact(D x V).pg
have es:aK u (cR u p::r.map (cR u))=aK u (p::r):=El D
have W:fC u (cR u p::r.map (cR u))=[]:=M3 (ps:=p::r) D c
have X:gQ u (cR u p::r.map (cR u))=[]:=Wz D c
have M:be 0 ((aK u (p::r)).map bR)=cR u p++j1 (r.map (cR u)):=by
 have :(aK u (p::r)).map bR=cR u p::r.map (cR u):=by unfold aK;exact aa nA (aa nA rfl)
 exact aa this (aa z9 rfl)
have N:=O2 (d:=d+1) (X:=KB a (FD []) u []) (.inr rfl) (Bu F) L (by rw[fx];lia)
rw[NH,W,es,<-M]at N;have O:=OV (d:=d) (X:=KB a (FD []) u []) (.inr rfl) (Bu F) L (by rw[fx];lia);rw[Hj (by rw[es];exact A) (by rw[es];exact B),X,es,<-M]at O;exact VZ J (by lia) (by lia) (by lia) C N O
theorem QA(l:ai a0)(j:l.length<=63):∃cs,aq (d+43) 176 [.list (l.map .int)] []=.ok (.sh (.bool D1)) cs:=by
 refine cps λP k=>?_
 obtain⟨u,p,r,y,a,s,t,h,f,v⟩:=Si (d:=d) j
 refine k ?_;clear k P
 have i:∀b∈p::r,b∈PC:=λb m=>by
  rcases hZ.mp m with rfl|m
  .exact s
  .exact t b m
 have c:∀b∈p::r,xB u b:=λb m=>PO (i b m)
 refine cps λP k=>?_
 obtain⟨w,A⟩:=adP (d:=d) (dk:=a) (s:=il l) (y6:=y) c h
 obtain⟨L,C⟩:=RN (d:=d) (s:=il l) (x6:=y) (x7:=.sh (il (oL (aY u (p++j1 r))))) (x8:=.sh (ld ((p::r).map (md u)))) (x9:=w) (aJ:=.sh (.list (kk (aK u (p::r))))) c h f
 refine k ?_;clear k P
 have F:=rh λb m=>(c b m).pg
 obtain⟨M,G,H,I⟩:=We F (by rw[fx,fx];lia)
 obtain⟨J,K⟩:=last i h f H
 have B:cu (NV (aq (d+42))) 176 [il l] []=fin (cA (ev (NV (aq (d+42))) 299) gD ⟨[.sh (il l),.ae,.ae,.ae,.ae,.ae,.ae,.ae,.ae,.ae,.ae,.ae,.ae,.ae,.ae,.ae,.ae],[]⟩):=by rfl'
 refine⟨J.cells,?_⟩
 show aq (d+42+1) 176 [il l] []=_;refine aa (cN (by rfl)) (aa B (aa v (aa A ?_)));have W:=C.trans (I.trans K);exact(gO fin W).trans rfl
end
end Mine.L
end
section
open PySem PySem.W PySem.Calls PyProof.Rows Mine MH
namespace MG
noncomputable section
noncomputable def CS{α:Sort _}(d:Yj)(z:α)(f:e8->α):α:=if h:d.ctorIdx=8 then aqm (motive:=λY=>α) d h f else z
@[elab_as_elim]theorem WO{α:Sort _}{P:α->Prop}{M:Yj->Prop}{d:Yj}{z:α}{f:e8->α}(n:¬P z)(h:P (CS d z f))(k:∀x0,P (f x0)->M (.type x0)):M d:=if e:d.ctorIdx=8 then aqm d e k h else aL ((dif_neg e:CS d z f=z)▸h) n
noncomputable def Gy{α:Sort _}(d:Yj)(z:α)(f:a7->α):α:=if h:d.ctorIdx=10 then arb (motive:=λY=>α) d h f else z
@[elab_as_elim]theorem acO{α:Sort _}{P:α->Prop}{M:Yj->Prop}{d:Yj}{z:α}{f:a7->α}(n:¬P z)(h:P (Gy d z f))(k:∀x0,P (f x0)->M (.ref x0)):M d:=if e:d.ctorIdx=10 then arb d e k h else aL ((dif_neg e:Gy d z f=z)▸h) n
noncomputable def DX{α:Sort _}(d:Yj)(z:α)(f:a0->Tok->α):α:=if h:d.ctorIdx=4 then arc (motive:=λY=>α) d h f else z
@[elab_as_elim]theorem abb{α:Sort _}{P:α->Prop}{M:Yj->Prop}{d:Yj}{z:α}{f:a0->Tok->α}(n:¬P z)(h:P (DX d z f))(k:∀x0 x1,P (f x0 x1)->M (.int x0 x1)):M d:=if e:d.ctorIdx=4 then arc d e k h else aL ((dif_neg e:DX d z f=z)▸h) n
noncomputable def B3{α:Sort _}(d:Yj)(z:α)(f:Str->Tok->α):α:=if h:d.ctorIdx=6 then x! (motive:=λY=>α) d h f else z
@[elab_as_elim]theorem U6{α:Sort _}{P:α->Prop}{M:Yj->Prop}{d:Yj}{z:α}{f:Str->Tok->α}(n:¬P z)(h:P (B3 d z f))(k:∀x0 x1,P (f x0 x1)->M (.str x0 x1)):M d:=if e:d.ctorIdx=6 then x! d e k h else aL ((dif_neg e:B3 d z f=z)▸h) n
noncomputable def Ee{α:Sort _}(d:Data)(z:α)(f:iO Yj->ak->α):α:=if h:d.ctorIdx=2 then asf (motive:=λY=>α) d h f else z
@[elab_as_elim]theorem ad6{α:Sort _}{P:α->Prop}{M:Data->Prop}{d:Data}{z:α}{f:iO Yj->ak->α}(n:¬P z)(h:P (Ee d z f))(k:∀x0 x1,P (f x0 x1)->M (.seq x0 x1)):M d:=if e:d.ctorIdx=2 then asf d e k h else aL ((dif_neg e:Ee d z f=z)▸h) n
noncomputable def pZ{α:Sort _}(d:Data)(z:α)(f:iO kJ->ak->α):α:=if h:d.ctorIdx=3 then ars (motive:=λY=>α) d h f else z
@[elab_as_elim]theorem Of{α:Sort _}{P:α->Prop}{M:Data->Prop}{d:Data}{z:α}{f:iO kJ->ak->α}(n:¬P z)(h:P (pZ d z f))(k:∀x0 x1,P (f x0 x1)->M (.dict x0 x1)):M d:=if e:d.ctorIdx=3 then ars d e k h else aL ((dif_neg e:pZ d z f=z)▸h) n
def ob(P:ei)(a:a7):Obj:=((bt 11 (nS P)).get a).getD default
noncomputable def Mv(a:Obj):aA:=!Nat.beq a.data.ctorIdx 10
def fB(P:ei)(a:a7):aA:=ys a 847&&((!Nat.beq a 145)&&(((bt 11 (nS P)).get a).isSome&&Mv (ob P a)))
theorem SU:Mv o=D1->alive o=Bc o:=Obj.casesOn o λY Y d Y=>by cases d<;>first|exactλY=>rfl|exactλh=>no h
theorem HA(h:fB P a=D1):(H1 P).get? a=Bc (ob P a)/\a≠145:=aU (iA h) λi h=>aU (iA h) λj h=>aU (iA h) λk d=>(Option.isSome_iff_exists.mp k).elim λb f=>by have c:ob P a=b:=gO (Option.getD . default) f;rw[c]at d⊢;exact⟨(abs_get (mc i) f).trans (SU d),λc=>no (((gO (λa=>!Nat.beq a 145) c).symm.trans j:Un=D1))⟩
noncomputable def zl(h:ff):ff:=h.update 145 λa=>{a with data:=.freed}
theorem yW:(zl h).get? a=if a=145 then VG else h.get? a:=by
 show ff.get? ⟨h.objs.modify 145 _,_⟩ a=_
 unfold ff.get?
 dsimp only
 rw[Array.getElem?_modify]
 by_cases b:a=145
 .rw[eI b.symm,eI b];cases h.objs[a]?<;>rfl
 .rw[ej (ng b),ej b]
def Sub(P:ei)(h:ff):Prop:=∀a,fB P a=D1->h.get? a=Bc (ob P a)
theorem X6(y:YP w h):Sub w.params (zl h):=λa k=>aU (HA k) λb c=>yW.trans ((ej c).trans (y _ _ b))
theorem Qa(y:YP w h):Sub w.params h:=λa k=>y _ _ (HA k).1
noncomputable def EV(s:e8)(v:Yj):aA:=CS v Un λt=>decide (t=s)
theorem Hq(h:EV s v=D1):v=.type s:=WO (P:=(.=D1)) (M:=λv=>v=.type s) xa h λY h=>gO _ (hQ h)
def yj(P:ei)(s:e8)(a:a7):aw Data:=if fB P a&&(EV s (ob P a).cls&&((ob P a).dict.isNone&&(ob P a).slots.toList.isEmpty))then Bc (ob P a).data else VG
theorem Wq{a:Obj}(h:a.cls=c)(b:a.dict.isNone=D1)(f:a.slots.toList.isEmpty=D1):a={cls:=c,data:=a.data}:=h▸(congr (gO (λd=>Obj.mk a.cls d a.data) (Option.isNone_iff_eq_none.mp b)) (Array.toList_eq_nil_iff.mp (List.isEmpty_iff.mp f)):Obj.mk a.cls a.dict a.data a.slots=_)
theorem JQ(S:Sub P h)(b:yj P s a=Bc d):h.get? a=Bc {cls:=.type s,data:=d}:=lV (P:=(.=Bc d)) b (λc b=>aU (iA c) λf c=>aU (iA c) λi c=>aU (iA c) λj k=>(S a f).trans (gO Bc ((Wq (Hq i) j k).trans (gO (λd=>({cls:=.type s,data:=d}:Obj)) (eF b))))) λY b=>bh b
def Gm(P:ei)(s:e8)(a:a7):aw (ai Yj):=(yj P s a).bind λd=>Ee d VG λb Y=>Bc b.toList
theorem Nc(S:Sub P h)(b:Gm P s a=Bc v):∃c,h.get? a=Bc {cls:=.type s,data:=.seq v.toArray c}:=aj (dA b) λd f i=>ad6 (P:=(.=Bc v)) (M:=λd=>yj P s a=Bc d->∃c,h.get? a=Bc {cls:=.type s,data:=.seq v.toArray c}) (λh=>bh h) i (λj c b f=>⟨c,(JQ S f).trans (eF b▸rfl)⟩) f
def HL(P:ei)(a:a7):aw (ai kJ):=(yj P "dict" a).bind λd=>pZ d VG λb Y=>Bc b.toList
theorem Uc(S:Sub P h)(b:HL P a=Bc v):∃c,h.get? a=Bc (bP v c):=aj (dA b) λd f i=>Of (P:=(.=Bc v)) (M:=λd=>yj P "dict" a=Bc d->∃c,h.get? a=Bc (bP v c)) (λh=>bh h) i (λj c b f=>⟨c,(JQ S f).trans (eF b▸rfl)⟩) f
def GP(d:D)(a:a0):aA:=!Nat.beq d.ctorIdx 3&&iG d (mq d D1 λl=>cY (fV l) D1 λk=>decide (a=CU k)) λi=>decide (a=wS i)
theorem Yc:GP d n=D1->pM P d n:=by cases d with|str=>exactλh=>no h|int i=>exactλh=>hQ (p:=n=wS i) (iA h).2|u l=>exactλh k a=>hQ (((gO (λb=>cY b D1 λk=>decide (n=CU k)) a).symm.trans (iA h).2))|_=>exactλY=>trivial
noncomputable def mf(v:Yj):aw a7:=Gy v VG Bc
theorem uu(h:mf v=Bc a):v=.ref a:=acO (P:=(.=Bc a)) (M:=λv=>v=.ref a) (λh=>bh h) h λY h=>gO _ (eF h)
def gK{b:Type}(a:aw b)(f:b->aA):aA:=cY a Un f
theorem iC{f:b->aA}(h:gK o f=D1):∃a,o=Bc a/\f a=D1:=gC (P:=(.=D1)) (M:=λo=>∃a,o=Bc a/\f a=D1) xa h λa h=>⟨a,rfl,h⟩
def all2{c d:Type}(p:c->d->aA):ai c->ai d->aA:=e! (λl=>l.isEmpty) λa Y h l=>ny (motive:=λY=>aA) l Un λb t=>p a b&&h t
def EE(P:ei)(c:ak):D->Yj->aA:=c.rec (λY Y=>Un) λY r d v=>D.casesOn (motive_1:=λY=>aA) d (decide (v=.none)) (λb=>decide (v=.bool b)) (λi=>DX v Un λj Y=>decide (j=i)) (λs=>B3 v Un λt Y=>decide (t.cps.toList=s)) (λY=>Un) (λl=>gK (mf v) λa=>gK (Gm P "list" a) λh=>all2 r l h) (λl=>gK (mf v) λa=>gK (Gm P "tuple" a) λh=>all2 r l h) (λm p=>gK (mf v) λa=>gK (HL P a) λk=>all2 (λd(f:kJ)=>r d f.key&&GP d f.hash) m k&&all2 (λd(f:kJ)=>r d f.val) p k) (λu=>decide (v=u)) (λY=>Un)
abbrev Sh(h:ff)(a:a7)(b:Obj):Prop:=h.get? a=Bc b
theorem Hf{p:a->b->aA}(h:all2 p [] l=D1):l=[]:=List.isEmpty_iff.mp h
theorem NW{r:ai c}{l:ai d}:all2 p (a::r) l=D1->∃b t,l=b::t/\p a b=D1/\all2 p r t=D1:=l.casesOn (λh=>no h) λb t h=>⟨b,t,rfl,iA h⟩
section
variable{P:ei}{h:ff}{p:D->Yj->aA}(H:∀{d v},p d v=D1->Rd P [] (Sh h) d v)
include H
theorem CX:∀{v:ai Yj},all2 p l v=D1->aC P [] (Sh h) l v:=by induction l with|nil=>exactλa=>Hf a▸.nil|cons d l i=>exactλa=>dG (NW a) λb t c f j=>c▸.cons (H f) (i j)
theorem aas:∀{i:ai D}{j:ai kJ},all2 (λd(a:kJ)=>p d a.key&&GP d a.hash) l j=D1->all2 (λd(a:kJ)=>p d a.val) i j=D1->cL P [] (Sh h) l i j:=by induction l with|nil=>exactλ{i j}a=>Hf a▸i.casesOn (λY=>.nil) λY Y c=>no c|cons k l r=>exactλ{i j}a=>dG (NW a) λb t f m s=>f▸i.casesOn (λc=>no c) λd i c=>.cons (H (iA m).1) (Yc (iA m).2) (H (iA c).1) (r s (iA c).2)
end
theorem IQ(S:Sub P h):∀{d:D}{v:Yj},EE P n d v=D1->Rd P [] (Sh h) d v:=by induction n with|zero=>exactλe=>no e|succ n C=>exactλ{d v}=>D.casesOn d (λe=>(hQ e:v=.none)▸.none) (λb e=>(hQ e:v=.bool b)▸.bool b) (λi e=>abb (P:=(.=D1)) (M:=λv=>Rd P [] (Sh h) (.int i) v) xa e λj t e=>(hQ e:j=i)▸.int j t) (λs e=>U6 (P:=(.=D1)) (M:=λv=>Rd P [] (Sh h) (.str s) v) xa e λx t e=>(hQ e:x.cps.toList=s)▸.str x t) (λY e=>no e) (λl e=>aj (iC e) λa A e=>aj (iC e) λF B e=>uu A▸(Nc S B).elim λn q=>.list q (CX C e)) (λl e=>aj (iC e) λa A e=>aj (iC e) λF B e=>uu A▸(Nc S B).elim λn q=>.u q (CX C e)) (λG ds e=>aj (iC e) λa A e=>aj (iC e) λes B e=>uu A▸(Uc S B).elim λn q=>.dict q (aas C (iA e).1 (iA e).2)) (λu e=>(hQ e:v=u).symm▸.val u) (λY e=>no e)
noncomputable def sM(a:Obj):ai kJ:=pZ a.data [] λb Y=>b.toList
noncomputable def HS(v:Yj):aA:=js v.ctorIdx 6
noncomputable def yQ(a:Obj):aA:=pZ a.data Un λc Y=>c.toList.all λb=>HS b.key
noncomputable def oI(l:ai kJ)(a:Str):aw Yj:=(l.find? λb=>b.key.isStr a).map (·.val)
theorem aeu{h:ff}(b:h.get? a=Bc o)(c:o.data=d)(i:pZ d Un (λk Y=>k.toList.all λc=>HS c.key)=D1):h.Ns a (oI (pZ d [] λk Y=>k.toList)):=Of (P:=(.=D1)) (M:=λd=>o.data=d->h.Ns a (oI (pZ d [] λk Y=>k.toList))) xa i (λk f i c=>⟨o,k,f,b,c,λc m=>x! c.key (rx (lg.mp i c (Array.mem_toList_iff.mpr m))) λs t=>⟨s,t,rfl⟩,λj=>gO (V' λc:kJ=>c.val) Array.find?_toList.symm⟩) c
theorem wV(S:Sub P h)(k:fB P a=D1)(i:yQ (ob P a)=D1):h.Ns a (oI (sM (ob P a))):=aeu (S a k) rfl i
end
noncomputable section
def EZ:kG Str:=.nd 89 "RIGHT_CLASSES" (.nd 44 "damp" (.nd 22 "form_expanded" (.nd 11 "LEAD_FIRST" (.nd 5 "is_code" (.nd 2 "MAX_CODE" (.nd 1 "told" (.l1 0 "get") .lf) (.nd 4 "LOW_LAST" (.l1 3 "HIGH_FIRST") .lf)) (.nd 8 "SYLLABLE_FIRST" (.nd 7 "len" (.l1 6 "is_surrogate") .lf) (.nd 10 "is_hangul_syllable" (.l1 9 "SYLLABLES") .lf))) (.nd 17 "hangul_parts" (.nd 14 "VOWELS" (.nd 13 "LEADS" (.l1 12 "VOWEL_FIRST") .lf) (.nd 16 "TAIL_NONE" (.l1 15 "TAILS") .lf)) (.nd 20 "weight" (.nd 19 "form_sorted" (.l1 18 "form_mapping") .lf) (.l1 21 "code")))) (.nd 33 "decomposed" (.nd 28 "seconds" (.nd 25 "ranges" (.nd 24 "map_of" (.l1 23 "ordered") .lf) (.nd 27 "primary_composites" (.l1 26 "pairs") .lf)) (.nd 31 "pair" (.nd 30 "Composer" (.l1 29 "hangul_pair") .lf) (.l1 32 "max"))) (.nd 39 "list" (.nd 36 "is_second" (.nd 35 "form_of" (.l1 34 "composed") .lf) (.nd 38 "quick_check" (.l1 37 "form_quick") .lf)) (.nd 42 "most" (.nd 41 "least" (.l1 40 "base") .lf) (.l1 43 "skew"))))) (.nd 67 "adapted" (.nd 56 "is_scalar" (.nd 50 "SMALL_A" (.nd 47 "LETTERS" (.nd 46 "first" (.l1 45 "bias") .lf) (.nd 49 "CAPITAL_A" (.l1 48 "NOUGHT") .lf)) (.nd 53 "puny_figure" (.nd 52 "threshold" (.l1 51 "FIGURES") .lf) (.nd 55 "puny_value" (.l1 54 "BadLabel") .lf))) (.nd 62 "puny_basic" (.nd 59 "CASE_BIT" (.nd 58 "one" (.l1 57 "min") .lf) (.nd 61 "PunyNumbers" (.l1 60 "puny_check") .lf)) (.nd 65 "puny_least_from" (.nd 64 "HYPHEN_punycode" (.l1 63 "puny_cased") .lf) (.l1 66 "puny_number")))) (.nd 78 "contexts" (.nd 73 "is_transitional" (.nd 70 "puny_is_capital" (.nd 69 "puny_split" (.l1 68 "bytes") .lf) (.nd 72 "decode_annotated" (.l1 71 "puny_number_at") .lf)) (.nd 76 "joiners" (.nd 75 "hyphens" (.l1 74 "only_letters") .lf) (.l1 77 "directions"))) (.nd 84 "STOP" (.nd 81 "idna_status" (.nd 80 "HYPHEN_idna" (.l1 79 "lengths") .lf) (.nd 83 "nfc" (.l1 82 "idna_mapped") .lf)) (.nd 87 "idna_last_class" (.nd 86 "idna_classes" (.l1 85 "any") .lf) (.l1 88 "word")))))) (.nd 134 "RangeMap" (.nd 112 "encode_label" (.nd 101 "PREFIX" (.nd 95 "idna_code_words" (.nd 92 "is_form" (.nd 91 "idna_is_plain" (.l1 90 "LEFT_CLASSES") .lf) (.nd 94 "MARKS" (.l1 93 "idna_hyphen_words") .lf)) (.nd 98 "idna_may_join" (.nd 97 "NON_JOINER" (.l1 96 "JOINER") .lf) (.nd 100 "decode_label" (.l1 99 "idna_has_company") .lf))) (.nd 107 "idna_labels" (.nd 104 "idna_opened" (.nd 103 "idna_is_ascii" (.l1 102 "idna_label_words") .lf) (.nd 106 "map_label" (.l1 105 "sorted") .lf)) (.nd 110 "idna_has_one_way" (.nd 109 "idna_is_mixed" (.l1 108 "idna_shown") .lf) (.l1 111 "idna_settled")))) (.nd 123 "values" (.nd 118 "idna_length_words" (.nd 115 "MOST_DOMAIN" (.nd 114 "idna_joined" (.l1 113 "MOST_LABEL") .lf) (.nd 117 "idna_written" (.l1 116 "process") .lf)) (.nd 121 "default" (.nd 120 "bool" (.l1 119 "isinstance") .lf) (.l1 122 "starts"))) (.nd 129 "data_defaults" (.nd 126 "row" (.nd 125 "range_are_like" (.l1 124 "place_by_half") .lf) (.nd 128 "defaults" (.l1 127 "range_rows") .lf)) (.nd 132 "words" (.nd 131 "properties" (.l1 130 "maps") .lf) (.l1 133 "put"))))) (.nd 157 "to_unicode" (.nd 146 "to_ascii" (.nd 140 "k" (.nd 137 "pop" (.nd 136 "int" (.l1 135 "cell") .lf) (.nd 139 "_law_rows" (.l1 138 "Data") .lf)) (.nd 143 "at" (.nd 142 "mate" (.l1 141 "kind") .lf) (.nd 145 "tuple" (.l1 144 "_law_known") .lf))) (.nd 152 "_law_mapped" (.nd 149 "IdnaFlags" (.nd 148 "_law_data" (.l1 147 "_law_deck") .lf) (.nd 151 "_law_pieces" (.l1 150 "_law_draw") .lf)) (.nd 155 "lot" (.nd 154 "_law_shown" (.l1 153 "label") .lf) (.l1 156 "_law_two_way")))) (.nd 168 "RangeMap.__init__" (.nd 163 "Composer.is_second" (.nd 160 "UniError.__init__" (.nd 159 "_law_told" (.l1 158 "_law_written") .lf) (.nd 162 "Composer.pair" (.l1 161 "Composer.__init__") .lf)) (.nd 166 "PunyNumbers.adapted" (.nd 165 "PunyNumbers.threshold" (.l1 164 "PunyNumbers.__init__") .lf) (.l1 167 "IdnaFlags.__init__"))) (.nd 174 "Data.get" (.nd 171 "RangeMap.ranges" (.nd 170 "RangeMap.put" (.l1 169 "RangeMap.get") .lf) (.nd 173 "Data.put" (.l1 172 "Data.__init__") .lf)) (.nd 177 "UniError" (.nd 176 "law" (.l1 175 "Data.map_of") .lf) (.l1 178 "list"))))))
def sN:kG Yj:=.nd 92 (.ref 251) (.nd 55 (.ref 302) (.nd 29 (.ref 122) (.nd 18 (.ref 129) (.nd 7 (.builtin "len") (.nd 6 (.ref 80) (.l1 5 (.ref 73)) .lf) (.nd 17 (.ref 115) (.l1 10 (.ref 101)) .lf)) (.nd 23 (.ref 143) (.nd 22 (.ref 136) (.l1 19 (.ref 148)) .lf) (.l1 27 (.ref 163)))) (.nd 37 (.ref 235) (.nd 33 (.ref 156) (.nd 32 (.builtin "max") (.l1 30 (.ref 201)) .lf) (.nd 35 (.ref 221) (.l1 34 (.ref 213)) .lf)) (.nd 53 (.ref 295) (.nd 39 (.type "list") (.l1 38 (.ref 243)) .lf) (.l1 54 (.ref 52))))) (.nd 70 (.ref 365) (.nd 63 (.ref 343) (.nd 60 (.ref 331) (.nd 57 (.builtin "min") (.l1 56 (.ref 87)) .lf) (.nd 62 (.ref 324) (.l1 61 (.ref 283)) .lf)) (.nd 68 (.type "bytes") (.nd 66 (.ref 310) (.l1 65 (.ref 336)) .lf) (.l1 69 (.ref 358)))) (.nd 83 (.ref 228) (.nd 81 (.ref 423) (.nd 72 (.ref 373) (.l1 71 (.ref 317)) .lf) (.l1 82 (.ref 430))) (.nd 87 (.ref 493) (.nd 86 (.ref 479) (.l1 85 (.builtin "any")) .lf) (.l1 91 (.ref 416)))))) (.nd 119 (.builtin "isinstance") (.nd 107 (.ref 445) (.nd 102 (.ref 519) (.nd 98 (.ref 464) (.nd 95 (.ref 512) (.l1 93 (.ref 505)) .lf) (.nd 100 (.ref 381) (.l1 99 (.ref 474)) .lf)) (.nd 105 (.builtin "sorted") (.nd 104 (.ref 526) (.l1 103 (.ref 450)) .lf) (.l1 106 (.ref 438)))) (.nd 112 (.ref 351) (.nd 110 (.ref 498) (.nd 109 (.ref 486) (.l1 108 (.ref 533)) .lf) (.l1 111 (.ref 540))) (.nd 117 (.ref 561) (.nd 116 (.ref 547) (.l1 114 (.ref 554)) .lf) (.l1 118 (.ref 568))))) (.nd 148 (.ref 812) (.nd 136 (.type "int") (.nd 127 (.ref 643) (.nd 125 (.ref 589) (.l1 124 (.ref 94)) .lf) (.nd 134 (.ref 632) (.l1 129 (.ref 650)) .lf)) (.nd 146 (.ref 575) (.nd 145 (.type "tuple") (.l1 138 (.ref 688)) .lf) (.l1 147 (.ref 798)))) (.nd 156 (.ref 824) (.nd 152 (.ref 819) (.nd 150 (.ref 805) (.l1 149 (.ref 405)) .lf) (.l1 154 (.ref 834))) (.nd 159 (.ref 841) (.nd 158 (.ref 829) (.l1 157 (.ref 582)) .lf) (.l1 178 (.type "list"))))))
def mT:kG ak:=.nd 168 603 (.nd 164 266 (.nd 162 191 (.nd 161 184 (.l1 160 36) .lf) (.l1 163 198)) (.nd 166 280 (.l1 165 273) (.l1 167 402))) (.nd 173 671 (.nd 171 622 (.nd 170 617 (.l1 169 610) .lf) (.l1 172 664)) (.nd 175 685 (.l1 174 678) (.l1 176 846)))
def An:kG ak:=.nd 134 632 (.nd 61 283 (.l1 30 201) .lf) (.nd 149 405 (.l1 138 688) .lf)
noncomputable def tW:ai ak:=[1,26,28,40,41,42,43,44,45,46,73,74,75,76,77,78,79,121,122,123,128,130,131,132]
def hN(k:ak):Str:=(fG k EZ).getD "?"
def Oq(k:ak):aA:=(fG k sN).isSome
def iR(k:ak):aw Yj:=match fG k sN with|some v=>Bc v|none=>(fG k mT).map .ref
noncomputable def ui(k:ak):aA:=tW.any (js k)
def qI(k:ak):aw a7:=fG k An
noncomputable def Kf:ai a7:=[201,200,283,282,405,404,632,631,688,687,52,51,39,38,36,184,191,198,266,273,280,402,603,610,617,622,664,671,678,685]
def KF(P:ei):Frag:=Kf.map λa=>(a,ob P a)
theorem adR:jK (λc a=>jK (λd b=>!Nat.beq a b||js c d) An) An=D1:=by rfl'
theorem VV(c d:ak)(C:a7)(h:qI c=Bc C)(a:qI d=Bc C):c=d:=by have :=kE (kE adR h) a;rw[Nat.beq_refl]at this;exact rx this
theorem Qi:tW.all (λa=>tW.all λb=>js a b||!(decide (hN a=hN b)))=D1:=by rfl'
theorem zP(h:ui a=D1):a∈tW:=by obtain⟨b,m,c⟩:=List.any_eq_true.mp h;exact aa (rx c) m
theorem QN(a b:ak)(h:ui a=D1)(c:ui b=D1)(d:hN a=hN b):a=b:=by have :=lg.mp (lg.mp Qi a (zP h)) b (zP c);rw[mM d,Y?,GE]at this;exact rx this
def cx(w:jw)(h:ff)(fr:ai gn):Cx:={prog:=pw,w:=w,h₀:=h,tab:=145,jk:=⟨102,53,102,73⟩,mU:="form_sorted.<locals>.<lambda>",yG:=147,nm:=hN,fv:=iR,gk:=Oq,oV:=7,om:=1,gz:=178,cls:=qI,acG:=VV,K:=KF w.params,fr:=fr,fk:=ui,bad:=52,ju:=54,Cq:=QN}
theorem vS{f:a7->Obj}:∀{as:ai a7},(as.map λa=>(a,f a)).lookup a=Bc o->a∈as/\o=f a
|b::r,h=>by
 rw[l6,pD]at h
 split at h
 .rename_i c;exact aa (beq_iff_eq.mp c) ⟨.head _,(eF h).symm⟩
 .exact⟨.tail _ (vS h).1,(vS h).2⟩
theorem Zg(P:ei):Kf.all (fB P)=D1:=by rfl'
section
variable{w:jw}{h:ff}{fr:ai gn}
theorem wA(S:Sub w.params h):(KF w.params).In h:=λa b c=>by obtain⟨m,rfl⟩:=vS c;exact S a (lg.mp (Zg w.params) a m)
end
def pQ(P:ei)(a:Str):aw Yj:=match oI (sM (ob P 3)) a with|some v=>Bc v|none=>oI (sM (ob P 0)) a
theorem DN(P:ei):(fB P 3&&yQ (ob P 3))=D1:=by rfl'
theorem Qb(P:ei):(fB P 0&&yQ (ob P 0))=D1:=by rfl'
theorem sJ{f:ai gn}(S:Sub w.params h)(a:pQ w.params x=Bc v):jj (cx w h f) x v:=by obtain⟨m,c⟩:=iA (DN w.params);obtain⟨d,i⟩:=iA (Qb w.params);refine gy _ _ (wV S m c) (wV S d i) ?_;unfold pQ at a;cases b:oI (sM (ob w.params 3)) x with|some u=>rw[b]at a;exact .inl (b.trans a)|none=>rw[b]at a;exact .inr ⟨b,a⟩
theorem Oh(P:ei):jK (λk v=>decide (pQ P (hN k)=Bc v)) sN=D1:=by rfl'
theorem Ux(P:ei):jK (λk d=>gK (pQ P (hN k)) λv=>EE P 20 d v) globT=D1:=by rfl'
end
noncomputable section
noncomputable def nK(a:Obj):aw s8:=match a.data with|.func f=>Bc f|_=>VG
noncomputable def vc:FuncBody->aw (ai hI)|.stmts b=>Bc b|_=>VG
def Cz(P:ei)(a:a7):aw (ai Yj):=match fB P a with
|true=>match(ob P a).data with|.seq v _=>Bc v.toList|_=>VG
|false=>VG
def J3(P:ei)(v:Yj):aw (ai Yj):=match v with|.none=>Bc []|.ref a=>Cz P a|_=>VG
noncomputable def QD:aw Yj->aw Str|some (.str s _)=>Bc s|_=>VG
def codeB(P:ei)(v:Yj)(a:Str):aA:=gK (mf v) λc=>fB P c&&match(ob P c).data with|.fields d=>gK (QD d[1]?) λb=>decide (b=a)|_=>Un
noncomputable def yZ:aw Aa->aA|some .local=>D1|some .cell=>D1|_=>Un
noncomputable def OT:Aa->aA|.free=>Un|_=>D1
noncomputable def VL(a:E0):aA:=a.posonlyargs.isEmpty&&(a.vararg.isNone&&(a.kwonlyargs.isEmpty&&a.kwarg.isNone))
noncomputable def BS:ai Str->aA|[]=>D1|x::r=>(r.all λy=>!decide (x=y))&&BS r
noncomputable def Ew:ai (Str×Aa)->ai Str|[]=>[]|(n,k)::r=>match yZ (Bc k)with|true=>n::Ew r|false=>Ew r
noncomputable def xg(k:ak)(s:uz):ai Str:=match js k 147 with|true=>["script","left","mixed","cell"]|false=>match js k 158 with|true=>["page","plain","found","many","state","place","bias","others","turn","code","at","ahead","delta","left","k","least","figure","far","rounds"]|false=>match js k 176 with|true=>["script","deck","data","faults","flags","name","go","mapped","labels","code","seen_labels","kinds","text","label","told","due","again"]|false=>Ew s.names
noncomputable def adn(f:s8):aA:=f.code==.ref 147&&(f.qualname++".<locals>."++"<lambda>":Str)=="form_sorted.<locals>.<lambda>"
def Az(A:s8)(ns:ai Str):TC:={sc:=A.scope,ns:=ns,nm:=hN,gk:=Oq,fk:=ui,oV:=7,om:=1,gz:=178,ju:=54,hn:=D1,lv:=3,lam:=adn A,jk:=⟨102,53,102,73⟩}
def xK(P:ei)(fd:s8)(ns:ai Str)(A:ak)(dflt:ai D)(np:ak):aA:=(codeB P fd.code fd.qualname&&(fd.closure.isEmpty&&(js fd.globals 3&&js fd.builtins 0)))&&((decide (fd.scope.kind=.function)&&((!fd.scope.isCoroutine)&&((!fd.scope.isGenerator)&&VL fd.params)))&&((js ns.length A&&(decide (fd.params.args.map (·.arg)=ns.take np)&&(qA np ns.length&&BS ns)))&&((ns.all (λx=>yZ (fd.scope.names.lookup x)&&((!(x==("__debug__":Str)))&&(!(x==("__classdict__":Str))))))&&((fd.scope.names.all λp=>OT p.2)&&(gK (J3 P fd.defaults) (λaE=>all2 (EE P 20) dflt aE)&&qA dflt.length np)))))
theorem Rg:∀{l:ai (Str×Aa)},(l.all λp=>OT p.2)=D1->l.lookup x≠Bc .free:=by intro l;induction l with|nil=>exactλY h=>bh h|cons p r i=>
intro h a
obtain⟨c,d⟩:=iA h
obtain⟨b,k⟩:=p
rw[pD]at a
split at a
.rw[eF a]at c;exact no c
.exact i d a
theorem Qh:∀{l:ai Str},BS l=D1->l.Nodup:=by intro l;induction l with|nil=>exactλY=>.nil|cons a r i=>intro h;obtain⟨b,c⟩:=iA h;refine List.nodup_cons.mpr ⟨λm=>?_,i c⟩;have :=lg.mp b a m;rw[mM rfl]at this;exact no this
theorem ac4(h:yZ o=D1):o=Bc .local\/o=Bc .cell:=by cases o with|none=>exact no h|some k=>cases k<;>first|exact no h|exact .inl rfl|exact .inr rfl
theorem rG(h:(!b)=D1):b=Un:=by cases b<;>first|rfl|exact no h
theorem uF{a:Type}{l:ai a}(h:l.isEmpty=D1):l=[]:=by cases l<;>first|rfl|exact no h
theorem yI{a:Type}{l:aw a}(h:l.isNone=D1):l=VG:=by cases l<;>first|rfl|exact no h
section
variable{w:jw}{h:ff}{fr:ai gn}
theorem Rh(S:Sub w.params h){a:Str}(b:codeB w.params v a=D1):h.CodeRec v a:=by
 obtain⟨c,m,b⟩:=iC b
 obtain⟨p,b⟩:=iA b
 have f:=S c p
 revert b f;cases ob w.params c with|mk u d r y=>
cases r with
|fields l=>
intro b f
obtain⟨i,k,s⟩:=iC b
refine aD (hQ s) ?_
revert k;cases t:l[1]? with|none=>exactλb=>bh b|some j=>cases j<;>intro k<;>first|exact bh k|exact qf c _ l _ (uu m) f rfl (aa t (aa (eF k) rfl))
|_=>intro b;exact no b
theorem acS(S:Sub w.params h)(a:J3 w.params v=Bc j):(v=.none/\j=[])\/∃b c f,v=.ref b/\h.get? b=Bc c/\c.data=.seq j.toArray f:=by
 cases v with
|none=>exact .inl ⟨rfl,(eF a).symm⟩
|ref b=>have a:Cz w.params b=Bc j:=a;unfold Cz at a;cases k:fB w.params b with|false=>rw[k]at a;exact bh a|true=>rw[k]at a;have i:=S b k;revert a i;cases ob w.params b with|mk m d l s=>cases l with|seq p f=>intro a i;exact .inr (rP b _ f rfl i (aD (eF a) rfl))|_=>intro a;exact bh a
|_=>exact bh a
theorem Av(S:Sub w.params h)(lim:h.NoLimit){dflt:ai D}(k:fB w.params fa=D1)(B:nK (ob w.params fa)=Bc fd)(C:vc fd.body=Bc stmts)(e:xK w.params fd ns Oi dflt np=D1)(tr:bI (hJ (Az fd ns) 400) body stmts=D1):ns.length=Oi/\∃aE,FnAt (cx w h fr) fa fd stmts aE dflt ns np 3 body:=by
  refine cps λF A=>?_
  obtain⟨a,e⟩:=iA e
  obtain⟨b,e⟩:=iA e
  obtain⟨c,e⟩:=iA e
  obtain⟨H,a⟩:=iA a
  obtain⟨I,a⟩:=iA a
  obtain⟨J,K⟩:=iA a
  obtain⟨L,b⟩:=iA b
  obtain⟨b2,b⟩:=iA b
  obtain⟨b3,b4⟩:=iA b
  obtain⟨p1,p⟩:=iA b4
  obtain⟨p2,p⟩:=iA p
  obtain⟨p3,p4⟩:=iA p
  obtain⟨c1,c⟩:=iA c
  obtain⟨c2,c⟩:=iA c
  obtain⟨c3,c4⟩:=iA c
  obtain⟨d1,e⟩:=iA e
  obtain⟨d2,e⟩:=iA e
  obtain⟨d3,d4⟩:=iA e
  obtain⟨aE,d3,M⟩:=iC d3
  refine A ?_;clear A F
  have G:∀x∈ns,yZ (fd.scope.names.lookup x)=D1/\(x==("__debug__":Str))=Un/\(x==("__classdict__":Str))=Un:=λx m=>by refine cps λF A=>?_;obtain⟨q1,q⟩:=iA (lg.mp d1 x m);obtain⟨q2,q3⟩:=iA q;refine A ?_;clear A F;exact cV q1 (rG q2) (rG q3)
  refine⟨rx c1,aE,?_⟩
  exact
  { ho:=⟨_,S fa k,by revert B;cases ob w.params fa with|mk O d N sl=>cases N<;>intro B<;>first|exact bh B|exact gO _ (eF B)⟩
    lim:=lim
    cd:=Rh S H
    bd:=by revert C;cases fd.body<;>intro C<;>first|exact bh C|exact gO _ (eF C)
    rQ:=uF I
    tO:=rx J
    blt:=rx K
    hk:=hQ L
    sA:=rG b2
    sY:=rG b3
    pp:=sW.of (uF p1) (yI p2) (uF p3) (yI p4)
    par:=hQ c2
    np:=mc c3
    nd:=Qh c4
    kinds:=λx m=>ac4 (G x m).1
    oW:=λx=>Rg d2
    dN:=λx m=>(G x m).2
    dv:=acS S d3
    dr:=CX (IQ S) M
    dl:=mc d4
    tr:=⟨400,tr⟩}
end
def IZ(P:ei)(k:ak)(r:ak×ai D×ak×ai S):aA:=(js k 147||js k 150)||gK (iR k) λv=>gK (mf v) λB=>fB P B&&gK (nK (ob P B)) λA=>gK (vc A.body) λb=>xK P A (xg k A.scope) r.1 r.2.1 r.2.2.1&&bI (hJ (Az A (xg k A.scope)) 400) r.2.2.2 b
theorem acr(P:ei):jK (IZ P) KR=D1:=by rfl'
end
section
def fR(P:ei)(a:a7):s8:=(nK (ob P a)).getD default
def Gv(P:ei)(a i:ak):hI:=((vc (fR P a).body).getD []).getD i (.Pass default)
noncomputable def aeK{a:Type}(s:hI)(d:a)(f:dt->ai hI->a):a:=if h:s.ctorIdx=9 then w! (motive_2:=λY=>a) s h λt Y b Y Y=>f t b else d
noncomputable def YL(s:hI):dt:=aeK s default λt Y=>t
noncomputable def acv(s:hI):ai hI:=aeK s default λY b=>b
def Fm(P:ei):ai hI:=[Gv P 798 0,.For (YL (Gv P 798 1)) (.Name "left" ⟨634,16,634,20⟩) (acv (Gv P 798 1)) [] ⟨634,4,635,49⟩,.Return (Bc (.Dict [Bc (.Constant (.str "left") 0 ⟨636,12,636,18⟩),Bc (.Constant (.str "mixed") 0 ⟨636,26,636,33⟩)] [.Name "left" ⟨636,20,636,24⟩,.Name "mixed" ⟨636,35,636,40⟩] ⟨636,11,636,41⟩)) ⟨636,4,636,41⟩]
def Cg:ai hI:=[vm "deck" "many" ⟨638,7,638,11⟩ ⟨638,12,638,18⟩ ⟨638,7,638,19⟩ ⟨638,23,638,25⟩ ⟨638,7,638,25⟩ ⟨638,4,639,41⟩ ⟨639,15,639,19⟩ ⟨639,20,639,26⟩ ⟨639,15,639,27⟩ ⟨639,15,639,31⟩ ⟨639,32,639,33⟩ ⟨639,15,639,34⟩ ⟨639,37,639,41⟩ ⟨639,15,639,41⟩ ⟨639,8,639,41⟩ 0 0 0,wX "deck" ⟨640,4,640,8⟩ ⟨640,9,640,16⟩ ⟨640,4,640,17⟩ ⟨640,21,640,25⟩ ⟨640,26,640,33⟩ ⟨640,21,640,34⟩ ⟨640,37,640,41⟩ ⟨640,21,640,41⟩ ⟨640,44,640,46⟩ ⟨640,21,640,46⟩ ⟨640,50,640,57⟩ ⟨640,20,640,57⟩ ⟨640,4,640,57⟩ 0 0 0 0 0,xe "deck" "many" ⟨641,11,641,15⟩ ⟨641,16,641,23⟩ ⟨641,11,641,24⟩ ⟨641,28,641,29⟩ ⟨641,11,641,29⟩ ⟨641,32,641,36⟩ ⟨641,11,641,36⟩ ⟨641,4,641,36⟩ 0 0]
def Kq:ai Mine.S:=[nQ.headD .av,.bA (.nm 3) (.ex (.l 1)) xu,.av]
theorem Ck(P:ei):(fB P 798&&fB P 805,nK (ob P 798),vc (fR P 798).body,xK P (fR P 798) ["script","left","mixed","cell"] 4 [] 1&&bI (hJ (Az (fR P 798) ["script","left","mixed","cell"]) 400) Kq (Fm P),(fR P 798).params.args.length)=(D1,Bc (fR P 798),Bc (Fm P),D1,1):=by rfl'
theorem adZ(P:ei):(nK (ob P 805),vc (fR P 805).body,xK P (fR P 805) ["deck","many"] 2 [] 2&&bI (hJ (Az (fR P 805) ["deck","many"]) 400) [.av,.av,.av] Cg)=(Bc (fR P 805),Bc Cg,D1):=by rfl'
def Ur(P:ei):aA:=fB P 1&&(fB P 2&&(yQ (ob P 2)&&(oI (sM (ob P 2)) "sys.recursionlimit").isNone))
theorem RM(P:ei):Ur P=D1:=by rfl'
theorem Ah(P:ei):pQ P "len"=Bc (.builtin "len")/\pQ P "enumerate"=Bc (.type "enumerate")/\pQ P "range"=Bc (.type "range")/\pQ P "sorted"=Bc (.builtin "sorted"):=(qL (by rfl') (by rfl') (by rfl') (by rfl'))
def rq(P:ei)(c:ak)(a:a7):aA:=(decide (iR c=Bc (.ref a))&&(keepIn (KF P) (.ref a)&&(makesIn (KF P) a&&(gK (fG c EN) λi=>gK (fG i mT) λf=>decide (iR i=Bc (.ref f))&&(decide (l5 (KF P) (.ref a) "__init__"=Bc (Bc (.ref f)))&&decide (Mb (KF P) (.ref f)=Bc (.type "function")))))))&&((decide (l5 (KF P) (.ref a) "__getattribute__"=Bc (Bc (.builtin "object.__getattribute__")))&&(decide (l5 (KF P) (.ref a) "__getattr__"=Bc VG)&&(decide (l5 (KF P) (.ref a) "__setattr__"=Bc (Bc (.builtin "object.__setattr__")))&&((GW (KF P) a).any (·.hasDict)&&xL (KF P) a))))&&tW.all λk=>decide (l5 (KF P) (.ref a) (hN k)=Bc VG))
theorem WK(P:ei):jK (rq P) An=D1:=by rfl'
theorem Vp:jK (λk i=>(qI k).isSome&&ys 150 i) EN=D1:=by rfl'
def Pq(P:ei)(c m i:ak):aA:=gK (qI c) λa=>gK (fG i mT) λf=>decide (iR i=Bc (.ref f))&&(decide (l5 (KF P) (.ref a) (hN m)=Bc (Bc (.ref f)))&&(decide (Mb (KF P) (.ref f)=Bc (.type "function"))&&tW.all λk=>!decide (hN k=hN m)))
theorem acN(P:ei):jK (λc t=>jK (Pq P c) t) Ex=D1:=by rfl'
theorem Vk:yb.all (λp=>decide (iR p.1=Bc p.2.1)&&(mf p.2.1).isNone)=D1:=by rfl'
def DI(P:ei)(v:Yj):aA:=match mf v with|none=>D1|some a=>(fB P a&&(nK (ob P a)).isSome)||keepIn (KF P) v
theorem Ke(P:ei):jK (λY v=>DI P v) sN=D1:=by rfl'
theorem ZP:jK (λY v=>!(v==("__debug__":Str))) EZ=D1:=by rfl'
def HM(P:ei):Frag:=[(147,ob P 147)]
def Tu(P:ei):aA:=fB P 147&&(codeHdIn (HM P) 147 145&&(decide (oI (sM (ob P 3)) "__builtins__"=Bc (.ref 4))&&(fB P 4&&(EV "module" (ob P 4).cls&&(decide ((ob P 4).dict=Bc 0)&&match(ob P 4).data with|.plain=>D1|_=>Un)))))
theorem Pp(P:ei):Tu P=D1:=by rfl'
def aan(P:ei):Obj:=Mk "BadLabel" "BadLabel" 52 51 [.ref 39] (hK 39) D1 [] [] Un VG VG (Bc (.ref 43)) VG (Bc (z "BadLabel" 231)) (Bc (z "BadLabel" 239)) (Bc (.bool D1)) "Exception.__new__"
theorem Up(P:ei):(fB P 52,ob P 52,GW (KF P) 52)=(D1,aan P,Bc {name:="BadLabel",bases:=[.ref 39],mro:=.ref 52::hK 39,ns:=51,qualname:="BadLabel",hasDict:=D1}):=by rfl'
theorem Tp(P:ei):keepIn (KF P) (.ref 52)=D1/\l5 (KF P) (.ref 52) "__getattribute__"=Bc (Bc (.builtin "BaseException.__getattribute__"))/\l5 (KF P) (.ref 52) "__getattr__"=Bc VG/\mroIn (KF P) 52 (.type "BaseException")=Bc D1/\l5 (KF P) (.ref 52) "told"=Bc VG/\(GW (KF P) 52).any (·.hasDict)=D1/\l5 (KF P) (.ref 52) "__setattr__"=Bc (Bc (.builtin "object.__setattr__"))/\l5 (KF P) (.ref 52) "__init__"=Bc (Bc (.ref 36))/\Mb (KF P) (.ref 36)=Bc (.type "function"):=by and_intros<;>rfl'
noncomputable def Ua:ai hI:=[.Assign [.Attribute (.Name "self" ⟨11,8,11,12⟩) "told" ⟨11,8,11,17⟩] (.Name "told" ⟨11,20,11,24⟩) ⟨11,8,11,24⟩]
noncomputable def HV:Aa->aA|.cell=>Un|_=>D1
theorem WS(P:ei):fB P 36=D1/\nK (ob P 36)=Bc (fR P 36)/\vc (fR P 36).body=Bc Ua/\xK P (fR P 36) ["self","told"] 2 [.none] 2=D1/\(fR P 36).scope.names.lookup ("self":Str)=Bc .local/\(fR P 36).scope.names.lookup ("told":Str)=Bc .local/\((fR P 36).scope.names.all λp=>HV p.2)=D1:=by and_intros<;>rfl'
theorem XJ(P:ei):iR 149=Bc (.ref 405)/\iR 167=Bc (.ref 402)/\fB P 402=D1/\nK (ob P 402)=Bc (fR P 402)/\(fR P 402).params.args.map (·.arg)=[("self":Str),hN 73,"only_letters","hyphens","joiners","directions","contexts","lengths"]/\decide (("self":Str)=hN 73)=Un:=by and_intros<;>rfl'
variable{w:jw}{h:ff}{fr:ai gn}
theorem uw(S:Sub w.params h):h.NoLimit/\∃a,h.get? Gd=Bc a:=by refine cps λP k=>?_;obtain⟨b,l⟩:=iA (RM w.params);obtain⟨c,l⟩:=iA l;obtain⟨d,f⟩:=iA l;refine k ?_;clear k P;exact⟨(aF _ (wV S c d) (yI f)),_,S 1 b⟩
theorem Oc(h:mf f=VG):eD C f:=by refineλh b=>aF .machine (.inr (.inl rfl)) (Tj ?_);cases f<;>first|rfl|exact bh h.symm
theorem JA(S:Sub w.params h)(c:DI w.params v=D1):eD (cx w h fr) v:=by unfold DI at c;cases f:mf v with|none=>exact Oc f|some a=>
rw[f]at c
obtain rfl:=uu f
dsimp only at c
cases k:fB w.params a&&(nK (ob w.params a)).isSome with
|true=>
refine aU (iA k) λm l=>?_
haveI i:=S a m
intro r b
refine aF .frame (.inl rfl) ?_
intro A Q j s k f
unfold keeperOf
refine ct (d! (k _ _ (b _ _ i)) ?_);revert l;cases ob w.params a with|mk t d p u=>cases p<;>intro l<;>first|exact no l|exact gP f
|false=>rw[k]at c;exact ML (wA S) c
theorem CE(S:Sub w.params h){f:ai D}(a:oQ k=Bc (O,f,t,j))(u:k≠147)(y:k≠150):∃l i s m,iR k=Bc (.ref l)/\nK (ob w.params l)=Bc i/\(xg k i.scope).length=O/\FnAt (cx w h fr) l i s m f (xg k i.scope) t 3 j:=by haveI c:=kE (acr w.params) a;unfold IZ at c;haveI A:js k 147=Un:=Bool.eq_false_iff.mpr λd=>u (rx d);haveI B:js k 150=Un:=Bool.eq_false_iff.mpr λd=>y (rx d);rw[A,B]at c;refine cps λP p=>aj (iC c) λv C c=>aj (iC c) λl F c=>?_;obtain⟨G,c⟩:=iA c;refine aj (iC c) λi r c=>aj (iC c) λb H c=>?_;obtain⟨I,J⟩:=iA c;refine p ?_;clear p P;obtain rfl:=uu F;obtain⟨K,m,L⟩:=Av S (uw S).1 G r H I J;exact qf l i b m C r K L
theorem DZ{d:ai D}(F:FnAt C f a s c d ns i l b):eD C (.ref f):=F.ade
structure S1(w:jw)(h:ff)(fr:ai gn)(c:ak)(a:a7):Prop where
fv:iR c=Bc (.ref a)
kp:eD (cx w h fr) (.ref a)
own:∃i f,initK c=Bc i/\iR i=Bc (.ref f)/\qT (cx w h fr) c a f
ga:l5 (KF w.params) (.ref a) "__getattribute__"=Bc (Bc (.builtin "object.__getattribute__"))
gh:l5 (KF w.params) (.ref a) "__getattr__"=Bc VG
sa:l5 (KF w.params) (.ref a) "__setattr__"=Bc (Bc (.builtin "object.__setattr__"))
hd:(GW (KF w.params) a).any (·.hasDict)=D1
pl:xL (KF w.params) a=D1
fd:∀k,ui k=D1->l5 (KF w.params) (.ref a) (hN k)=Bc VG
theorem qw(S:Sub w.params h)(b:qI c=Bc a):S1 w h fr c a:=by refine cps λP l=>?_;obtain⟨d,y⟩:=iA (kE (WK w.params) b);obtain⟨p,d⟩:=iA d;obtain⟨r,d⟩:=iA d;obtain⟨s,d⟩:=iA d;refine aj (iC d) λi t d=>aj (iC d) λf I d=>?_;obtain⟨u,d⟩:=iA d;obtain⟨v,A⟩:=iA d;obtain⟨y,j⟩:=iA y;obtain⟨B,y⟩:=iA y;obtain⟨C,y⟩:=iA y;obtain⟨F,y⟩:=iA y;obtain⟨G,H⟩:=iA y;refine l ?_;clear l P;exact⟨hQ p,ML (wA S) r,⟨i,f,t,hQ u,b,s,hQ v,hQ A⟩,hQ B,hQ C,hQ F,G,H,λk m=>hQ (lg.mp j k (zP m))⟩
theorem YA(S:Sub w.params h):ye (cx w h fr):=by
 refine cps λP k=>?_
 obtain⟨f,l⟩:=iA (Pp w.params)
 obtain⟨i,l⟩:=iA l
 obtain⟨j,l⟩:=iA l
 obtain⟨p,l⟩:=iA l
 obtain⟨r,l⟩:=iA l
 obtain⟨s,t⟩:=iA l
 obtain⟨u,v⟩:=iA (DN w.params)
 refine k ?_;clear k P
 refine⟨⟨_,wV S u v,4,_,hQ j,by decide,by decide,(by decide:(4:ak)≠145),S 4 p,Hq r,hQ s,?_⟩,codeHd_of_K (λa b c=>?_) i,(by decide:(3:ak)≠145),(uw S).1⟩
 .revert t;cases(ob w.params 4).data<;>intro d<;>first|exact no d|rfl
 .obtain⟨m,rfl⟩:=vS (as:=[147]) c
  clear c;obtain rfl:=hX.mp m;exact S 147 f
theorem gW(S:Sub w.params h):dz (cx w h fr):=
  { dI:=wA S
    sm:=(uw S).2
    ga:=λc a b=>(qw (fr:=fr) S b).ga
    gh:=λc a b=>(qw (fr:=fr) S b).gh
    sa:=λc a b=>(qw (fr:=fr) S b).sa
    hd:=λc a b=>(qw (fr:=fr) S b).hd
    pl:=λc a b=>(qw (fr:=fr) S b).pl
    fd:=λc a k b m=>(qw (fr:=fr) S b).fd k m
    len:=sJ S (Ah w.params).1
    gq:=sJ S (Ah w.params).2.1
    fp:=sJ S (Ah w.params).2.2.1
    bM:=sJ S (Ah w.params).2.2.2
    N8:=ab8 (YA S)}
end
section
variable{w:jw}{h:ff}{j:ai gn}
theorem CT{s t u v y:Type}{a k:s}{b l:t}{c m:u}{d p:v}{f r:y}(i:(a,b,c,d,f)=(k,l,m,p,r)):a=k/\b=l/\c=m/\d=p/\f=r:=RQ (gO (·.1) i) (gO (·.2.1) i) (gO (·.2.2.1) i) (gO (·.2.2.2.1) i) (gO (·.2.2.2.2) i)
theorem IG{l m p:Type}{a f:l}{b i:m}{c k:p}(d:(a,b,c)=(f,i,k)):a=f/\b=i/\c=k:=cV (gO (·.1) d) (gO (·.2.1) d) (gO (·.2.2) d)
theorem QU(S:Sub w.params h):∃i,FnAt (cx w h j) 798 (fR w.params 798) (Fm w.params) i [] ["script","left","mixed","cell"] 1 3 Kq:=by refine Cj (CT (Ck w.params)) λa b c d f=>aU (iA d) λk l=>(Av S (uw S).1 (iA a).1 b c k l).2
theorem Z7(S:Sub w.params h):∃f,FnAt (cx w h j) 805 (fR w.params 805) Cg f [] ["deck","many"] 2 3 [.av,.av,.av]:=by refine Cj (CT (Ck w.params)) λa Y Y Y Y=>bD (IG (adZ w.params)) λb c d=>aU (iA d) λi k=>(Av S (uw S).1 (iA a).2 b c i k).2
theorem Oz(a:Bv k=Bc f):iR k=Bc f/\mf f=VG:=by unfold Bv at a;refine aj (nI a) λb c d=>aU (iA (lg.mp Vk _ (LO c))) λi l=>aD d ⟨hQ i,yI l⟩
theorem tbl(S:Sub w.params h):xX (cx w h j):=
  { dI:=wA S
    bf:=λk f b=>⟨(Oz b).1,Oc (Oz b).2⟩
    fn:=λk O m J p b Y K L=>by refine lz (CE (fr:=j) S b K L) λC u s r v Y y F=>Wa C u s r _ 3 v (DZ F) (ir _) y F
    cl:=λk i O m J p G M=>by
     refine cps λP H=>aU (iA (kE Vp G)) λN I=>?_
     obtain⟨a,Q⟩:=Option.isSome_iff_exists.mp N
     haveI I:150<i:=mc I
     haveI c:=qw (fr:=j) S Q
     refine dG c.own λZ f U V W=>H ?_;clear H P
     obtain rfl:=eF (G.symm.trans U)
     refine lz (CE (fr:=j) S M (by lia) (cr ‹_›)) λC u s r v Y y F=>?_
     cases io (eF (v.symm.trans V));exact⟨a,f,u,s,r,_,3,c.fv,c.kp,W,ir _,y,F⟩
    dk:=by obtain⟨r,F⟩:=QU S;exact dX (.ref 798) rfl (DZ F) (λl d A t cs X B b=>adM F A (CT (Ck w.params)).2.2.2.2.symm b)
    dw:=by obtain⟨r,F⟩:=Z7 S;exact⟨.ref 805,rfl,DZ F,λl t cs X B b=>abe F rfl b⟩}
theorem V4(S:Sub w.params h):qG (cx w h j) 39 36:=by refine bD (IG (Up w.params)) λo1 o2 o3=>adt (Tp w.params) λY ga gh sub tl hd sa init fn=>{dI:=wA S,ga:=ga,gh:=gh,sub:=sub,tl:=tl,hd:=hd,nm:=rfl,cd:=(dX _ o3 rfl rfl),obj:=⟨_,_,_,_,_,_,_,_,_,_,_,_,_,_,(S 52 o1).trans (gO Bc o2)⟩,sa:=sa,init:=init,fn:=fn}
theorem V9{l:ai (Str×Aa)}(a:(l.all λp=>HV p.2)=D1):∀b∈l,b.2≠.cell:=λb m c=>by haveI :=lg.mp a b m;rw[c]at this;exact no this
theorem Zq(S:Sub w.params h):tZ (cx w h j) 36:=by refine HH (WS w.params) λa b c d i f k=>?_;obtain⟨_,p,F⟩:=Av (body:=[.dU (.l 0) 1 (.l 1)]) S (uw S).1 a b c d (by rfl');refine aj F.ho λm r s=>?_;haveI l:=F.dr.len;exact⟨⟨m,_,p,"self","told",_,_,_,_,r,s,F.cd,F.bd,F.rQ,F.hk,F.sA,F.sY,F.pp,F.par,by decide,i,f,V9 k,(F.dN "self" (.head _)).1,(F.dN "told" (.tail _ (.head _))).1,(F.dN "self" (.head _)).2,(F.dN "told" (.tail _ (.head _))).2,F.dv,aa l (by decide)⟩,F.lim⟩
theorem JX:fG 54 sN=Bc (.ref 52):=by rfl'
theorem aaS:initK 149=Bc 167/\qI 149=Bc 405/\oQ 167=Bc (8,[.bool Un,.bool D1,.bool D1,.bool D1,.bool D1,.bool Un,.bool D1],8,uc):=by and_intros<;>rfl'
theorem adX(S:Sub w.params h):∃C b a s k d p H r,(cx w h j).fv 149=Bc (.ref C)/\eD (cx w h j) (.ref C)/\qT (cx w h j) 149 C b/\p<=3/\d.length=8/\FnAt (cx w h j) b a s k [.bool Un,.bool D1,.bool D1,.bool D1,.bool D1,.bool Un,.bool D1] d 8 p uc/\a.params.args.map (·.arg)=H::(cx w h j).nm 73::r:=by haveI K:=XJ w.params;haveI J:=aaS;haveI I:=K.1;haveI t:=K.2.1;haveI L:=K.2.2.2.1;haveI u:=K.2.2.2.2.1;haveI M:=J.1;haveI N:=J.2.1;haveI O:=J.2.2;haveI c:=qw (fr:=j) S N;refine dG c.own λi f v y A=>?_;haveI P:167=i:=eF (M.symm.trans v);clear v;subst P;refine lz (CE (fr:=j) S O (by decide) (by decide)) λb a s k Q B l F=>?_;haveI G:b=f:=io (eF (Q.symm.trans y));haveI t:=K.2.1;haveI m:f=402:=io (eF (y.symm.trans t));rw[m]at A;rw[G,m]at F B;clear G m;haveI U:a=fR w.params 402:=eF (B.symm.trans L);rw[U]at F l;generalize V:xg 167 (fR w.params 402).scope=d at l F;generalize fR w.params 402=a at F u;exact⟨405,402,a,s,k,d,3,"self",["only_letters","hyphens","joiners","directions","contexts","lengths"],I,c.kp,A,ir _,l,F,u⟩
theorem good(S:Sub w.params h):Good (cx w h j) 39 36:=
  { tk:=tbl S
    ck:=gW S
    kl:=rfl
    kw:=adX S
    nC:=λk f l p=>by
     obtain⟨v,s⟩:=Option.isSome_iff_exists.mp (show(fG k sN).isSome=D1 from p)
     haveI l:iR k=Bc f:=l
     unfold iR at l
     rw[s]at l
     obtain rfl:=eF l;exact sJ S (hQ (kE (Oh w.params) s))
    rJ:=λk p=>by
     obtain⟨v,s⟩:=Option.isSome_iff_exists.mp (show(fG k sN).isSome=D1 from p)
     refine aF v ?_ (JA S (kE (Ke w.params) s))
     show iR k=Bc v
     unfold iR;exact aa s rfl
    glob:=λk d l=>by refine aj (iC (kE (Ux w.params) l)) λv u y=>aF v (sJ S u) (IQ S y)
    dN:=λk=>by show(hN k==("__debug__":Str))=Un;unfold hN;cases s:fG k EZ with|none=>rfl'|some v=>exact rG (kE ZP s)
    cH:=λc m i l a A=>by
     haveI l:(fG c Ex).bind (fG m)=Bc i:=l
     refine aj (dA l) λt u y=>?_
     haveI A:qI c=Bc a:=A
     haveI r:=kE (kE (acN w.params) u) y
     unfold Pq at r
     rw[A]at r
     refine cps λP B=>aj (iC (o:=fG i mT) r) λf J r=>?_
     obtain⟨C,r⟩:=iA r
     obtain⟨F,r⟩:=iA r
     obtain⟨G,H⟩:=iA r
     refine B ?_;clear B P;exact zJ f (hQ C) (hQ F) (hQ G) (λk I=>K6 (rG (lg.mp H k (zP I))))
    get:=rfl
    b:=V4 S
    bi:=Zq S
    gv:=sJ S (show pQ w.params (hN 54)=Bc (.ref 52)from hQ (kE (Oh w.params) JX))
    kp:=JA S (kE (Ke w.params) JX)}
end
theorem Sa(h:BZ.toRowW.claim.pre args=D1):∃ns:ai a0,ns.length<=63/\args=[.list (ns.map .int)]:=aU (iA h) λh1 h2=>dG (hasAllW_cons h1) λd r ea e1 e2=>aj (hasW_list e1) λxs ed ex=>(items_int ex).elim λns en=>by rw[hasAllW_nil e2,ed,en]at ea;have q:=condW_of h2 (w_and (w_not (w_lt w_lit (w_len_list (w_arg (gO (.[0]?) ea))))) w_lit);have q:=K6 (rG (iA q).1);rw[fx]at q;exact aF ns (Int.ofNat_le.mp (Int.not_lt.mp q)) ea
def RK(d:WData)(f:a0->Prop):Prop:=if h:d.ctorIdx=2 then WData.int.elim (motive_1:=λY=>Prop) d h f else Cm
def RV(d:WData)(f:ai WData->Prop):Prop:=if h:d.ctorIdx=4 then WData.list.elim (motive_1:=λY=>Prop) d h f else Cm
def WI(v:Yj)(i:a0):Prop:=∃t,v=.int i t
def WL(P:ei)(h:ff)(v:Yj)(xs:ai WData):Prop:=∃a vs,v=.ref a/\h.get? a=Bc {cls:=.type "list",data:=.seq vs.toArray}/\wP P h vs xs
theorem Pu(x:Well P h v d):RK d (WI v)/\RV d (WL P h v):=by cases x<;>first|exact⟨trivial,trivial⟩|exact⟨⟨_,rfl⟩,trivial⟩|exact⟨trivial,_,_,rfl,‹_›,‹_›⟩
theorem RS(x:Well P h v (.list xs)):∃a vs,v=.ref a/\h.get? a=Bc {cls:=.type "list",data:=.seq vs.toArray}/\wP P h vs xs:=(Pu x).2
theorem MO(x:wP P h vs ds)(e:ds=[]):vs=[]:=by cases x<;>first|rfl|cases e
theorem abc{S:a7->Obj->Prop}{ns:ai a0}:∀{vs:ai Yj},wP P h vs (ns.map .int)->aC P cs S (ns.map .int) vs:=by induction ns with|nil=>exactλx=>MO x rfl▸.nil|cons n ns ih=>exactλx=>dG (S! x) λv r ev x1 x2=>(Pu x1).1.elim λt et=>ev▸et▸.cons (.int _ _) (ih x2)
theorem ab4(P:ei):((bt 11 (nS P)).get 145).getD default=Ma #[]/\((bt 11 (nS P)).get 145).isSome=D1/\(bt 11 (nS P)).get 846≠VG:=by and_intros<;>first|rfl'|exactλe=>no (show Un=D1 from(gO Option.isSome e.symm).trans (by rfl'))
theorem adA(y:YP w h):h.get? 145=Bc (Ma #[]):=by obtain⟨t1,t2,_⟩:=ab4 w.params;obtain⟨o,ho⟩:=Option.isSome_iff_exists.mp t2;rw[ho]at t1;have t1:o=Ma #[]:=t1;subst t1;exact y _ _ (abs_get (by decide) ho)
theorem YW(P:ei):oI (sM (ob P 3)) "law"=Bc (.ref 846):=by rfl'
def OL:Prop:=∀s:ai a0,s.length<=63->∃cs,adC s=.ok (.sh (.bool D1)) cs
noncomputable def sG:Ro:=λa=>if a=145 then Bc .f else VG
theorem M2:sG 145=Bc .f:=eI rfl
theorem CK(n:a≠145):sG a=VG:=ej n
theorem MC(e:sG a=Bc r):r=.f:=if q:a=145 then(eF ((q▸M2:sG a=Bc .f).symm.trans e)).symm else bh ((CK q).symm.trans e)
theorem LG{α:Type}{P:Prop}{i:ak}{x:α}(h:([]:ai α)[i]?=Bc x):P:=bh (List.getElem?_nil.symm.trans h)
theorem Mp(n:a≠145)(e:h.get? a=Bc o):Sb sG h a o:=⟨e,CK n⟩
theorem start(ht:h.get? 145=Bc (Ma #[])):Inv (cx w (zl h) []) default sG [] [] ⟨[],[]⟩ h:=
  { lt:=λa e=>if q:a=145 then q▸ib ht else aL (CK q) e
    base:=λa o e=>if q:a=145 then bh ((yW.trans (eI q)).symm.trans e)else Mp q ((yW.trans (ej q)).symm.trans e)
    tab:=(aF (#[]) ht (.inl rfl))
    cM:=M2
    dH:=rfl
    d9:=rfl
    vars:=λi p s e=>LG e
    cells:=λi p s e=>LG e
    gG:=λa j e=>Rl.noConfusion (MC e)
    names:=.nil
    locs:=λx m=>aL m lR
    eT:=λx c b m=>aL m lR
    je:=λx y c b d m=>aL m lR
    fW:=λx c b m=>aL m lR
    eS:=λe m=>aL m lR}
theorem ad0(y:YP w h)(n:h.Ns 3 m)(e:m "law"=Bc (.ref a)):846=a:=aU (iA (DN w.params)) λm1 m2=>io (eF ((YW w.params).symm.trans ((lU (BB n (wV (Qa y) m1 m2)) "law").symm.trans e)))
theorem Sy(y:YP w h):CodeHd h 147 145:=aU (iA (Pp w.params)) λc1 c2=>codeHd_of_K (K:=HM w.params) (λa o e=>aU (vS e) λm e=>(Qa y a ((gO (fB w.params) (hX.mp m)).trans c1)).trans (gO Bc e.symm)) (iA c2).1
theorem walk(H:OL):WalkO q loose (λY Y=>Cm) YP BZ.toRowW dl [] λf vs=>Q? f vs:=by
 intro w Dx cC mg mb G y a o pm cd doc dV kV ho hd hc hD ha hg args vals as hp hl hr hw hs
 clear hr hl hs hD hc hd ho
 refine aj (Sa hp) λns n63 ea=>(H ns n63).elim λcs Kh=>?_
 rw[ea]at hw⊢
 refine dG (S! hw) λv r ev MF Jg=>aa ev (aa (MO Jg rfl) ?_)
 refine aD (ad0 y G.T.g ha) ?_
 clear ea hp hw ev Jg ha
 refine dG (RS MF) λla vs ev Jb Y1=>aa ev ?_
 have HG:∀fr,Good {cx w (zl cC.heap) []with fr:=fr} 39 36:=λfr=>good (X6 y)
 refine cJ (Px (HG []).tk (HG []).ck (λfe=>(CP (QL HG 44 [fe]) 300).1.ss) Kh) λf e1 Y cg=>?_
 have e1:Bc (nv 846)=Bc f:=e1
 rw[<-eF e1]at cg
 clear HG e1 Kh ev MF
 have ht:=adA y
 have nla:la≠145:=λq=>arv (gO Obj.cls (eF (Jb.symm.trans (q▸ht))))
 refine cg callerA sG [] cC _ default _ _ ⟨λY=>rfl,by decide,by decide,rfl⟩ (start ht) (λa r e=>.inl (MC e)) (.cons (.list (Mp nla Jb) (abc Y1)) .nil) ?_
 intro ah cs' h' tk v os I' g' _ sl _ _
 refine aU sl.inv λY z=>aj z λv' ev rv=>aa (eF ev) (aa rv.ofBool ?_)
 refine qL (.inl (Fs (.bool D1) (.bool D1) ([]) rfl (λY=>rfl) (.bool D1) (by rfl') (λY=>⟨.nil,λY m=>aL m lR⟩))) ?_ rfl (λg m=>?_)
 .refine aj I'.tab λcX q1 Y=>?_;have q1:h'.get? 145=Bc (Ma cX):=q1;have keep:∀b o,b≠145->cC.heap.get? b=Bc o->h'.get? b=Bc o:=λb o n e=>(I'.base b o ((yW.trans (ej n)).trans e)).1;refine qd (Sy y) λoc sd X=>Yz X λY Y Y Y Y Y Y X=>Cj X λg1 g2 g3 g4 Y=>⟨λb o e=>if n:b=145 then .inr (.inl ⟨⟨147,oc,sd,g1,g2,g3,n▸g4⟩,eF ((n▸ht:cC.heap.get? b=Bc _).symm.trans e)▸⟨rfl,#[],cX,rfl,(gO h'.get? n).trans (q1.trans (gO (λv=>Bc (Ma v)) Array.empty_append.symm))⟩⟩)else .inl (keep b o n e),λb o e=>if n:b=145 then⟨_,(gO h'.get? n).trans q1⟩else⟨o,keep b o n e⟩⟩
 .have m:g∈cC.gens:=m;rw[hg]at m;exact aL m (ar8 _)
theorem abt(H:OL):PySem.Challenge.rw_nt0079_01.Holds:=acV (walk H)
end MG
end
end
theorem PySem.Challenge.cw_nt0079_01_holds : PySem.Challenge.rw_nt0079_01.Holds :=
MG.abt λs h=>Mine.L.QA (d:=2) s h
