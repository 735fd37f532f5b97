import PyProof.Rows.All
import Wide.All
import OpenK.KMake
import OpenK.KMore
import OpenK.KOwn
import KE.KStateDown
import KE.KDictSum
import OpenK.KNot
import PyProof.StationsW
import PyProof.ExcAttrAll.Exception
import PyProof.NsDelKeeps
import PySem.Challenge.RW_sq0012_02
open PySem renaming Value->bt,ExceptHandler->vL,Scope->cC,DictEntry->lO,mainGlobals->iI,builtinsNs->nX,bootBuiltins->p9,Shared->bZ,Around->eO,wpAny->b7,wpAny_mono->b0,binaryOp->qb,compareOp->j2,behindInMarks->AQ,wpAny_execs_nil->qd,wpAny_execs_cons->v9,swapsWith->j3,wpAny_bind->cc,wpAny_standAt->qe,standAt->lP,holding->o2,wpAny_truthy_bool->wa,backTo->mT,starEach->hC,wpAny_pure->dD,wpAny_holding->wb,callWith->z6,wpAny_Call_Name_kw->tb,sizeLine->c5,NameKind->nJ,cellsFrom->ri,codeAny->jX,getAttr->pW,letTemporaryGo->vP,sizeLine_eq->eI,plainObj_wpAny_Assign_Attribute->I5,getMethod->Ac,backToKw->vR,keywordEach->vS,call_meets->td,typeLookup->lJ,list_getitem_lookup->Jb,clipAt->mN,evalPart_none->Af,wpAny_getItem_list_slice->XE,slot_list_setitem->Ak,wpAny_field->oV,swapsWithSole->Jg,swappedStores->nM,assignEach->rn,foldedSetIterable->vW,wpAny_assign_Name->An,setFlight->p0,excClassObj->mP,wpAny_loadPart_at->lK,wpAny_typeLookup_exc->ti,Comprehension->p1
open Nat renaming beq->gE,succ_pos->I9,le_total->lL,min_eq_left->dG,min_eq_right->j1,max_eq_right->nV,max_eq_left->v5,sub_eq_zero_of_le->AM,lt_of_not_le->YR,le_of_not_lt->YS,eq_of_beq_eq_true->o1,ble->i7,not_lt->rC,le_refl->c1,lt_irrefl->nY,ne_of_lt->lQ,le_of_lt->hp,lt_of_le_of_lt->jY,le_succ->g5,succ_le_succ->hR,succ_ne_self->XA,zero_le->dU,lt_succ_self->tf,le_of_eq->Ao,lt_succ_of_lt->tg,ne_of_gt->Ji,le_trans->a5,succ->rq,le_of_ble_eq_true->mQ,beq_refl->XW,sub_zero->XZ,sub_le_sub_right->Jo,sub_lt_sub_left->Yd,min_le_right->Jp,min_le_left->nP,sub_le->j0,add_le_add->nQ,sub_add_cancel->Ye,sub_pos_of_lt->Au,sub_add_eq->Yg,sub_lt->Yh,sub_self->rt,le_antisymm->Jq,max_comm->Yi,add_comm->Yj,max_le->tl,lt_of_sub_pos->Yk,log2_le_self->Ym,zero_lt_succ->Av,zero_add->Ax,add_zero->p2,add_assoc->Ay,le_add_right->nU,add_le_add_left->Js,le_zero->Yt,lt_trans->v1,add_le_add_right->AA,add_sub_cancel_left->Ju,le_add_left->ry,add_sub_cancel'->AD,lt_of_lt_of_le->Jv,lt_of_le_of_ne->AF,le_of_succ_le->Jy,sub_sub_self->Jz,le_max_left->AI,succ_mul->JE,add_right_comm->p7,le_of_succ_le_succ->AJ,mul_zero->YB,add_lt_add_right->YE,le_succ_of_le->YG,not_le->JG,lt_or_ge->YL,min_self->YN,mul_le_mul_right->AN
open PySem.W renaming keepIn->k2,SharedT->hU,boot_heap->mS
open List renaming replicate->eb,not_mem_nil->z7,mem_map->eF,length_cons->fe,reverse_cons->rB,mem_cons->fF,mem_of_getElem?->d1,getElem?_set->YW,getElem?_set_ne->JK,getElem?_inj->JL,getElem?_eq_some_iff->e8,length_set->JM,append_assoc->en,length_reverse->qf,reverse_reverse->JN,append_nil->hV,zip_cons_cons->oR,lookup_cons->g4,nodup_cons->pU,lookup_append->I0,filterMap_cons->pV,forIn_nil->Xn,forIn_cons->Xo,foldl_cons->vN,take_append_drop->ho,nodup_append->Xp,map_cons->hQ,perm_middle->Xq,cons_append->I1,getElem?_append_left->z9,length_append->bK,getElem?_append_right->vO,length_replicate->nK,find?_cons->Aa,any_cons->oS,mem_singleton->gD,toList_toArray->Xs,any_eq_true->I2,mem_of_find?_eq_some->Xu,find?_some->Xv,size_toArray->Xx,foldl->I6,replicate_succ->vU,flatten_cons->I7,ext_getElem?->oT,range->pX,mem_range->Jd,getElem?_map->rl,getElem?_eq_none->nL,cons->rm,extract_eq_take_drop->XI,take_of_length_le->ik,length_map->fx,getElem?_eq_getElem->eu,getElem?_eq_none_iff->ro,length_nil->ju,contains_cons->Jk,length_eq_zero_iff->kZ,getElem?_set_self->Jl,all_eq_true->rr,all_cons->Jm,isEmpty_iff->oX,drop_zero->tk,take_eq_take_iff->Yb,length_drop->dz,drop_eq_nil_of_le->i6,drop_take->Yc,map_append->jv,take_add_one->jZ,length_take->cF,mem_of_mem_take->lN,mem_append->gO,mem_replicate->vZ,mem_of_mem_drop->nR,take_take->tm,take_length->k0,dropWhile_cons_of_neg->Yl,take_zero->nS,head?_drop->Yo,drop_eq_getElem_cons->Aw,getLast?_eq_getElem?->ru,foldl_append->Ys,dropLast_concat_getLast->v0,mem_iff_getElem?->Az,length->rv,length_mapIdx->k1,getElem?_mapIdx->hq,drop_append_of_le_length->rx,take_append_of_le_length->tq,take_length_add_append->v2,drop_length_add_append->tr,take_left->v3,drop_left->v4,drop->Yv,take->AB,map_map->p4,map_congr_left->nW,mem_map_of_mem->ts,map_id'->AE,getElem?_take->oZ,take_left'->Jx,drop_left'->Yw,reverse_append->Yx,takeWhile_cons_of_pos->Yy,takeWhile_cons->Yz,take_succ_cons->AG,take_reverse->AH,mem_reverse->JA,drop_drop->JB,sum_append->o0,drop_append->JC,mem_append_left->v6,mem_append_right->YA,sum_cons->p6,getLastD_eq_getLast?->AK,length_pos_iff->rz,count_append->AL,count_eq_zero->YC,any_map->YD,exists_cons_of_ne_nil->YI,take_append->v7,getElem?_append->v8,getElem?_drop->JH,eq_nil_of_length_eq_zero->YK,getElem?_of_mem->tt,dropWhile_sublist->YM,append_eq_nil_iff->YO
open Exists renaming elim->gC,intro->kw
open Int renaming zero_add->z8,add_assoc->Xr,mul_zero->I4,mul_add->Xz,add_zero->rk,one_mul->pY,mul_one->Jf,neg_one_mul->Am,sub_nonneg_of_le->nN,add_comm->Jj,sub_self->vX,sub_sub->XT,min_eq_left->lM,ofNat_le->dL,min_eq_right->nT,max_eq_right->oY,max_eq_left->p5,le_total->JD,ofNat_sub->YF,ofNat_lt->fl,ofNat->YQ,le_refl->p8,natCast_nonneg->mR,le_of_lt->rA,negSucc_lt_zero->YT,mul_nonneg->JJ,lt_irrefl->YU,lt_of_le_of_lt->YV,eq_ofNat_of_zero_le->oU,toNat_natCast->XH,not_lt->il,natCast_add->Jh,add_sub_cancel->As,not_le->Jr,lt_of_lt_of_le->p3,min_le_right->Yp,min_le_left->Yq,lt_min->Yr,le_trans->tp,le_add_of_nonneg_right->Yu,ofNat_eq_zero->Jw,sub_le_self->JF,ne_of_gt->YH,ofNat_inj->YJ,lt_add_one_iff->JI
open Classical renaming not_not->tu
open Bool renaming and_eq_true->d9,or_eq_true->AP,eq_iff_iff->Al,not_eq_true'->oW
open PySem.Heap renaming lt_size->im,SameBut->qc,get?_push_of_some->iJ,ExtBut->tv,get?_push_size->kY,get?_update_self->rj,size_update->Xw,get?_update_ne->vQ,size_push->Xy,get?->vT,get?_update_other->Aq
open Option renaming isSome_iff_exists->qa,some->Y,map_some->vM,none_or->Xm,none->am,map_eq_some_iff->hS,bind_eq_some_iff->fk,isNone_iff_eq_none->XU,bind_some->XY,elim_none->Jn,elim_some->Ar,toList_some->tn
open Ne renaming symm->hT
open PySem.Keeper renaming frame->Xi,machine->Xj,boundFrame->Xk
open PySem.W.Looks renaming of_pure->Xl
open PySem.IsRange renaming new->IZ
open Eq renaming symm->dp
open Array renaming any_toList->Ab,length_toList->eN,getElem?_toList->kv,getElem?_eq_some_iff->lI,toList_reverse->XF,getElem?_eq_getElem->vV,toList_inj->XX,replicate->Yn,all_toList->Jt
open PySem.PyData renaming keyHash->tc,int->AO
open PySem.Obj renaming putName->I3,mapSeq->Ah,data_mapFields->th,mapFields->rp,isFreed_of_fields->Ap
open PySem.Code renaming weight->Ad,cUnits->Ae,quiet_builtin->XO
open PySem.F renaming slot_int_rmul->XB,plainAttrs_list->Ai
open PySem.Builtin.List renaming listTooLong->I8,listSubscript?->Je,listSameRef->XG
open PySem.Value renaming isInt->Ja,isStrOf->XC,int->XM,none->nO,ref->mO,builtin->vY
open PySem.Heap.IsList renaming typeIs->XD
open PySem.Heap.IsSliceOf renaming new->Jc
open Function renaming comp->Ag
open PySem.Heap.SameBut renaming update->te
open PySem.Str renaming ofString->Aj
open PySem.NameKind renaming free->pZ
open PySem.Builtin.Str renaming padded->XJ,tooLong->XK
open PySem.EntryCells renaming newEntry->XN
open PySem.Builtin.ObjectAttr renaming storeInDict->XQ
open PySem.Within renaming cons->XR,nil->XS
open PySem.Expr renaming Call->XV
open Prod renaming mk->tj
open And renaming intro->bx
open PySem PySem.W PySem.Calls PyProof.Rows
noncomputable section
set_option Elab.async false
set_option maxRecDepth 100000
set_option maxHeartbeats 0
set_option linter.all false
set_option genInjectivity false
set_option genSizeOf false
set_option tactic.hygienic false
namespace Mine
set_option genInjectivity true
inductive V where
 |aD|none
 |bool (b:Bool)
 |int (i:Int)
 |str (s:Str)
 |ref (a:Addr)
 |ext (v:bt)
set_option genInjectivity false
noncomputable def fP (K:Frag)(ae:Addr)(n:Str):Bool:= findIn K (.ref ae) n==Y am&&takerIn K ae n==Y am&&plainGet K ae n&&hasDictIn K ae&&plainOver K ae&& findIn K (.ref ae) "__setattr__"==Y (Y<|.builtin "object.__setattr__")
noncomputable abbrev yz (K:Frag)(ae:Addr):Bool:=isNotIn K "int" ae
variable{av:Type}
noncomputable def oN (z:av)(e:Stmt)(d:List Expr->Expr->Pos->av:=λq q q=>z)(j:Option Expr->Pos->av:=λq q=>z)(h:Expr->Pos->av:=λq q=>z)(c:Expr->List Stmt->List Stmt->Pos->av:=λq q q q=>z)(m:Expr->List Stmt->List Stmt->Pos->av:=λq q q q=>z)(i:Expr->Expr->List Stmt->List Stmt->Pos->av:=λq q q q q=>z)(g:Option Expr->Option Expr->Pos->av:=λq q q=>z)(l:List Stmt->List vL->List Stmt->List Stmt->Pos->av:=λq q q q q=>z)(a:Str->Arguments->List Stmt->List Expr->Option Expr->List TypeParam->cC->Option cC->Str->Pos->av:=λq q q q q q q q q q=>z)(f:Str->List Expr->List Keyword->List Stmt->List Expr->List TypeParam->cC->Option cC->Str->List Str->Pos->av:=λq q q q q q q q q q q=>z):av:=Stmt.casesOn (motive_2:=λq=>av) e a (λq q q q q q q q q q=>z) f j (λq q=>z) d (λq q q q q q q=>z) (λq q q q=>z) (λq q q q q=>z) i (λq q q q q=>z) m c (λq q q=>z) (λq q q=>z) (λq q q=>z) g l (λq q q q q=>z) (λq q q=>z) (λq q=>z) (λq q q q=>z) (λq q=>z) (λq q=>z) h (λq=>z) (λq=>z) λq=>z
noncomputable abbrev gz:Program:=PySem.Challenge.pw_sq0012_02
noncomputable def b6 (i:Nat):Stmt:=gz.main.body.getD i<|.Pass default
noncomputable def N1 (s:Stmt):List Stmt:=oN [] s (f:=λ_ _ _ b _ _ _ _ _ _ _=>b)
noncomputable def eA (i j:Nat):Stmt:=(N1<|b6 i).getD j<|.Pass default
noncomputable def fBody (s:Stmt):List Stmt:=oN [] s (a:=λ_ _ b _ _ _ _ _ _ _=>b)
noncomputable def fScope (s:Stmt):cC:=oN ⟨.function,[],false,false,[]⟩ s (a:=λ_ _ _ _ _ _ s _ _ _=>s)
structure mY where
 a:Addr
 b:List Stmt
 s:cC
 bB:List Str
 g8:List V
 nm:List Str
noncomputable def fr (a:Addr)(st:Stmt)(bB:List Str)(g8:List V)(ls:List Str):mY:=⟨a,fBody st,fScope st,bB,g8,bB++ls⟩
noncomputable def bL (x:Str)(u:V):Str×V:=(x,u)
noncomputable def cp (ae:Addr)(x:Str):Addr×Str:=(ae,x)
noncomputable def fH (ae:Addr)(x:Str)(f:Addr):Addr×Str×Addr:=(ae,x,f)
noncomputable def ix:List mY:=[fr 35 (eA 2 0) ["self","symbol","data"] [] [], fr 109 (eA 9 0) ["self","number","advances"] [] [], fr 149 (eA 10 0) ["self"] [] [], fr 156 (eA 10 1) ["self"] [] [], fr 163 (eA 10 2) ["self","marker","position"] [] [], fr 184 (eA 10 5) ["self","start","end","is_before"] [] ["marker","number"], fr 191 (eA 10 6) ["self","start","end"] [] ["marker","number"], fr 198 (eA 10 7) ["self","start","end","many"] [] ["marker","number"], fr 212 (b6 12) ["marker","buffer","place"] [] [], fr 226 (eA 15 0) ["self","most"] [] [], fr 240 (b6 16) ["buffer","place"] [] [], fr 247 (b6 17) ["buffer"] [] [], fr 254 (b6 18) ["ring","buffer","place"] [] ["marker"], fr 261 (b6 19) ["ring","buffer","place"] [] ["marker"], fr 289 (b6 22) ["raw"] [] [], fr 296 (b6 23) ["raw"] [] [], fr 303 (b6 24) ["raw"] [] [], fr 310 (b6 27) ["buffer"] [] [], fr 317 (b6 28) ["buffer","growth"] [] [], fr 324 (b6 29) ["buffer","start","end"] [] ["high","low"], fr 331 (b6 30) ["buffer","start","end"] [] ["listener"], fr 338 (b6 31) ["buffer","start","end","old_length"] [] ["listener"], fr 345 (b6 32) ["buffer","start","end"] [] ["gone"], fr 352 (b6 33) ["buffer","place","codes"] [] [], fr 359 (b6 34) ["buffer","start","end"] [] [], fr 366 (b6 35) ["buffer","place","many","before_markers"] [] [], fr 373 (b6 36) ["buffer","place","codes","before_markers","is_point_behind"] [] [], fr 381 (b6 38) ["buffer","place","codes","before_markers"] [.bool false] [], fr 389 (b6 39) ["buffer","codes","before_markers"] [.bool false] [], fr 396 (b6 40) ["buffer","start","end"] [] ["gone","high","low"], fr 404 (b6 41) ["buffer","start","end","codes","rows"] [.none] ["gone","high","low","point"], fr 411 (b6 46) ["view","place"] [] ["at"], fr 418 (b6 47) ["view","place"] [] ["at"], fr 425 (b6 50) ["code","column","width"] [] [], fr 432 (b6 52) ["number"] [] ["found","limb","low","rest"], fr 439 (b6 56) ["column","code","tab"] [] [], fr 446 (b6 57) ["row","place","tab"] [] ["code","column"], fr 453 (b6 58) ["row","tab"] [] [], fr 460 (b6 59) ["row","column","tab"] [] ["now","place"], fr 467 (b6 60) ["row","column","tab"] [] ["begin","end","place"], fr 474 (b6 61) ["row","column","tab"] [] [], fr 481 (b6 62) ["row","column","tab"] [] ["place","whole"], fr 488 (b6 63) ["row","first","last","tab"] [] ["ahead","front","inside","rest"], fr 495 (b6 64) ["codes","column","tab"] [] ["after","code","found","now"], fr 502 (b6 65) ["row","first","last","tab"] [] ["ahead","code","end","inside","rest","start"], fr 509 (b6 66) ["row","first","last","tab"] [] ["ahead","inside","rest"], fr 516 (b6 67) ["row","first","last","tab"] [] ["ahead","inside","rest"], fr 523 (b6 68) ["row","first","last","tab"] [] ["ahead","rest"], fr 530 (b6 69) ["row","first","last","codes","tab"] [] ["ahead","inside","rest"], fr 537 (b6 70) ["row","column","codes","tab"] [] ["ahead","rest"], fr 544 (b6 72) ["row","column","tab"] [] ["ahead","at","rest"], fr 549 (b6 73) ["rows","first","begin","tab"] [] ["found","place","text","wide"], fr 563 (eA 76 0) ["self","low","high","rows","first","last"] [] [], fr 577 (b6 77) ["codes"] [] ["code","rows"], fr 584 (b6 78) ["rows"] [] ["codes","place"], fr 591 (b6 79) ["buffer","place","tab"] [] ["begin"], fr 598 (b6 80) ["buffer","start","end","tab"] [] ["columns","high","low","one","other"], fr 605 (b6 81) ["one","other","most"] [] ["many"], fr 612 (b6 82) ["buffer","begin","old","new","ahead","behind"] [] ["first","last"], fr 619 (b6 83) ["buffer","span","rows","column","tab"] [] ["ahead","at","begin","old","place"], fr 624 (b6 84) ["buffer","start","end","tab"] [] ["span"], fr 629 (b6 85) ["buffer","start","end","tab"] [] ["span"], fr 636 (b6 86) ["buffer","start","end","tab"] [] ["found"], fr 641 (b6 87) ["buffer","start","end","tab"] [] ["span"], fr 646 (b6 88) ["buffer","start","end","tab"] [] ["span"], fr 651 (b6 89) ["buffer","start","end","tab"] [] ["span"], fr 656 (b6 90) ["buffer","start","end","codes","tab"] [] ["behind","rows","span"], fr 663 (b6 91) ["buffer","start","end","begin","tab"] [] ["span"], fr 668 (b6 92) ["buffer","rows","tab"] [] ["ahead","column","found","high","low","many","own","place","turn"], fr 675 (b6 93) ["found","column","rows","tab"] [] ["at","last","now","wide"], fr 682 (b6 94) ["codes","column","tab"] [] [], fr 701 (eA 98 0) ["self"] [] [], fr 715 (b6 99) ["registers","sign"] [] [], fr 722 (b6 100) ["registers","sign","content"] [] [], fr 727 (b6 101) ["registers","sign","rows"] [] [], fr 744 (b6 105) ["text"] [] [], fr 751 (b6 108) ["editor"] [] ["number"], fr 758 (b6 111) ["event"] [] [], fr 772 (b6 113) ["editor","values"] [] ["deed","rows","sign"], fr 779 (b6 114) ["editor","values"] [] [], fr 786 (b6 115) ["editor","values"] [] [], fr 793 (b6 116) ["editor","values"] [] [], fr 800 (b6 117) ["editor","values"] [] ["buffer"], fr 807 (b6 118) ["editor","values"] [] [], fr 814 (b6 119) ["editor","values"] [] [], fr 821 (b6 120) ["editor","values"] [] [], fr 828 (b6 121) ["editor","values"] [] [], fr 835 (b6 122) ["editor","values"] [] ["begin"], fr 849 (eA 124 0) ["self","codes","room"] [] [], fr 856 (eA 124 1) ["self"] [] [], fr 863 (eA 124 2) ["self","at"] [] [], fr 870 (eA 124 3) ["self","start","end"] [] ["shift"], fr 877 (eA 124 4) ["self","at"] [] ["moved"], fr 884 (eA 124 5) ["self","wanted"] [] ["lack"], fr 891 (eA 124 6) ["self","at","codes"] [] [], fr 898 (eA 124 7) ["self","start","end"] [] ["gone"], fr 941 (eA 126 0) ["self","number","name","room"] [.int 8] [], fr 962 (eA 126 3) ["self"] [] [], fr 969 (eA 126 4) ["self"] [] [], fr 976 (eA 126 5) ["self"] [] [], fr 983 (eA 126 6) ["self","place"] [] [], fr 990 (eA 126 7) ["self","start","end"] [] [], fr 997 (eA 126 8) ["self","place"] [] [], fr 1025 (eA 126 12) ["self","are_codes"] [] [], fr 1044 (eA 128 0) ["self"] [] [], fr 1051 (eA 128 1) ["self","number"] [] [], fr 1058 (eA 128 2) ["self","name"] [] ["number"], fr 1065 (eA 128 3) ["self","name"] [] ["buffer"], fr 1087 (eA 128 6) ["self","buffer"] [] [], fr 1094 (eA 128 7) ["self","buffer"] [] [], fr 1150 (eA 130 0) ["self"] [] [], fr 1171 (eA 132 0) ["self","buffers","commands","global_map"] [] [], fr 1178 (eA 132 1) ["self"] [] [], fr 1332 (b6 134) ["deck","many"] [] [], fr 1339 (b6 135) ["rows"] [] ["found","row"], fr 1346 (b6 136) ["rows","at"] [] ["number"], fr 1351 (b6 137) ["rows","number","column"] [] [], fr 1358 (b6 138) ["rows","one","other"] [] ["bottom","left","right","top"], fr 1363 (b6 139) ["rows","corners"] [] ["bottom","left","right","top"], fr 1370 (b6 140) ["row","column"] [] [], fr 1377 (b6 141) ["word","row","left","right","codes"] [] ["rest"], fr 1382 (b6 142) ["own","word","corners","codes","begin"] [] ["bottom","left","number","right","top","wide"], fr 1389 (b6 143) ["own","rows","at"] [] ["column","nth","number","old","row"], fr 1396 (b6 144) ["own","sign","at","raw"] [] ["behind"], fr 1401 (b6 145) ["deck","own","word","at","size"] [] ["behind","corners","deeds","due","first","last","mark","one","other","point","raw","sign","text"], fr 1408 (b6 146) ["editor","own"] [] ["buffer","due","sign"], fr 765 (b6 112) ["editor","values"] [] ["buffer","content","end","place"]]
noncomputable def iU:List mY:=[fr 739 (b6 103) ["registers","sign","buffer","is_ahead"] [] ["content","place"], fr 765 (b6 112) ["editor","values"] [] ["buffer","content","end","place"], fr 1413 (b6 147) ["script"] [] ["at","beat","buffer","code","column","deck","deed","due","editor","error","fresh","mark","number","own","point","refusal","row","rows","signs","text","values","word","words"]]
noncomputable def xB:List (Str×V):=[bL "Amalgam"<|.ref 1153,bL "BLANK"<|.int 32,bL "Buffer"<|.ref 1028,bL "DELETE"<|.int 127,bL "GapText"<|.ref 922,bL "LONGEST"<|.int 4194304,bL "MOST_MARKS"<|.int 16,bL "MOST_SIGNS"<|.int 4194304,bL "Many"<|.ref 278,bL "MarkRing"<|.ref 229,bL "Marker"<|.ref 133,bL "Markers"<|.ref 201,bL "NEWLINE"<|.int 10,bL "OWN_NUMBER"<|.int 0,bL "ROW_END"<|.int 10,bL "SPACE"<|.int 32,bL "Span"<|.ref 566,bL "TAB_lines"<|.int 9,bL "TAB_rectcols"<|.int 9,bL "_law_changed"<|.ref 1382,bL "_law_corners"<|.ref 1358,bL "_law_draw"<|.ref 1332,bL "_law_filled"<|.ref 1370,bL "_law_held"<|.ref 1363,bL "_law_place"<|.ref 1351,bL "_law_put"<|.ref 1389,bL "_law_registered"<|.ref 1396,bL "_law_row"<|.ref 1377,bL "_law_spot"<|.ref 1346,bL "_law_text"<|.ref 1339,bL "behind_last"<|.ref 675,bL "clear_rectangle"<|.ref 641,bL "cleared"<|.ref 516,bL "close_rectangle"<|.ref 651,bL "closed_up"<|.ref 544,bL "column_at"<|.ref 446,bL "column_behind"<|.ref 439,bL "column_of"<|.ref 591,bL "common_many"<|.ref 605,bL "cut_at"<|.ref 481,bL "cut_between"<|.ref 488,bL "delete"<|.ref 396,bL "delete_rectangle"<|.ref 629,bL "do_clear_rectangle"<|.ref 814,bL "do_close_rectangle"<|.ref 821,bL "do_copy_rectangle"<|.ref 786,bL "do_copy_rectangle_to_register"<|.ref 772,bL "do_delete_rectangle"<|.ref 793,bL "do_insert_register"<|.ref 765,bL "do_kill_rectangle"<|.ref 779,bL "do_number_rectangle"<|.ref 835,bL "do_open_rectangle"<|.ref 807,bL "do_string_rectangle"<|.ref 828,bL "do_yank_rectangle"<|.ref 800,bL "erased"<|.ref 509,bL "extract_rectangle"<|.ref 624,bL "extracted"<|.ref 502,bL "figures_of"<|.ref 432,bL "has_mark"<|.ref 247,bL "held"<|.ref 715,bL "hung_in"<|.ref 366,bL "hung_out"<|.ref 359,bL "insert_at"<|.ref 381,bL "insert_register"<|.ref 739,bL "is_many"<|.ref 289,bL "is_minus"<|.ref 296,bL "kill_rectangle"<|.ref 636,bL "line_end"<|.ref 418,bL "line_start"<|.ref 411,bL "marks_of"<|.ref 751,bL "need_room"<|.ref 317,bL "need_writable"<|.ref 310,bL "number_rectangle"<|.ref 663,bL "numbered"<|.ref 549,bL "numeric"<|.ref 303,bL "open_rectangle"<|.ref 646,bL "opened"<|.ref 467,bL "opened_up"<|.ref 523,bL "padded"<|.ref 474,bL "place_at"<|.ref 460,bL "push_mark"<|.ref 261,bL "put"<|.ref 722,bL "put_in_editing"<|.ref 373,bL "put_in_rectcols"<|.ref 537,bL "put_row"<|.ref 612,bL "put_rows"<|.ref 619,bL "reached"<|.ref 324,bL "rectangle_to_register"<|.ref 727,bL "replace"<|.ref 404,bL "replaced"<|.ref 530,bL "ring_marker"<|.ref 254,bL "row_columns"<|.ref 453,bL "row_columns_from"<|.ref 682,bL "rows_in"<|.ref 577,bL "set_mark"<|.ref 240,bL "set_marker"<|.ref 212,bL "sign_of"<|.ref 758,bL "span_of"<|.ref 598,bL "spread"<|.ref 495,bL "string_rectangle"<|.ref 656,bL "tell_ahead"<|.ref 331,bL "tell_behind"<|.ref 338,bL "text_codes"<|.ref 744,bL "text_in"<|.ref 352,bL "text_of"<|.ref 584,bL "text_out"<|.ref 345,bL "width_at"<|.ref 425,bL "yank_rectangle"<|.ref 668]
noncomputable def wU:List Str:=["abs","enumerate","int","isinstance","len","list","max","min","ord","range","sorted","str","sum"]
noncomputable def xA:List (Str×V):=[bL "BufferTable"<|.ref 1132,bL "Editor"<|.ref 1321,bL "LispSignal"<|.ref 38,bL "Registers"<|.ref 704,bL "_law_asked"<|.ref 1401,bL "_law_draw"<|.ref 1332,bL "_law_is_so"<|.ref 1408,bL "_law_spot"<|.ref 1346,bL "_law_text"<|.ref 1339,bL "do_yank_rectangle"<|.ref 800,bL "held"<|.ref 715,bL "insert"<|.ref 389,bL "insert_register"<|.ref 739,bL "marks_of"<|.ref 751,bL "push_mark"<|.ref 261,bL "sign_of"<|.ref 758,bL "yank_rectangle"<|.ref 668]
noncomputable def wV:List Str:=["abs","len","range"]
noncomputable def sH:List (Addr×Str×Addr):=[fH 201 "numbers" 156,fH 201 "put" 163,fH 201 "inserted" 184,fH 201 "deleted" 191,fH 201 "replaced" 198,fH 922 "size" 856,fH 922 "code" 863,fH 922 "codes" 870,fH 922 "move_gap" 877,fH 922 "widen_gap" 884,fH 922 "insert" 891,fH 922 "delete" 898,fH 1028 "begin" 962,fH 1028 "end" 969,fH 1028 "size" 976,fH 1028 "code_at" 983,fH 1028 "codes" 990,fH 1028 "goto" 997,fH 1028 "touch" 1025,fH 1132 "by_number" 1051,fH 1132 "by_name" 1058,fH 1132 "create" 1065,fH 1132 "select" 1087,fH 1132 "set_current" 1094,fH 1321 "current" 1178]
noncomputable def u5:List (Addr×Addr):=[(1153,1150),(1028,941),(1132,1044),(1321,1171),(922,849),(229,226),(133,109),(201,149),(704,701),(566,563)]
noncomputable def t0:List (Addr×Str):=[cp 1153 "sort",cp 1153 "many",cp 1028 "number",cp 1028 "name",cp 1028 "text",cp 1028 "markers",cp 1028 "point",cp 1028 "begv",cp 1028 "zv",cp 1028 "mark",cp 1028 "is_live",cp 1028 "is_read_only",cp 1028 "ticks",cp 1028 "codes_ticks",cp 1028 "saved_ticks",cp 1028 "listeners",cp 1028 "undo",cp 1028 "props",cp 1028 "overlays",cp 1028 "locals",cp 1028 "syntax",cp 1028 "file",cp 1132 "rows",cp 1132 "order",cp 1132 "current",cp 1132 "last_number",cp 1132 "last_marker",cp 1132 "listeners",cp 1321 "buffers",cp 1321 "commands",cp 1321 "global_map",cp 1321 "local_maps",cp 1321 "minor_maps",cp 1321 "question_map",cp 1321 "questions",cp 1321 "asker",cp 1321 "kills",cp 1321 "registers",cp 1321 "abbrevs",cp 1321 "windows",cp 1321 "files",cp 1321 "machine",cp 1321 "rules",cp 1321 "further",cp 1321 "matches",cp 1321 "loop",cp 1321 "goals",cp 1321 "undoing",cp 1321 "marks",cp 1321 "amalgam",cp 1321 "message",cp 1321 "is_echo_old",cp 1321 "is_shifting",cp 1321 "signal_text",cp 1321 "panes",cp 1321 "modes",cp 1321 "fill_column",cp 1321 "tab_width",cp 1321 "rectangle",cp 1321 "last_expansion",cp 1321 "replacing",cp 922 "room",cp 922 "cells",cp 922 "gap_start",cp 922 "gap_end",cp 278 "number",cp 229 "most",cp 229 "markers",cp 229 "last",cp 133 "number",cp 133 "advances",cp 133 "buffer",cp 133 "position",cp 201 "rows",cp 704 "contents",cp 566 "low",cp 566 "high",cp 566 "rows",cp 566 "first",cp 566 "last"]
noncomputable def kl (K:Frag)(a:Nat):Option Obj:=List.rec (motive:=λ_=>Option Obj) am (λp _ B=>Bool.rec (motive:=λ_=>Option Obj) B (Y p.2)<|gE a p.1) K
noncomputable def u6 (a b:List Nat):Bool:=List.rec (motive:=λ_=>List Nat->Bool) (λb=>match b with|[]=>true|_::_=>false) (λx _ B b=>match b with|[]=>false|y::b=>Bool.rec (motive:=λ_=>Bool) false (B b)<|gE x y) a b
noncomputable def xU (v:bt)(l:List Nat):Bool:=match v with
 |.str s _=>u6 s.cps.toList l
 |_=>false
noncomputable def findF (al:List lO)(l:List Nat):Option lO:=List.rec (motive:=λ_=>Option lO) am (λe _ B=>Bool.rec (motive:=λ_=>Option lO) B (Y e)<|xU e.key l) al
noncomputable def ly (K:Frag)(ns:Addr)(x:Str):Option (Option bt):=match kl K ns with
 |some ⟨_,_,.dict al _,_⟩=>(match findF al.toList x.cps.toList with
  |some e=>Y<|Y e.val
  |none=>if al.toList.any (·.refKey) then am else Y am)
 |_=>am
noncomputable def codeB (K:Frag)(h:bt)(X:Str):Bool:=match h with
 |.ref c=>(match kl K c with
  |some ⟨_,_,.fields aj,_⟩=>(match aj.toList with|_::.str n _::_=>n==X|_=>false)
  |_=>false)
 |_=>false
abbrev lV:=List Stmt×cC×List (Str×Addr)×Addr×Addr×Bool×Option (List Str)×Option Nat
noncomputable def Fo (b:List Stmt)(sc:cC)(ns:List Str)(k:Nat):Option lV:=Y (b,sc,[],iI,nX,true,Y ns,Y k)
noncomputable def cm (z:av)(o:Option Obj)(p:Obj->av):av:=Option.rec z (λo=>p o) o
noncomputable def sa (z:av)(d:Data)(p:FuncData->av):av:=Data.casesOn (motive:=λ_=>av) d z (λ_=>z) (λ_ _=>z) (λ_ _=>z) (λ_ _ _=>z) (λ_ _=>z) (λ_=>z) (λc=>p c) (λ_=>z) (λ_=>z) z
noncomputable def w3 (d:Data)(p:ClassData->Bool):Bool:=Data.casesOn (motive:=λ_=>Bool) d false (λ_=>false) (λ_ _=>false) (λ_ _=>false) (λ_ _ _=>false) (λ_ _=>false) (λ_=>false) (λ_=>false) (λc=>p c) (λ_=>false) false
noncomputable def KV (b:FuncBody)(p:List Stmt->Option lV):Option lV:=FuncBody.casesOn (motive:=λ_=>Option lV) b (λb=>p b) λ_=>am
noncomputable def vj (p:Arguments):Option (List Str):=bif p.posonlyargs.isEmpty&&p.vararg.isNone&&p.kwonlyargs.isEmpty&&p.kw_defaults.isEmpty&&p.kwarg.isNone then Y (p.args.map (·.arg)) else am
noncomputable def m9 (K:Frag)(d:bt):Option (List bt):=bif d==.none then Y [] else Value.casesOn (motive:=λ_=>Option<|List bt) d am am am (λ_=>am) (λ_ _=>am) (λ_ _=>am) (λ_ _=>am) (λ_ _=>am) (λ_=>am) (λ_=>am) λT=>cm am (kl K T) λo=>Data.casesOn (motive:=λ_=>Option<|List bt) o.data am (λ_=>am) (λl _=>Y l.toList) (λ_ _=>am) (λ_ _ _=>am) (λ_ _=>am) (λ_=>am) (λ_=>am) (λ_=>am) (λ_=>am) am
noncomputable def pj (K:Frag)(f:Addr):Option lV:=cm am (kl K f) λo=>sa am o.data λj=>KV j.body λb=>Y (b,j.scope,j.closure,j.globals,j.builtins,codeB K j.code j.qualname,vj j.params,(m9 K j.defaults).map (·.length))
noncomputable def Ix (v:bt)(p:Int->Bool):Bool:=Value.casesOn (motive:=λ_=>Bool) v false false false (λ_=>false) (λi _=>p i) (λ_ _=>false) (λ_ _=>false) (λ_ _=>false) (λ_=>false) (λ_=>false) λ_=>false
noncomputable def Iy (v:bt)(p:Str->Bool):Bool:=Value.casesOn (motive:=λ_=>Bool) v false false false (λ_=>false) (λ_ _=>false) (λ_ _=>false) (λs _=>p s) (λ_ _=>false) (λ_=>false) (λ_=>false) λ_=>false
noncomputable def xO (u:V)(v:bt):Bool:=match u with
 |.none=>v==.none
 |.bool b=>v==.bool b
 |.int i=>Ix v (i== ·)
 |.str x=>Iy v (x== ·)
 |.ref a=>v==.ref a
 |_=>false
noncomputable def uG (us:List V):List bt->Bool:=List.rec (λaj=>aj.isEmpty) (λu _ r aj=>List.rec false (λv l _=>xO u v&&r l) aj) us
noncomputable def t2 (K:Frag)(f:Addr)(us:List V):Bool:=cm false (kl K f) λo=>sa false o.data λj=>Option.rec false (λaj=>uG us aj)<|m9 K j.defaults
noncomputable def uf (K:Frag)(x:Str)(u:V):Bool:=match ly K iI x with
 |some (Y v)=>xO u v
 |_=>false
noncomputable def yy (K:Frag)(x:Str):Bool:=match ly K iI x with
 |some am=>true
 |_=>false
noncomputable def vn (o:Option (Option bt))(f:Addr):Bool:=o==Y (Y<|.ref f)
noncomputable def uH (K:Frag)(f:Addr):Bool:=cm false (kl K f) λo=>sa false o.data λ_=>o.cls==.type "function"
noncomputable def yl (K:Frag)(ae:Addr)(x:Str)(f:Addr):Bool:=vn (findIn K (.ref ae) x) f&&uH K f&&plainGet K ae x
noncomputable def yg (K:Frag)(ae f:Addr):Bool:=makesIn K ae&&vn (findIn K (.ref ae) "__init__") f&&uH K f&&k2 K (.ref ae)
noncomputable def yI (K:Frag)(N:Addr):Bool:=match kl K N with
 |some ⟨_,_,.dict al _,_⟩=>al.all λe=>match e.key with|.str _ _=>true|_=>false
 |_=>false
noncomputable def pB (o:Option (Option bt)):Bool:=o==Y am
noncomputable def Fh (K:Frag)(ae N f:Addr):Bool:=cm false (kl K ae) (λo=>o.cls==.type "type"&&w3 o.data λh=>h.mro==[.ref ae,.type "Exception",.type "BaseException",.type "object"]&&o.slots.toList.length==6&&o.slots.toList[4]?==Y (Y<|.builtin "Exception.__new__")&& !h.hasDel&&h.hasDict&&gE h.ns N)&& yI K N&&vn (ly K N "__init__") f&&pB (ly K N "__setattr__")&&pB (ly K N "__getattribute__")&&pB (ly K N "__getattr__")&&pB (ly K N "symbol")&&pB (ly K N "data")&&uH K f&&k2 K (.ref ae)
noncomputable def r7:List Addr:=[0,1,2,3,37,38,90,91,132,133,200,201,228,229,277,278,565,566,703,704,921,922,1027,1028,1131,1132,1152,1153,1320,1321,4,6,20,21,34,35,36,39,47,48,52,53,59,60,73,74,80,81,87,88,89,92,93,108,109,115,116,122,123,129,130,131,148,149,155,156,162,163,169,170,176,177,183,184,190,191,197,198,199,202,203,211,212,225,226,227,230,231,239,240,246,247,253,254,260,261,274,275,276,279,280,288,289,295,296,302,303,309,310,316,317,323,324,330,331,337,338,344,345,351,352,358,359,365,366,372,373,374,380,381,382,388,389,395,396,397,403,404,410,411,417,418,424,425,431,432,438,439,445,446,452,453,459,460,466,467,473,474,480,481,487,488,494,495,501,502,508,509,515,516,522,523,529,530,536,537,543,544,548,549,562,563,564,567,568,576,577,583,584,590,591,597,598,604,605,611,612,618,619,623,624,628,629,635,636,640,641,645,646,650,651,655,656,662,663,667,668,674,675,681,682,686,687,700,701,702,705,706,714,715,721,722,726,727,731,732,738,739,743,744,750,751,757,758,764,765,771,772,778,779,785,786,792,793,799,800,806,807,813,814,820,821,827,828,834,835,848,849,855,856,862,863,869,870,876,877,883,884,890,891,897,898,904,905,911,912,918,919,920,923,924,934,940,941,947,948,954,955,961,962,968,969,975,976,982,983,989,990,996,997,1003,1004,1010,1011,1017,1018,1024,1025,1026,1043,1044,1050,1051,1057,1058,1064,1065,1066,1072,1073,1079,1080,1086,1087,1093,1094,1100,1101,1107,1108,1114,1115,1121,1122,1128,1129,1130,1133,1134,1149,1150,1151,1154,1155,1170,1171,1177,1178,1184,1185,1191,1192,1198,1199,1205,1206,1212,1213,1219,1220,1226,1227,1233,1234,1240,1241,1247,1248,1254,1255,1261,1262,1268,1269,1275,1276,1282,1283,1289,1290,1296,1297,1303,1304,1310,1311,1317,1318,1319,1322,1323,1331,1332,1338,1339,1345,1346,1350,1351,1357,1358,1362,1363,1369,1370,1376,1377,1381,1382,1388,1389,1395,1396,1400,1401,1407,1408,1412,1413]
noncomputable def t6:List Addr:=(ix++iU).map (·.a)
noncomputable def t7:List (Option lV):=(ix++iU).map λr=>Fo r.b r.s r.bB r.g8.length
noncomputable def rW (K:Frag):List Bool:=[(ix++iU).all λr=>t2 K r.a r.g8,(xB++xA).all λp=>uf K p.1 p.2,(wU++wV).all<|yy K,sH.all λp=>yl K p.1 p.2.1 p.2.2,u5.all λp=>yg K p.1 p.2,t0.all λp=>fP K p.1 p.2, yz K 278,uf K "law"<|.ref 1413,Fh K 38 37 35,(K.lookup sysModules).isSome]
noncomputable def pe:Nat:=10
noncomputable abbrev zm:=@PySem.W.Fast.tw10156331382660048174
noncomputable abbrev xj:=@PySem.W.Fast.tw11892475500146522536
noncomputable abbrev zu:=@PySem.W.Fast.tw14364793385576792824
noncomputable abbrev yS:=@PySem.W.Fast.tw6613529449190102663
noncomputable def HI (st:Option (hU×Thread))(B:hU->Thread->Option hU)(s:hU)(a b:Bool):Option hU:= Bool.rec (motive:=λ_=>Option hU) (Bool.rec (motive:=λ_=>Option hU) am (Option.rec (motive:=λ_=>Option hU) am (λp=>Prod.rec (motive:=λ_=>Option hU) (λs t=>B s t) p) st) b) (Y s) a
noncomputable def sY (st:hU->Thread->Option (hU×Thread))(ok:Thread->Bool)(n:Nat):hU->Thread->Option hU:= Nat.rec (motive:=λ_=>hU->Thread->Option hU) (λ_ _=>am) (λ_ B s t=>HI (st s t) B s (through t)<|ok t) n
noncomputable def Il:List Obj->Nat->BT->BT
 |[],_,t=>t
 |o::r,n,t=>Il r (n+1)<|t.ins n o
noncomputable def T0 (P:Params):BT:=Il (mS P).objs.toList 0 .nil
noncomputable def BO (w:World)(os:OsState):hU:=⟨T0 w.params,11,(mS w.params).life,#[],boot_drawn,boot_toks,os⟩
noncomputable def q4:Program:={gz with main:={gz.main with body:=gz.main.body.drop 147}}
noncomputable def qO:List Str:=gz.boundNames.filter λn=>n !=("law":Str)
noncomputable def J7:List (Option lV)×List Bool:=(t7,eb pe true)
noncomputable def xz (s:hU)(a:Addr):Option Obj:=match Nat.blt a s.n with
 |true=>match s.tree.get a with
  |some o=>alive o
  |none=>am
 |false=>am
noncomputable def ua (as:List Addr)(s:hU):Frag:=as.filterMap λa=>(xz s a).map λo=>(a,o)
noncomputable def J6 (s:hU):List (Option lV)×List Bool:=(t6.map<|pj<|ua r7 s,rW<|ua r7 s)
theorem VF (w:World)(os:OsState):(sY (zm (xj zu) gz w) (yS 11<|Y<|.ref 6) 20000 (BO w os)<|topStub gz).map (λs=> ((staticsOk (importedModules gz.main.body) (mS w.params) s.abs.heap&&namesBound gz s.abs.heap&&gensDone s.abs&&laidKept (mS w.params) s.abs.heap), openSeen q4 qO (importedModules gz.main.body) (λ_=>true) true s.abs,J6 s))=Y (true,openGood q4 qO,J7):=by kernel_rfl
abbrev lw:OpenLaw:=PySem.Challenge.rw_sq0012_02
theorem Zi:lw.wellSaid=true:=by unfold OpenLaw.wellSaid;rw[PySem.W.Fast.te17119622794617984870,PySem.W.Fast.te8326940854005059898,PySem.W.Fast.te8179353310426384613,PySem.W.Fast.te17960256430627541270,PySem.W.Fast.te16286561074155671207,PySem.W.Fast.te9558739934217749035];refine look_both (look_both (look_both (look_both (look_both (look_both (look_both (look_both (look_both (look_both (look_both (look_both (look_both (look_both (look_both (look_both (look_both (look_both ?_ ?_) ?_) ?_) ?_) ?_) ?_) ?_) ?_) ?_) ?_) ?_) ?_) ?_) ?_) ?_) ?_) ?_) ?_;all_goals decide+kernel
set_option tactic.hygienic true
@[elab_as_elim] theorem J {c:Sort _}{a q:c}{b:c->Prop}(e:a=q)(C:b q):b a:=e▸C
@[elab_as_elim] theorem bm {c:Sort _}{i q:c}{b:c->Prop}(e:q=i)(C:b q):b i:=e▸C
variable{motive:Prop->Prop}{G X:Prop}
@[elab_as_elim] theorem mJ (e:G<->X)(C:motive X):motive G:=(propext e)▸C
@[elab_as_elim] theorem Zh (e:X<->G)(C:motive X):motive G:=(propext e)▸C
variable{I:Type _}
theorem bX {i:I}(C:am=Y i):G:=by cases C
theorem gB {i:I}(C:Y i=am):G:=by cases C
theorem kc (C:false=true):G:=by cases C
theorem vy (C:true=false):G:=by cases C
theorem jR {p:I->Prop}:∀v,v∈([]:List I)->p v:=λ_ C=>absurd C z7
theorem bA (C:∀G:Prop,(X->G)->G):X:=C X id
theorem lG {a b:Sort _}{p:a->b->Prop}(x:a)(y:b)(h0:p x y):∃x,∃y,p x y:=⟨x,y,h0⟩
theorem oM {a b c:Sort _}{p:a->b->c->Prop}(x:a)(y:b)(z:c)(h0:p x y z):∃x,∃y,∃z,p x y z:=⟨x,y,z,h0⟩
theorem nF {a:Sort _}{h:a->Prop}(h0:G)(x:a)(ak:h x):G/\∃x,h x:=⟨h0,x,ak⟩
theorem bj {a:Sort _}{p h:a->Prop}(x:a)(h0:p x)(ak:h x):∃x,p x/\h x:=⟨x,h0,ak⟩
theorem dj {a:Sort _}{p h r:a->Prop}(x:a)(h0:p x)(ak:h x)(ao:r x):∃x,p x/\h x/\r x:=⟨x,h0,ak,ao⟩
theorem fv {a b:Sort _}{p h:a->b->Prop}(x:a)(y:b)(h0:p x y)(ak:h x y):∃x,∃y,p x y/\h x y:=⟨x,y,h0,ak⟩
theorem mM {a:Sort _}{p h r Q:a->Prop}(x:a)(h0:p x)(ak:h x)(ao:r x)(bp:Q x):∃x,p x/\h x/\r x/\Q x:=⟨x,h0,ak,ao,bp⟩
theorem eV {a b:Sort _}{p h r:a->b->Prop}(x:a)(y:b)(h0:p x y)(ak:h x y)(ao:r x y):∃x,∃y,p x y/\h x y/\r x y:=⟨x,y,h0,ak,ao⟩
theorem i4 {a b c:Sort _}{p h:a->b->c->Prop}(x:a)(y:b)(z:c)(h0:p x y z)(ak:h x y z):∃x,∃y,∃z,p x y z/\h x y z:=⟨x,y,z,h0,ak⟩
theorem gd {a b:Sort _}{p h r Q:a->b->Prop}(x:a)(y:b)(h0:p x y)(ak:h x y)(ao:r x y)(bp:Q x y):∃x,∃y,p x y/\h x y/\r x y/\Q x y:=⟨x,y,h0,ak,ao,bp⟩
theorem vE {a b c:Sort _}{p h r:a->b->c->Prop}(x:a)(y:b)(z:c)(h0:p x y z)(ak:h x y z)(ao:r x y z):∃x,∃y,∃z,p x y z/\h x y z/\r x y z:=⟨x,y,z,h0,ak,ao⟩
theorem rb {a b:Sort _}{p h r Q o:a->b->Prop}(x:a)(y:b)(h0:p x y)(ak:h x y)(ao:r x y)(bp:Q x y)(bI:o x y):∃x,∃y,p x y/\h x y/\r x y/\Q x y/\o x y:=⟨x,y,h0,ak,ao,bp,bI⟩
theorem pQ {a b c:Sort _}{p h r Q o:a->b->c->Prop}(x:a)(y:b)(z:c)(h0:p x y z)(ak:h x y z)(ao:r x y z)(bp:Q x y z)(bI:o x y z):∃x,∃y,∃z,p x y z/\h x y z/\r x y z/\Q x y z/\o x y z:=⟨x,y,z,h0,ak,ao,bp,bI⟩
theorem zG {b a c:Sort _}{p h r Q o i q:a->b->c->Prop}(x:a)(y:b)(z:c)(h0:p x y z)(ak:h x y z)(ao:r x y z)(bp:Q x y z)(bI:o x y z)(c9:i x y z)(er:q x y z):∃x,∃y,∃z,p x y z/\h x y z/\r x y z/\Q x y z/\o x y z/\i x y z/\q x y z:=⟨x,y,z,h0,ak,ao,bp,bI,c9,er⟩
theorem rc {b a c d:Sort _}{p h r Q o i q bG:a->b->c->d->Prop}(x:a)(y:b)(z:c)(w:d)(h0:p x y z w)(ak:h x y z w)(ao:r x y z w)(bp:Q x y z w)(bI:o x y z w)(c9:i x y z w)(er:q x y z w)(D:bG x y z w):∃x,∃y,∃z,∃w,p x y z w/\h x y z w/\r x y z w/\Q x y z w/\o x y z w/\i x y z w/\q x y z w/\bG x y z w:=⟨x,y,z,w,h0,ak,ao,bp,bI,c9,er,D⟩
theorem kV {a b:Sort _}{p h:a->Prop}{r:a->b->Prop}(x:a)(h0:p x)(ak:h x)(y:b)(ao:r x y):∃x,p x/\h x/\∃y,r x y:=⟨x,h0,ak,y,ao⟩
theorem zF {a b c:Sort _}{h r:a->b->c->Prop}(h0:G)(x:a)(y:b)(z:c)(ak:h x y z)(ao:r x y z):G/\∃x,∃y,∃z,h x y z/\r x y z:=⟨h0,x,y,z,ak,ao⟩
variable{bg:Prop}
theorem dF (C:bg/\X)(k:bg->X->G):G:=k C.1 C.2
theorem dr {a:Sort _}{p:a->Prop}(C:∃x,p x)(k:∀x,p x->G):G:=gC C k
variable{ar:Prop}
theorem fT (C:bg/\X/\ar)(k:bg->X->ar->G):G:=dF C λa C=>dF C<|k a
theorem fc {a b:Sort _}{p:a->b->Prop}(C:∃x,∃y,p x y)(k:∀x,∀y,p x y->G):G:=dr C λx C=>dr C<|k x
variable{Z:Prop}
theorem gM (C:bg/\X/\ar/\Z)(k:bg->X->ar->Z->G):G:=dF C λa C=>fT C<|k a
theorem fU {a b c:Sort _}{p:a->b->c->Prop}(C:∃x,∃y,∃z,p x y z)(k:∀x,∀y,∀z,p x y z->G):G:=dr C λx C=>fc C<|k x
variable{ad:Prop}
theorem gy (C:bg/\X/\ar/\Z/\ad)(k:bg->X->ar->Z->ad->G):G:=dF C λa C=>gM C<|k a
theorem hh {a b d c:Sort _}{p:a->b->c->d->Prop}(C:∃x,∃y,∃z,∃w,p x y z w)(k:∀x,∀y,∀z,∀w,p x y z w->G):G:=dr C λx C=>fU C<|k x
variable{I:Prop}
theorem sP (C:bg/\X/\ar/\Z/\ad/\I)(k:bg->X->ar->Z->ad->I->G):G:=dF C λI C=>gy C<|k I
theorem kP {a b d c e:Sort _}{p:a->b->c->d->e->Prop}(C:∃x,∃y,∃z,∃w,∃v,p x y z w v)(k:∀x,∀y,∀z,∀w,∀v,p x y z w v->G):G:=dr C λx C=>hh C<|k x
variable{ae:Prop}
theorem sQ (C:bg/\X/\ar/\Z/\ad/\I/\ae)(k:bg->X->ar->Z->ad->I->ae->G):G:=dF C λI C=>sP C<|k I
theorem yO {a b f d c e:Sort _}{p:a->b->c->d->e->f->Prop}(C:∃x,∃y,∃z,∃w,∃v,∃u,p x y z w v u)(k:∀x,∀y,∀z,∀w,∀v,∀u,p x y z w v u->G):G:=dr C λx C=>kP C<|k x
variable{ag:Prop}
theorem yM (C:bg/\X/\ar/\Z/\ad/\I/\ae/\ag)(k:bg->X->ar->Z->ad->I->ae->ag->G):G:=dF C λI C=>sQ C<|k I
variable{ai:Prop}
theorem T8 (C:bg/\X/\ar/\Z/\ad/\I/\ae/\ag/\ai)(k:bg->X->ar->Z->ad->I->ae->ag->ai->G):G:=dF C λI C=>yM C<|k I
variable{au:Prop}
theorem yN (C:bg/\X/\ar/\Z/\ad/\I/\ae/\ag/\ai/\au)(k:bg->X->ar->Z->ad->I->ae->ag->ai->au->G):G:=dF C λI C=>T8 C<|k I
variable{aw:Prop}
theorem T9 (C:bg/\X/\ar/\Z/\ad/\I/\ae/\ag/\ai/\au/\aw)(k:bg->X->ar->Z->ad->I->ae->ag->ai->au->aw->G):G:=dF C λI C=>yN C<|k I
theorem Ua {g:Prop}(C:bg/\X/\ar/\Z/\ad/\I/\ae/\ag/\ai/\au/\aw/\g)(k:bg->X->ar->Z->ad->I->ae->ag->ai->au->aw->g->G):G:=dF C λI C=>T9 C<|k I
theorem vd {a:Sort _}{h:a->Prop}(C:bg/\∃x,h x)(k:bg->∀x,h x->G):G:=dF C λf C=>dr C<|k f
theorem a9 {a:Sort _}{p h:a->Prop}(C:∃x,p x/\h x)(k:∀x,p x->h x->G):G:=dr C λf C=>dF C<|k f
theorem d8 {a:Sort _}{p h r:a->Prop}(C:∃x,p x/\h x/\r x)(k:∀x,p x->h x->r x->G):G:=dr C λf C=>fT C<|k f
theorem dT {a b:Sort _}{p h:a->b->Prop}(C:∃x,∃y,p x y/\h x y)(k:∀x,∀y,p x y->h x y->G):G:=fc C λf d7 C=>dF C<|k f d7
theorem mA {a:Sort _}{p h r Q:a->Prop}(C:∃x,p x/\h x/\r x/\Q x)(k:∀x,p x->h x->r x->Q x->G):G:=dr C λf C=>gM C<|k f
theorem hg {a b:Sort _}{p h r:a->b->Prop}(C:∃x,∃y,p x y/\h x y/\r x y)(k:∀x,∀y,p x y->h x y->r x y->G):G:=fc C λf d7 C=>fT C<|k f d7
theorem fi {a b c:Sort _}{p h:a->b->c->Prop}(C:∃x,∃y,∃z,p x y z/\h x y z)(k:∀x,∀y,∀z,p x y z->h x y z->G):G:=fU C λf d7 bV C=>dF C<|k f d7 bV
theorem q0 {a:Sort _}{p h r Q o:a->Prop}(C:∃x,p x/\h x/\r x/\Q x/\o x)(k:∀x,p x->h x->r x->Q x->o x->G):G:=dr C λf C=>gy C<|k f
theorem cS {a b:Sort _}{p h r Q:a->b->Prop}(C:∃x,∃y,p x y/\h x y/\r x y/\Q x y)(k:∀x,∀y,p x y->h x y->r x y->Q x y->G):G:=fc C λf d7 C=>gM C<|k f d7
theorem ve {a b c:Sort _}{p h r:a->b->c->Prop}(C:∃x,∃y,∃z,p x y z/\h x y z/\r x y z)(k:∀x,∀y,∀z,p x y z->h x y z->r x y z->G):G:=fU C λf d7 bV C=>fT C<|k f d7 bV
theorem gZ {a b:Sort _}{p h r Q o:a->b->Prop}(C:∃x,∃y,p x y/\h x y/\r x y/\Q x y/\o x y)(k:∀x,∀y,p x y->h x y->r x y->Q x y->o x y->G):G:=fc C λf d7 C=>gy C<|k f d7
theorem mB {a b c:Sort _}{p h r Q o:a->b->c->Prop}(C:∃x,∃y,∃z,p x y z/\h x y z/\r x y z/\Q x y z/\o x y z)(k:∀x,∀y,∀z,p x y z->h x y z->r x y z->Q x y z->o x y z->G):G:=fU C λf d7 bV C=>gy C<|k f d7 bV
theorem sS {a b d c:Sort _}{p h r Q:a->b->c->d->Prop}(C:∃x,∃y,∃z,∃w,p x y z w/\h x y z w/\r x y z w/\Q x y z w)(k:∀x,∀y,∀z,∀w,p x y z w->h x y z w->r x y z w->Q x y z w->G):G:=hh C λf d7 bV W C=>gM C<|k f d7 bV W
theorem oD {a b d c:Sort _}{p h r Q o:a->b->c->d->Prop}(C:∃x,∃y,∃z,∃w,p x y z w/\h x y z w/\r x y z w/\Q x y z w/\o x y z w)(k:∀x,∀y,∀z,∀w,p x y z w->h x y z w->r x y z w->Q x y z w->o x y z w->G):G:=hh C λf d7 bV W C=>gy C<|k f d7 bV W
theorem sR {a b c:Sort _}{p h r Q o i q:a->b->c->Prop}(C:∃x,∃y,∃z,p x y z/\h x y z/\r x y z/\Q x y z/\o x y z/\i x y z/\q x y z)(k:∀x,∀y,∀z,p x y z->h x y z->r x y z->Q x y z->o x y z->i x y z->q x y z->G):G:=fU C λf d7 bV C=>sQ C<|k f d7 bV
theorem vf {b a c d:Sort _}{p h r Q o i q bG:a->b->c->d->Prop}(C:∃x,∃y,∃z,∃w,p x y z w/\h x y z w/\r x y z w/\Q x y z w/\o x y z w/\i x y z w/\q x y z w/\bG x y z w)(k:∀x,∀y,∀z,∀w,p x y z w->h x y z w->r x y z w->Q x y z w->o x y z w->i x y z w->q x y z w->bG x y z w->G):G:=hh C λf d7 bV W C=>yM C<|k f d7 bV W
theorem kq {a b:Sort _}{p:a->Prop}{h r:a->b->Prop}(C:∃x,p x/\∃y,h x y/\r x y)(k:∀x,p x->∀y,h x y->r x y->G):G:=dr C λf C=>dF C λd7 C=>dr C λbV C=>dF C<|k f d7 bV
theorem ig {a b:Sort _}{p:a->Prop}{h r Q:a->b->Prop}(C:∃x,p x/\∃y,h x y/\r x y/\Q x y)(k:∀x,p x->∀y,h x y->r x y->Q x y->G):G:=dr C λf C=>dF C λd7 C=>dr C λbV C=>fT C<|k f d7 bV
namespace La
inductive T where
 |v (i:Nat)|k (n:Nat)|a (x y:T)|m (n:Nat)(x:T)|s (x y:T)|g (x:T)|c (x:T)
noncomputable def qV:List Nat->Nat->Nat
 |[],_=>0
 |a::l,i=>Nat.rec a (λj _=>qV l j) i
noncomputable def qW:List Int->Nat->Int
 |[],_=>0
 |a::l,i=>Nat.rec a (λj _=>qW l j) i
noncomputable def T.d (c:List Nat)(t:T):Nat:=T.rec (λi=>qV c i) (λn=>n) (λ_ _ x y=>x+y) (λn _ x=>n*x) (λ_ _ _ _=>0) (λ_ _=>0) (λ_ _=>0) t
noncomputable def T.z (c:List Nat)(z:List Int)(t:T):Int:=T.rec (λi=>qW z i) (λn=>(n:Int)) (λ_ _ x y=>x+y) (λn _ x=>(n:Int)*x) (λ_ _ x y=>x -y) (λ_ x=> -x) (λx _=>((x.d c:Nat):Int)) t
abbrev cz:=List<|Nat×Int
noncomputable def pv (c:List Nat)(z:List Int)(i:Nat):Int:=Nat.rec 1 (λj _=>bif gE (j%2) 0 then qW z (j/2) else(qV c (j/2):Int)) i
noncomputable def ev (c:List Nat)(z:List Int):cz->Int
 |[]=>0
 |p::l=>p.2*pv c z p.1+ev c z l
noncomputable def sc (n:Int):cz->cz
 |[]=>[]
 |p::l=>(p.1,n*p.2)::sc n l
noncomputable def T.fD (t:T):cz:=T.rec (λi=>[(2*i+2,1)]) (λn=>[(0,(n:Int))]) (λ_ _ x y=>x++y) (λn _ x=>sc n x) (λ_ _ _ _=>[]) (λ_ _=>[]) (λ_ _=>[]) t
noncomputable def T.fK (t:T):cz:=T.rec (λi=>[(2*i+1,1)]) (λn=>[(0,(n:Int))]) (λ_ _ x y=>x++y) (λn _ x=>sc n x) (λ_ _ x y=>x++sc (-1) y) (λ_ x=>sc (-1) x) (λx _=>x.fD) t
theorem ph (c z):∀p X:cz,ev c z (p++X)=ev c z p+ev c z X
 |[],X=>(z8 _).symm
 |a::p,X=>by show _+ev c z (p++X)=_+ev c z p+_;rw[ph c z p X,Xr]
theorem pi (c z)(n:Int):∀p:cz,ev c z (sc n p)=n*ev c z p
 |[]=>(I4 n).symm
 |a::p=>by show n*a.2*_+ev c z (sc n p)=n*(a.2*_+ev c z p);rw[pi c z n p,Xz,Int.mul_assoc]
theorem RA (c z)(i:Nat):pv c z (2*i+2)=(qV c i:Int):=by show(bif gE ((2*i+1)%2) 0 then _ else(qV c ((2*i+1)/2):Int))=_;rw[Nat.mul_add_mod,Nat.mul_add_div<|I9 1];rfl
theorem RB (c z)(i:Nat):pv c z (2*i+1)=qW z i:=by show(bif gE ((2*i)%2) 0 then qW z (2*i/2) else _)=_;rw[Nat.mul_mod_right,Nat.mul_div_cancel_left i<|I9 1];rfl
theorem r5 (c z)(i:Nat)(n:Int):ev c z [(i,n)]=n*pv c z i:=rk _
theorem gk (c z):∀t:T,ev c z t.fD=(t.d c:Int):=λt=>by
 induction t with
 |v i=>exact(r5 ..).trans<|(pY _).trans<|RA c z i
 |k n=>exact(r5 ..).trans<|Jf _
 |a x y aL L=>exact(ph c z x.fD y.fD).trans (by rw[aL,L];rfl)
 |m n x aL=>exact(pi c z n x.fD).trans (by rw[aL];rfl)
 |_=>rfl
theorem xq (c z)(p:cz):ev c z (sc (-1) p)= -ev c z p:=(pi c z _ p).trans<|Am _
theorem hk (c z):∀t:T,ev c z t.fK=t.z c z:=λt=>by
 induction t with
 |v i=>exact(r5 ..).trans<|(pY _).trans<|RB c z i
 |k n=>exact(r5 ..).trans<|Jf _
 |a x y aL L=>exact(ph c z x.fK y.fK).trans (by rw[aL,L];rfl)
 |m n x aL=>exact(pi c z n x.fK).trans (by rw[aL];rfl)
 |s x y aL L=>exact(ph c z x.fK<|sc (-1) y.fK).trans (by rw[aL,xq,L];rfl)
 |g x aL=>exact(xq c z x.fK).trans<|congrArg _ aL
 |c x=>exact gk c z x
inductive H where
 |le (x y:T)|lt (x y:T)|eq (x y:T)|ne (x y:T)|jn (x y:T)|es (x y:T)
 |bW (x y:T)|Lt (x y:T)|Eq (x y:T)|Ne (x y:T)|iQ (x y:T)|hY (x y:T)
 |sub (t x y:T)|cN (t x y:T)|e4 (t x y:T)|AX (t x y:T)|qj (t x y:T)|fE (t x:T)|nh
def H.P (c:List Nat)(z:List Int)(C:H):Prop:=H.rec (λx y=>x.d c<=y.d c) (λx y=>x.d c<y.d c) (λx y=>x.d c=y.d c) (λx y=>¬ x.d c=y.d c) (λx y=>¬ x.d c<=y.d c) (λx y=>¬ x.d c<y.d c) (λx y=>x.z c z<=y.z c z) (λx y=>x.z c z<y.z c z) (λx y=>x.z c z=y.z c z) (λx y=>¬ x.z c z=y.z c z) (λx y=>¬ x.z c z<=y.z c z) (λx y=>¬ x.z c z<y.z c z) (λt x y=>t.d c=x.d c -y.d c) (λt x y=>t.d c=min (x.d c) (y.d c)) (λt x y=>t.d c=max (x.d c) (y.d c)) (λt x y=>t.z c z=min (x.z c z) (y.z c z)) (λt x y=>t.z c z=max (x.z c z) (y.z c z)) (λt x=>t.d c=(x.z c z).toNat) False C
inductive gF where
 |ge (p:cz)|eq (p:cz)|ne (p:cz)|sub (t x y:cz)
def gF.S (c:List Nat)(z:List Int)(f:gF):Prop:=gF.rec (λp=>0<=ev c z p) (λp=>ev c z p=0) (λp=>¬ ev c z p=0) (λt x y=>(ev c z t -ev c z x+ev c z y=0/\0<=ev c z x -ev c z y)\/(ev c z t=0/\0<=ev c z y -ev c z x)) f
noncomputable def dq (x y:cz):cz:=x++sc (-1) y
noncomputable def mw (x y:cz):cz:=(0,-1)::dq x y
theorem lj (c z x y):ev c z (dq x y)=ev c z x -ev c z y:=(ph c z _ _).trans (by rw[pi,Am];rfl)
theorem O1 (c z x y):ev c z (mw x y)= -1+(ev c z x -ev c z y):=congrArg (-1*1+ ·)<|lj c z x y
noncomputable def H.f (C:H):gF:=H.rec (λx y=> .ge<|dq y.fD x.fD) (λx y=> .ge<|mw y.fD x.fD) (λx y=> .eq<|dq y.fD x.fD) (λx y=> .ne<|dq y.fD x.fD) (λx y=> .ge<|mw x.fD y.fD) (λx y=> .ge<|dq x.fD y.fD) (λx y=> .ge<|dq y.fK x.fK) (λx y=> .ge<|mw y.fK x.fK) (λx y=> .eq<|dq y.fK x.fK) (λx y=> .ne<|dq y.fK x.fK) (λx y=> .ge<|mw x.fK y.fK) (λx y=> .ge<|dq x.fK y.fK) (λt x y=> .sub t.fD x.fD y.fD) (λt x y=> .sub (dq x.fD t.fD) x.fD y.fD) (λt x y=> .sub (dq t.fD y.fD) x.fD y.fD) (λt x y=> .sub (dq x.fK t.fK) x.fK y.fK) (λt x y=> .sub (dq t.fK y.fK) x.fK y.fK) (λt x=> .sub t.fD x.fK []) (.ge [(0,-1)]) C
noncomputable def H.g (C:H):gF:=H.rec (λx y=>H.f<|.jn x y) (λx y=>H.f<|.es x y) (λx y=>H.f<|.ne x y) (λx y=>H.f<|.eq x y) (λx y=>H.f<|.le x y) (λx y=>H.f<|.lt x y) (λx y=>H.f<|.iQ x y) (λx y=>H.f<|.hY x y) (λx y=>H.f<|.Ne x y) (λx y=>H.f<|.Eq x y) (λx y=>H.f<|.bW x y) (λx y=>H.f<|.Lt x y) (λ_ _ _=> .ge []) (λ_ _ _=> .ge []) (λ_ _ _=> .ge []) (λ_ _ _=> .ge []) (λ_ _ _=> .ge []) (λ_ _=> .ge []) (.ge []) C
variable{h o:cz}{pt last:Int}{aW:List Nat}{A:List Int}
theorem vK (aP:ev aW A h=pt)(af:ev aW A o=last)(C:pt<=last):0<=ev aW A (dq o h):=by rw[lj,aP,af];exact nN C
theorem rg {p X:cz}(aP:ev aW A p=pt)(af:ev aW A X=last)(C:pt<last):0<=ev aW A (mw X p):=by rw[O1,aP,af,Jj];exact nN<|Int.le_sub_left_of_add_le C
theorem IV (aP:ev aW A h=pt)(af:ev aW A o=last)(C:pt=last):ev aW A (dq o h)=0:=by rw[lj,aP,af,C,vX]
theorem IY (aP:ev aW A h=pt)(af:ev aW A o=last)(C:¬ pt=last):¬ ev aW A (dq o h)=0:=by rw[lj,aP,af];exact λe=>C (Int.eq_of_sub_eq_zero e).symm
theorem rh {X:cz}{b:Int}(aP:ev aW A h=pt)(aL:ev aW A o=last)(L:ev aW A X=b)(C:(pt -last+b=0/\0<=last -b)\/(pt=0/\0<=b -last)):(gF.sub h o X).S aW A:=by show(_/\_)\/(_/\_);rw[aP,aL,L];exact C
theorem zs (a b:Int):a -b -a+b=0:=by rw[XT,Jj b a,<-XT,vX,Int.zero_sub,Int.add_left_neg]
theorem lH (a b:Nat):((min a b:Nat):Int)=min (a:Int) b:=by
 rcases lL a b with C|C
 ·rw[dG C,lM<|dL.mpr C]
 ·rw[j1 C,nT<|dL.mpr C]
theorem jt (a b:Nat):((max a b:Nat):Int)=max (a:Int) b:=by
 rcases lL a b with C|C
 ·rw[nV C,oY<|dL.mpr C]
 ·rw[v5 C,p5<|dL.mpr C]
theorem IW (a b:Int):(a -min a b -a+b=0/\0<=a -b)\/(a -min a b=0/\0<=b -a):=by
 rcases JD b a with C|C
 ·exact .inl ⟨by rw[nT C];exact zs a b,nN C⟩
 ·exact .inr ⟨by rw[lM C,vX],nN C⟩
theorem IX (a b:Int):(max a b -b -a+b=0/\0<=a -b)\/(max a b -b=0/\0<=b -a):=by
 rcases JD b a with C|C
 ·exact .inl ⟨by rw[p5 C];exact zs a b,nN C⟩
 ·exact .inr ⟨by rw[oY C,vX],nN C⟩
theorem Xg (a b:Nat):(((a -b:Nat):Int) -a+b=0/\0<=(a:Int) -b)\/(((a -b:Nat):Int)=0/\0<=(b:Int) -a):=by
 rcases lL b a with C|C
 ·exact .inl ⟨by rw[YF C];exact zs a b,nN<|dL.mpr C⟩
 ·exact .inr ⟨by rw[AM C];rfl,nN<|dL.mpr C⟩
theorem Xh (a:Int):((a.toNat:Int) -a+0=0/\0<=a -0)\/((a.toNat:Int)=0/\0<=0 -a):=by
 rcases JD 0 a with C|C
 ·exact .inl ⟨by rw[Int.toNat_of_nonneg C,vX];rfl,nN C⟩
 ·exact .inr ⟨by rw[Int.toNat_eq_zero.mpr C];rfl,nN C⟩
theorem kd:∀C:H,C.P aW A->C.f.S aW A:=λC X=>by
 cases C with
 |le x y=>exact vK (gk ..) (gk ..)<|dL.mpr X
 |lt x y=>exact rg (gk ..) (gk ..)<|fl.mpr X
 |eq x y=>exact IV (gk ..) (gk ..)<|congrArg _ X
 |ne x y=>exact IY (gk ..) (gk ..) λe=>X<|YQ.inj e
 |jn x y=>exact rg (gk ..) (gk ..)<|fl.mpr<|YR X
 |es x y=>exact vK (gk ..) (gk ..)<|dL.mpr<|YS X
 |bW x y=>exact vK (hk ..) (hk ..) X
 |Lt x y=>exact rg (hk ..) (hk ..) X
 |Eq x y=>exact IV (hk ..) (hk ..) X
 |Ne x y=>exact IY (hk ..) (hk ..) X
 |iQ x y=>exact rg (hk ..) (hk ..)<|Int.lt_of_not_ge X
 |hY x y=>exact vK (hk ..) (hk ..)<|Int.le_of_not_gt X
 |sub t x y=>exact rh (gk ..) (gk ..) (gk ..) (by rw[show t.d aW=x.d aW -y.d aW from X];exact Xg _ _)
 |cN t x y=>exact rh ((lj ..).trans<|by rw[gk,gk,show t.d aW=min (x.d aW) (y.d aW) from X,lH]) (gk ..) (gk ..)<|IW ..
 |e4 t x y=>exact rh ((lj ..).trans<|by rw[gk,gk,show t.d aW=max (x.d aW) (y.d aW) from X,jt]) (gk ..) (gk ..)<|IX ..
 |AX t x y=>exact rh ((lj ..).trans<|by rw[hk,hk,show t.z aW A=min (x.z aW A) (y.z aW A) from X]) (hk ..) (hk ..)<|IW ..
 |qj t x y=>exact rh ((lj ..).trans<|by rw[hk,hk,show t.z aW A=max (x.z aW A) (y.z aW A) from X]) (hk ..) (hk ..)<|IX ..
 |fE t x=>exact rh ((gk ..).trans<|congrArg _ X) (hk ..) (X:=[]) (b:=0) rfl<|Xh _
 |nh=>cases X
theorem Qy:∀C:H,¬ C.P aW A->C.g.S aW A:=λC X=>by
 cases C with
 |le x y=>exact kd (.jn x y) X
 |lt x y=>exact kd (.es x y) X
 |eq x y=>exact kd (.ne x y) X
 |ne x y=>exact kd (.eq x y)<|tu.mp X
 |jn x y=>exact kd (.le x y)<|tu.mp X
 |es x y=>exact kd (.lt x y)<|tu.mp X
 |bW x y=>exact kd (.iQ x y) X
 |Lt x y=>exact kd (.hY x y) X
 |Eq x y=>exact kd (.Ne x y) X
 |Ne x y=>exact kd (.Eq x y)<|tu.mp X
 |iQ x y=>exact kd (.bW x y)<|tu.mp X
 |hY x y=>exact kd (.Lt x y)<|tu.mp X
 |_=>exact p8 0
noncomputable def ins (i:Nat)(n:Int)(p:cz):cz:=List.rec [(i,n)] (λa l r=>bif gE i a.1 then(i,n+a.2)::l else a::r) p
theorem O0 (i n)(p:cz):ev aW A (ins i n p)=n*pv aW A i+ev aW A p:=by
 induction p with
 |nil=>rfl
 |cons a p B=>
  show ev aW A (bif gE i a.1 then(i,n+a.2)::p else a::ins i n p)=n*_+(a.2*_+ev aW A p);cases e:gE i a.1 with
  |true=>show(n+a.2)*_+ev aW A p=_;rw[Int.add_mul,Xr,o1 e]
  |false=>show a.2*_+ev aW A (ins i n p)=_;rw[B,Int.add_left_comm]
noncomputable def ft (p:cz):cz:=List.rec [(0,0)] (λa _ r=>ins a.1 a.2 r) p
theorem xp (p:cz):ev aW A (ft p)=ev aW A p:=by
 induction p with
 |nil=>rfl
 |cons a p B=>exact(O0 a.1 a.2<|ft p).trans<|congrArg _ B
noncomputable def np (i:Nat)(n:Int):Bool:=Int.rec (λm=>gE m 0) (λ_=>gE (i%2) 0) n
noncomputable def u8 (p:cz):Bool:=List.rec true (λa _ r=>np a.1 a.2&&r) p
variable{i:Nat}
theorem Gi (e:i%2=0):0<=pv aW A i:=by
 cases i with
 |zero=>exact Int.zero_le_ofNat 1
 |succ j=>
  show 0<=(bif gE (j%2) 0 then qW A (j/2) else(qV aW (j/2):Int));have bE:gE (j%2) 0=false:=by cases X:gE (j%2) 0 with
   |false=>rfl
   |true=>rw[Nat.add_mod,o1 X] at e;exact absurd e (by decide)
  rw[bE];exact mR _
theorem TL (p:cz)(C:u8 p=true):ev aW A p<=0:=by
 induction p with
 |nil=>exact p8 0
 |cons a p B=>
  have C:(np a.1 a.2&&u8 p)=true:=C;rw[d9] at C;refine Int.add_nonpos ?_<|B C.2;have e:=C.1;cases X:a.2 with
  |ofNat m=>rw[X] at e;rw[show m=0 from o1 e];exact Int.le_of_eq<|Int.zero_mul _
  |negSucc m=>rw[X] at e;exact Int.mul_nonpos_of_nonpos_of_nonneg (rA<|YT m)<|Gi<|o1 e
noncomputable def fin (p:cz):Bool:=List.rec false (λa l _=>gE a.1 0&&Int.rec (λ_=>false) (λ_=>true) a.2&&u8 l) p
theorem PM (C:fin h=true):ev aW A h<0:=by
 cases h with
 |nil=>cases C
 |cons a l=>
  have C:(gE a.1 0&&Int.rec (λ_=>false) (λ_=>true) a.2&&u8 l)=true:=C;rw[d9,d9] at C;have aX:=C.1.2;refine Int.add_neg_of_neg_of_nonpos ?_<|TL l C.2;rw[o1 C.1.1];cases X:a.2 with
  |ofNat m=>rw[X] at aX;cases aX
  |negSucc m=>rw[show pv aW A 0=1 from rfl,Jf];exact YT m
noncomputable def lc (a b:Int)(p X:cz):cz:=ft<|sc a p++sc b X
theorem Fg (a b:Int)(p X:cz):ev aW A (lc a b p X)=a*ev aW A p+b*ev aW A X:=(xp _).trans<|(ph ..).trans (by rw[pi,pi])
noncomputable def fg (k:Nat)(p:cz):Int:=List.rec 0 (λa _ r=>bif gE k a.1 then a.2 else r) p
noncomputable def hu (n:Int):Nat:=Int.rec (λm=>m) (λm=>m+1) n
noncomputable def cE (x y w:av)(n:Int):av:=Int.rec (λm=>Nat.rec x (λ_ _=>y) m) (λ_=>w) n
def f1 (c:List Nat)(z:List Int)(rs:List cz):Prop:=∀p∈rs,0<=ev c z p
noncomputable def nat (k:Nat):Bool:=gE (k%2) 0
noncomputable def Hu (k:Nat)(p:cz)(rs N:List cz):List cz:=List.rec N (λX _ r=>cE r r (lc (hu<|fg k X) (hu<|fg k p) p X::r)<|fg k X) rs
noncomputable def nc (k:Nat)(all rs:List cz):List cz:=List.rec [] (λp _ r=>cE (p::r) (Hu k p all r) (bif nat k then lc 1 (hu<|fg k p) p [(k,1)]::r else r)<|fg k p) rs
variable{aB jI:av}
theorem zh {P:av->Prop}{a:av}(aL:P aB)(L:P jI)(aR:P a):P (cE aB jI a pt):=by
 cases pt with
 |ofNat m=>cases m with
  |zero=>exact aL
  |succ=>exact L
 |negSucc=>exact aR
theorem f1.cons {c:List Nat}{z:List Int}{p:cz}{rs:List cz}(C:0<=ev c z p)(t:f1 c z rs):f1 c z (p::rs):=λX m=>by
 cases m with
 |head=>exact C
 |tail _ m=>exact t X m
variable{rs:List cz}
theorem f1.hd (C:f1 aW A (h::rs)):0<=ev aW A h:=C h<|.head _
theorem f1.zA (C:f1 aW A (h::rs)):f1 aW A rs:=λX m=>C X<|.tail _ m
variable{b:Nat}
theorem Gw {m:Nat}(aP:0<=ev aW A h)(af:0<=ev aW A o):0<=ev aW A (lc m b h o):=by rw[Fg];exact Int.add_nonneg (JJ (mR _) aP)<|JJ (mR _) af
variable{N:List cz}
theorem UO (aP:0<=ev aW A h)(aK:f1 aW A N)(C:f1 aW A rs):f1 aW A (Hu b h rs N):=by
 induction rs with
 |nil=>exact aK
 |cons X rs B=>have B:=B C.zA;exact zh B B<|B.cons<|Gw aP C.hd
theorem OU (H:f1 aW A N)(C:f1 aW A rs):f1 aW A (nc b N rs):=by
 induction rs with
 |nil=>exact C
 |cons p rs B=>
  have B:=B C.zA;refine zh (B.cons C.hd) (UO C.hd B H) (?_:f1 aW A (bif nat b then _::nc b N rs else nc b N rs));generalize nc b N rs=R at B;cases e:nat b with
  |false=>exact B
  |true=>exact B.cons<|Gw (m:=1) C.hd (by rw[r5,pY];exact Gi<|o1 e)
noncomputable def UL (k:Nat)(rs:List cz)(a b:Nat):Nat:=List.rec (λa b=>a*b) (λp _ r a b=>cE (r a b) (r (a+1) b) (r a<|b+1)<|fg k p) rs a b
noncomputable def K0 (rs:List cz)(aO:List Nat):Nat×Nat:=List.rec (0,1000000) (λk _ b=>(λn=>bif i7 n b.2 then(k,n) else b)<|UL k rs 0 0) aO
noncomputable def E8 (k:Nat)(aO:List Nat):List Nat:=List.rec [] (λj l r=>bif gE j k then l else j::r) aO
noncomputable def rM (rs:List cz):Bool:=List.rec false (λp _ r=>fin p||r) rs
noncomputable def Fw (n:Nat):List Nat->List cz->Bool:=Nat.rec (λ_ rs=>rM rs) (λ_ r aO rs=>rM rs||(λk=>r (E8 k aO)<|nc k rs rs) (K0 rs aO).1) n
theorem D9 (C:f1 aW A rs)(e:rM rs=true):False:=by
 induction rs with
 |nil=>cases e
 |cons p rs B=>have e:(fin p||rM rs)=true:=e;rw[AP] at e;exact e.elim (λe=>YU 0<|YV C.hd<|PM e)<|B C.zA
theorem PS (n:Nat):∀{aO:List Nat} {rs:List cz},f1 aW A rs->Fw n aO rs=true->False:=by
 induction n with
 |zero=>exact D9
 |succ n B=>intro aO rs C e;have e:(rM rs||_)=true:=e;rw[AP] at e;exact e.elim (D9 C)<|B<|OU C C
noncomputable def g0 (n:Nat)(d:Nat)(p:cz):Nat:=List.rec d (λa _ r=>bif gE a.1 0||cE true (n.blt<|hu a.2) (n.blt<|hu a.2) a.2 then r else a.1) p
noncomputable def xo (k:Nat)(e p:cz):cz:=cE p (lc (hu<|fg k e) (-fg k p) p e) (lc (hu<|fg k e) (fg k p) p e)<|fg k e
theorem Ff {c:List Nat}{z:List Int}{k:Nat}{p:cz}(C:ev c z h=0):∃m:Nat,ev c z (xo k h p)=m*ev c z p:=by have D (b:Int):∃m:Nat,ev c z (lc (hu<|fg k h) b p h)=m*ev c z p:=⟨hu<|fg k h,by rw[Fg,C,I4,rk]⟩;exact zh (P:=λX=>∃m:Nat,ev c z X=m*ev c z p) ⟨1,(pY _).symm⟩ (D _)<|D _
noncomputable def eqs (n:Nat)(K:List Nat->List cz->Bool):List cz->List Nat->List cz->Bool:=Nat.rec (λ_ aO rs=>K aO rs) (λ_ r al aO rs=>List.rec (K aO rs) (λe al _=>(λk=>r (al.map<|xo k e) (E8 k aO)<|e::sc (-1) e::rs.map (xo k e))<|g0 1 (g0 1000000 0 e) e) al) n
def n0 (c:List Nat)(z:List Int)(al:List cz):Prop:=∀p∈al,ev c z p=0
theorem OY {b:List Nat->List cz->Bool}(bU:∀{aO rs},f1 aW A rs->b aO rs=true->False)(n:Nat):∀{al:List cz} {aO:List Nat} {rs:List cz},n0 aW A al->f1 aW A rs->eqs n b al aO rs=true->False:=by
 induction n with
 |zero=>exact λ_ C=>bU C
 |succ n B=>
  intro al aO rs he C;cases al with
  |nil=>exact bU C
  |cons e al=>
   have h0:=he e<|.head _;refine B (λX m=>?_)<|.cons (by rw[h0];exact p8 0)<|.cons (by rw[xq,h0];exact p8 0) λX m=>?_
   ·obtain⟨p,mp,bv⟩:=eF.mp m;obtain⟨m,X⟩:=Ff (c:=aW) (z:=A) (k:=g0 1 (g0 1000000 0 e) e) (p:=p) h0;rw[<-bv,X,he p<|.tail _ mp,I4]
   ·obtain⟨p,mp,bv⟩:=eF.mp m;obtain⟨m,X⟩:=Ff (c:=aW) (z:=A) (k:=g0 1 (g0 1000000 0 e) e) (p:=p) h0;rw[<-bv,X];exact JJ (mR _)<|C p mp
noncomputable def run (aO:List Nat)(al rs:List cz):Bool:=eqs al.length (Fw aO.length) al aO rs
variable{b:List Nat}
theorem HJ (he:n0 b A N)(C:f1 b A rs):run aW N rs=true->False:=OY (PS _) _ he C
inductive k3 (c:List Nat)(z:List Int):List gF->Prop where
 |nil:k3 c z []
 |cons {f cI} (C:f.S c z) (t:k3 c z cI):k3 c z (f::cI)
noncomputable def gF.go (f:gF)(r:List cz->List cz->List gF->Bool)(al rs:List cz)(L:List gF):Bool:=gF.rec (λp=>r al (ft p::rs) L) (λp=>r (ft p::al) rs L) (λ_=>r al rs<|L++[f]) (λ_ _ _=>r al rs<|L++[f]) f
noncomputable def FM (K:List cz->List cz->List gF->Bool)(cI:List gF):List cz->List cz->List gF->Bool:=List.rec K (λf _ r=>f.go r) cI
noncomputable def gF.cut (f:gF)(r:List cz->List cz->Bool)(al rs:List cz):Bool:=gF.rec (λ_=>false) (λ_=>false) (λp=>r al (ft (mw p [])::rs)&&r al (ft (mw [] p)::rs)) (λt x y=>r (ft (dq t x++y)::al) (ft (dq x y)::rs)&&r (ft t::al) (ft (dq y x)::rs)) f
noncomputable def fL (aO:List Nat)(L:List gF):List cz->List cz->Bool:=List.rec (λal rs=>run aO al rs) (λf _ r al rs=>run aO al rs||f.cut r al rs) L
theorem n0.cons {c:List Nat}{z:List Int}{p:cz}{rs:List cz}(C:ev c z p=0)(t:n0 c z rs):n0 c z (ft p::rs):=λX m=>by
 cases m with
 |head=>exact(xp p).trans C
 |tail _ m=>exact t X m
theorem f1.ft {p:cz}(C:0<=ev aW A p)(t:f1 aW A rs):f1 aW A (ft p::rs):=t.cons (by rw[xp];exact C)
variable{h:List gF}
theorem Wc (a:k3 b A h):∀{al rs:List cz},n0 b A al->f1 b A rs->fL aW h al rs=true->False:=by
 induction a with
 |nil=>exact HJ
 |@cons f cI C t B=>
  intro al rs he ax e;have e:(run aW al rs||f.cut (fL aW cI) al rs)=true:=e;rw[AP] at e;refine e.elim (HJ he ax) λe=>?_;cases f with
  |ge p=>cases e
  |eq p=>cases e
  |ne p=>
   have e:(fL aW cI _ _&&fL aW cI _ _)=true:=e;rw[d9] at e;rcases Int.lt_or_gt_of_ne (show ev b A p≠0 from C) with X|X
   ·exact B he (.ft (p:=mw [] p) (rg (p:=p) (X:=[]) rfl rfl X) ax) e.2
   ·exact B he (.ft (p:=mw p []) (rg (p:=[]) (X:=p) rfl rfl X) ax) e.1
  |sub t x y=>
   have e:(fL aW cI _ _&&fL aW cI _ _)=true:=e;rw[d9] at e;rcases show(ev b A t -ev b A x+ev b A y=0/\0<=ev b A x -ev b A y)\/(ev b A t=0/\0<=ev b A y -ev b A x) from C with X|X
   ·exact B (.cons (show ev b A (dq t x++y)=0 by rw[ph,lj];exact X.1) he) (.ft (show 0<=ev b A (dq x y) by rw[lj];exact X.2) ax) e.1
   ·exact B (.cons X.1 he) (.ft (show 0<=ev b A (dq y x) by rw[lj];exact X.2) ax) e.2
theorem k3.snoc {f:gF}(C:f.S aW A)(a:k3 aW A h):k3 aW A (h++[f]):=by
 induction a with
 |nil=>exact .cons C .nil
 |cons g _ B=>exact .cons g B
theorem QC {b:List cz->List cz->List gF->Bool}(bU:∀{al rs L},n0 aW A al->f1 aW A rs->k3 aW A L->b al rs L=true->False)(a:k3 aW A h):∀{al rs L},n0 aW A al->f1 aW A rs->k3 aW A L->FM b h al rs L=true->False:=by
 induction a with
 |nil=>exact bU
 |@cons f h C t B=>
  intro al rs L he ax ap e;cases f with
  |ge p=>exact B he (.ft C ax) ap e
  |eq p=>exact B (.cons C he) ax ap e
  |ne p=>exact B he ax (.snoc C ap) e
  |sub t x y=>exact B he ax (.snoc C ap) e
noncomputable def Gj (n:Nat)(d:Nat):List Nat:=Nat.rec [] (λi r=>(2*i+d)::r) n
noncomputable def Fn (g:gF)(U:List H):List gF:=g::List.rec [] (λC _ r=>C.f::r) U
noncomputable def fC (m n:Nat)(g:H)(U:List H):Bool:=FM (λal rs L=>fL (Gj m 2++Gj n 1) L al rs) (Fn g.g U) [] [] []
def bB (c:List Nat)(z:List Int)(P E:Prop)(U:List H):Prop:=List.rec ((_:E:=by kernel_rfl)->P) (λC _ r=>C.P c z->r) U
theorem UP (U:List H)(k:k3 aW A (List.rec [] (λ(C:H) _ r=>C.f::r) U)->bg->G):bB aW A G bg U:=by
 induction U with
 |nil=>exact k .nil
 |cons C l B=>exact λX=>B λa=>k<|.cons (kd C X) a
theorem e2 (m n:Nat)(g:H)(U:List H):bB aW A (g.P aW A) (fC m n g U=true) U:= UP U λa e=>Classical.byContradiction λn=>QC (λhe ax a=>Wc a he ax) (.cons (Qy g n) a) (λ_ m=>by cases m) (λ_ m=>by cases m) .nil e
end La
theorem kN (G:La.H)(e:La.fC 0 0 G []=true:=by kernel_rfl):G.P [] []:=La.e2 0 0 G [] e
variable{pt:Int}
theorem dW (G:La.H)(U:List La.H):La.bB [] [pt] (G.P [] [pt]) (La.fC 0 1 G U=true) U:=La.e2 0 1 G U
theorem RP (G:La.H)(e:La.fC 0 1 G []=true:=by kernel_rfl):G.P [] [pt]:=La.e2 0 1 G [] e
variable{last:Int}
theorem Gs (G:La.H)(U:List La.H):La.bB [] [pt,last] (G.P [] [pt,last]) (La.fC 0 2 G U=true) U:=La.e2 0 2 G U
theorem RQ (G:La.H)(e:La.fC 0 2 G []=true:=by kernel_rfl):G.P [] [pt,last]:=La.e2 0 2 G [] e
variable{aQ:Int}
theorem uS (G:La.H)(U:List La.H):La.bB [] [pt,last,aQ] (G.P [] [pt,last,aQ]) (La.fC 0 3 G U=true) U:=La.e2 0 3 G U
theorem RR (G:La.H)(e:La.fC 0 3 G []=true:=by kernel_rfl):G.P [] [pt,last,aQ]:=La.e2 0 3 G [] e
variable{b:Nat}
theorem cK (G:La.H)(U:List La.H):La.bB [b] [] (G.P [b] []) (La.fC 1 0 G U=true) U:=La.e2 1 0 G U
theorem gb (G:La.H)(e:La.fC 1 0 G []=true:=by kernel_rfl):G.P [b] []:=La.e2 1 0 G [] e
theorem mu (G:La.H)(U:List La.H):La.bB [b] [pt] (G.P [b] [pt]) (La.fC 1 1 G U=true) U:=La.e2 1 1 G U
theorem RV (G:La.H)(U:List La.H):La.bB [b] [pt,last,aQ] (G.P [b] [pt,last,aQ]) (La.fC 1 3 G U=true) U:=La.e2 1 3 G U
variable{i j e l t bf bc cnt lo:Nat}
theorem RS (G:La.H)(U:List La.H):La.bB [e,b,l,t,bf,bc,cnt,i,j,lo] [] (G.P [e,b,l,t,bf,bc,cnt,i,j,lo] []) (La.fC 10 0 G U=true) U:=La.e2 10 0 G U
variable{e6:Nat}
theorem RT (G:La.H)(U:List La.H):La.bB [e,b,t,bf,bc,cnt,lo,i,j,e6,l] [] (G.P [e,b,t,bf,bc,cnt,lo,i,j,e6,l] []) (La.fC 11 0 G U=true) U:=La.e2 11 0 G U
theorem RU {m:Nat}(G:La.H)(U:List La.H):La.bB [e,b,t,bf,bc,cnt,lo,i,j,e6,l,m] [] (G.P [e,b,t,bf,bc,cnt,lo,i,j,e6,l,m] []) (La.fC 12 0 G U=true) U:=La.e2 12 0 G U
theorem bH (G:La.H)(U:List La.H):La.bB [e,b] [] (G.P [e,b] []) (La.fC 2 0 G U=true) U:=La.e2 2 0 G U
theorem hI (G:La.H)(e:La.fC 2 0 G []=true:=by kernel_rfl):G.P [l,b] []:=La.e2 2 0 G [] e
theorem jQ (G:La.H)(U:List La.H):La.bB [e,b] [pt] (G.P [e,b] [pt]) (La.fC 2 1 G U=true) U:=La.e2 2 1 G U
theorem Gu (G:La.H)(e:La.fC 2 1 G []=true:=by kernel_rfl):G.P [l,b] [pt]:=La.e2 2 1 G [] e
theorem ch (G:La.H)(U:List La.H):La.bB [e,b,l] [] (G.P [e,b,l] []) (La.fC 3 0 G U=true) U:=La.e2 3 0 G U
theorem kk (G:La.H)(e:La.fC 3 0 G []=true:=by kernel_rfl):G.P [l,b,t] []:=La.e2 3 0 G [] e
theorem ow (G:La.H)(U:List La.H):La.bB [e,b,l] [pt] (G.P [e,b,l] [pt]) (La.fC 3 1 G U=true) U:=La.e2 3 1 G U
theorem cn (G:La.H)(U:List La.H):La.bB [e,b,l,t] [] (G.P [e,b,l,t] []) (La.fC 4 0 G U=true) U:=La.e2 4 0 G U
theorem uT (G:La.H)(U:List La.H):La.bB [e,b,l,t] [pt] (G.P [e,b,l,t] [pt]) (La.fC 4 1 G U=true) U:=La.e2 4 1 G U
theorem de (G:La.H)(U:List La.H):La.bB [e,b,l,t,i] [] (G.P [e,b,l,t,i] []) (La.fC 5 0 G U=true) U:=La.e2 5 0 G U
theorem e3 (G:La.H)(U:List La.H):La.bB [e,b,l,t,i,j] [] (G.P [e,b,l,t,i,j] []) (La.fC 6 0 G U=true) U:=La.e2 6 0 G U
theorem kO (G:La.H)(U:List La.H):La.bB [e,b,l,t,i,j,bf] [] (G.P [e,b,l,t,i,j,bf] []) (La.fC 7 0 G U=true) U:=La.e2 7 0 G U
theorem sC (G:La.H)(U:List La.H):La.bB [e,b,l,t,j,bf,bc,i] [] (G.P [e,b,l,t,j,bf,bc,i] []) (La.fC 8 0 G U=true) U:=La.e2 8 0 G U
theorem Gv (G:La.H)(U:List La.H):La.bB [e,b,l,t,bf,bc,cnt,i,j] [] (G.P [e,b,l,t,bf,bc,cnt,i,j] []) (La.fC 9 0 G U=true) U:=La.e2 9 0 G U
noncomputable abbrev aa:La.T:=.v 0
noncomputable abbrev ab:La.T:=.v 1
noncomputable abbrev ah:La.T:=.v 2
noncomputable abbrev az:La.T:=.v 3
noncomputable abbrev a8:La.T:=.v 4
noncomputable abbrev bS:La.T:=.v 5
noncomputable abbrev dQ:La.T:=.v 6
noncomputable abbrev ht:La.T:=.v 7
noncomputable abbrev n7:La.T:=.v 8
noncomputable abbrev ql:La.T:=.v 9
noncomputable abbrev tB:La.T:=.v 10
noncomputable abbrev AZ:La.T:=.v 11
noncomputable abbrev bh:La.T:=.v 0
noncomputable abbrev g7:La.T:=.v 1
noncomputable abbrev jD:La.T:=.v 2
noncomputable abbrev Y1:La.T:=.v 3
noncomputable abbrev Y2:La.T:=.v 4
noncomputable abbrev Y3:La.T:=.v 5
noncomputable abbrev Y4:La.T:=.v 6
noncomputable abbrev Y5:La.T:=.v 7
noncomputable abbrev b1:La.T:=.k 0
noncomputable abbrev aC:La.T:=.k 1
noncomputable abbrev j6:La.T:=.k 2
set_option tactic.hygienic false
set_option genInjectivity true
def V.is:V->bt->Prop
 |.aD,_=>False
 |.none,v=>v=.none
 |.bool b,v=>v=.bool b
 |.int i,v=>∃t,v=.int i t
 |.str s,v=>∃t,v=.str s t
 |.ref a,v=>v=.ref a
 |.ext x,v=>v=x
def cj:List V->List bt->Prop
 |[],[]=>True
 |u::us,v::aj=>u.is v/\cj us aj
 |_,_=>False
theorem cj.length:∀{us:List V} {aj:List bt},cj us aj->us.length=aj.length:=by
 intro D;induction D with
 |nil=>
  intro f;cases f with
  |nil=>intro o;exact rfl
  |cons _ _=>intro d;first|exact d.elim|cases d
 |cons e i B=>
  intro f;cases f with
  |nil=>intro d;first|exact d.elim|cases d
  |cons h j=>intro C;exact J fe<|J fe<|J (B C.2) rfl
variable{us ai:List V}{bs sub:List bt}
theorem cj.append (C:cj us bs)(aG:cj ai sub):cj (us++ai) (bs++sub):=by
 induction us generalizing bs with
 |nil=>cases bs with
  |nil=>exact aG
  |cons=>exact C.elim
 |cons a us B=>cases bs with
  |nil=>exact C.elim
  |cons b bs=>exact⟨C.1,B C.2⟩
theorem cj.get:∀{aj:List bt} {i:Nat} {u:V},cj us aj->us[i]?=Y u->∃v,aj[i]?=Y v/\u.is v:=by
 induction us with
 |nil=>intro aj i u q e;exact bX e
 |cons a us B=>
  intro aj i u C e;cases aj with
  |nil=>exact C.elim
  |cons b aj=>
   cases i with
   |zero=>cases e;exact bj b rfl C.1
   |succ i=>exact B (aj:=aj) (i:=i) C.2 e
theorem cj.take:∀{aj:List bt} (k:Nat),cj us aj->cj (us.take k) (aj.take k):=by
 induction us with
 |nil=>intro aj k C;cases aj with
  |nil=>cases k<;>exact trivial
  |cons=>exact C.elim
 |cons a us B=>intro aj k C;cases aj with
  |nil=>exact C.elim
  |cons b aj=>cases k with
   |zero=>exact trivial
   |succ k=>exact⟨C.1,B k C.2⟩
theorem cj.drop:∀{aj:List bt} (k:Nat),cj us aj->cj (us.drop k) (aj.drop k):=by
 induction us with
 |nil=>intro aj k C;cases aj with
  |nil=>cases k<;>exact trivial
  |cons=>exact C.elim
 |cons a us B=>intro aj k C;cases aj with
  |nil=>exact C.elim
  |cons b aj=>cases k with
   |zero=>exact C
   |succ k=>exact B k C.2
theorem cj.reverse:∀{aj:List bt},cj us aj->cj us.reverse aj.reverse:=by
 induction us with
 |nil=>intro aj C;cases aj with
  |nil=>exact trivial
  |cons=>exact C.elim
 |cons a us B=>intro aj C;cases aj with
  |nil=>exact C.elim
  |cons b aj=>exact J rB<|J rB<|(B C.2).append ⟨C.1,trivial⟩
theorem cj.set:∀{us:List V} {aj:List bt} (k:Nat) {u:V} {v:bt},cj us aj->u.is v->cj (us.set k u) (aj.set k v):=by
 intro us;induction us with
 |nil=>intro aj k u v C aG;cases aj<;>first|exact C|exact C.elim
 |cons a us B=>intro aj k u v C aG;cases aj with
  |nil=>exact C.elim
  |cons b aj=>cases k with
   |zero=>exact⟨aG,C.2⟩
   |succ k=>exact⟨C.1,B k C.2 aG⟩
inductive O where
 |list (aj:List V)
 |tup (aj:List V)
 |cP (al:List (Int×V))
 |fQ (al:List (Str×V))
 |inst (ae d:Addr)
 |attrs (ae:Addr)(al:List (Str×V))
abbrev aI:=Addr->Option O
def k4:List (Str×V)->List lO->Prop
 |[],[]=>True
 |x::al,e::aO=>(∃t,e.key=.str x.1 t)/\x.2.is e.val/\k4 al aO
 |_,_=>False
def iO:List (av×V)->List (av×bt)->Prop
 |[],[]=>True
 |x::al,e::aO=>x.1=e.1/\x.2.is e.2/\iO al aO
 |_,_=>False
structure cG where
 prog:Program
 w:World
 base:Heap
 K:Frag
 os:OsState
structure cG.Ok (c:cG):Prop where
 gL:c.K.In c.base
 lim:c.base.NoLimit
 glob:∃i,c.base.Ns iI i
 blt:∃oy,c.base.Ns nX oy/\∀x:Str,x≠"__name__"->oy x=p9 x
 digits:∃a,c.base.Ns cStatics a/\a "sys.int_max_str_digits"=am
 mods:∃o,c.base.get? sysModules=Y o
noncomputable abbrev cG.M (c:cG):Model:=model c.prog c.w
def lZ (c:cG)(C:Heap)(a:Addr):O->Prop
 |.list us=>∃aj n,C.get? a=Y (listOf aj n)/\cj us aj.toList
 |.tup us=>∃aj n,C.get? a=Y {cls:=.type "tuple",data:=.seq aj n}/\cj us aj.toList
 |.cP al=>∃au,C.DictOf (intKind c.prog c.w) a au/\iO al au
 |.fQ al=>∃au,C.DictOf (strKind c.prog c.w) a au/\iO al au
 |.inst ae d=>C.get? a=Y (instObj ae d)
 |.attrs ae al=>(∃aO n,C.get? a=Y (dictOf aO n)/\k4 al aO)/\∀x∈al,fP c.K ae x.1=true
variable{c:cG}{C aG:Heap}{a:Addr}
theorem lZ.mono {aE:O}(x:lZ c C a aE)(k:∀cm,C.get? a=Y cm->aG.get? a=Y cm):lZ c aG a aE:=by
 cases aE with
 |list us=>obtain⟨aj,n,e,r⟩:=x;exact(fv aj n (k _ e) r)
 |tup us=>obtain⟨aj,n,e,r⟩:=x;exact(fv aj n (k _ e) r)
 |cP al=>obtain⟨au,⟨aE,al,cv,e,X⟩,r⟩:=x;exact(bj au (i4 aE al cv (k _ e) X) r)
 |fQ al=>obtain⟨au,⟨aE,al,cv,e,X⟩,r⟩:=x;exact(bj au (i4 aE al cv (k _ e) X) r)
 |inst ae d=>exact k _ x
 |attrs ae al=>obtain⟨⟨aO,n,e,r⟩,z⟩:=x;exact⟨(fv aO n (k _ e) r),z⟩
theorem lZ.there {aE:O}(x:lZ c C a aE):∃cm,C.get? a=Y cm:=by
 cases aE with
 |list us=>obtain⟨aj,n,e,r⟩:=x;exact⟨_,e⟩
 |tup us=>obtain⟨aj,n,e,r⟩:=x;exact⟨_,e⟩
 |cP al=>obtain⟨au,⟨aE,al,cv,e,X⟩,r⟩:=x;exact⟨_,e⟩
 |fQ al=>obtain⟨au,⟨aE,al,cv,e,X⟩,r⟩:=x;exact⟨_,e⟩
 |inst ae d=>exact⟨_,x⟩
 |attrs ae al=>obtain⟨⟨aO,n,e,r⟩,z⟩:=x;exact⟨_,e⟩
structure bz (c:cG)(I:aI)(s:bZ):Prop where
 keep:c.base.StaysIn s.heap
 rep:∀a o,I a=Y o->lZ c s.heap a o
 new:∀a o,I a=Y o->c.base.get? a=am
 gens:s.gens=#[]
 os:s.os=c.os
variable{I:aI}{s:bZ}
theorem bz.lt (S:bz c I s){aE:O}(C:I a=Y aE):a<s.heap.objs.size:=by obtain⟨cm,e⟩:=(S.rep a aE C).there;exact im e
theorem bz.yG (S:bz c I s)(C:s.heap.objs.size<=a):I a=am:=by
 cases e:I a with
 |none=>rfl
 |some o=>exact absurd (S.lt e)<|rC.mpr C
theorem bz.tok (S:bz c I s)(t:Nat):bz c I {s with toks:=t}:=⟨S.keep,S.rep,S.new,S.gens,S.os⟩
noncomputable def aI.set (I:aI)(a:Addr)(o:O):aI:=λb=>if b=a then Y o else I b
theorem aI.set_same (I:aI)(a:Addr)(o:O):I.set a o a=Y o:=if_pos rfl
variable{ae:Addr}
theorem aI.hl (I:aI)(a:Addr)(o:O)(C:ae≠a):I.set a o ae=I ae:=if_neg C
def dI (I Z:aI)(a:Addr)(o:O):Prop:=I a=am/\Z=I.set a o
def Upd (I Z:aI)(a:Addr)(o:O):Prop:=Z=I.set a o
structure bO (own:Addr->Prop)(I:aI)(s:bZ)(Z:aI)(aH:bZ):Prop where
 ea:∀a o,¬ own a->I a=am->s.heap.get? a=Y o->aH.heap.get? a=Y o
 live:∀a o,s.heap.get? a=Y o->∃q,aH.heap.get? a=Y q
 fresh:∀a o,s.heap.get? a=Y o->I a=am->Z a=am
abbrev cX:Addr->Prop:=λq=>False
variable{aJ:Addr->Prop}
theorem bO.refl:bO aJ I s I s:=⟨λq q q q e=>e,λq q e=>⟨_,e⟩,λq q q e=>e⟩
theorem bO.tok (t:Nat):bO aJ I s I {s with toks:=t}:=⟨λq q q q e=>e,λq q e=>⟨_,e⟩,λq q q e=>e⟩
variable{ay aN:aI}{be aH:bZ}
theorem bO.trans (x:bO aJ I s ay be)(y:bO aJ ay be aN aH):bO aJ I s aN aH:= ⟨λa o n e g=>y.ea a o n (x.fresh a o g e)<|x.ea a o n e g,λa o e=>dr (x.live a o e) λq a7=>y.live a q a7,λa o l e=>dr (x.live a o l) λq a7=>y.fresh a q a7<|x.fresh a o l e⟩
variable{Z:aI}{aF:Addr->Prop}
theorem bO.weak (x:bO aJ I s Z aH)(C:∀a,aJ a->aF a):bO aF I s Z aH:=⟨λa o n e g=>x.ea a o (λX=>n<|C a X) e g,x.live,x.fresh⟩
def dV (c:cG)(I:aI)(s:bZ)(ad:V->aI->Prop):bt->bZ->Prop:=λv aH=>∃u Z,u.is v/\bz c Z aH/\bO cX I s Z aH/\ad u Z
variable{ad:V->aI->Prop}
theorem dV.trans (x:bO cX I s ay be):∀v aH,dV c ay be ad v aH->dV c I s ad v aH:= λq q A=>cS A λu Z a b d e=>⟨u,Z,a,b,x.trans d,e⟩
structure fz (W:eO)(n:Nat):Prop where
 depth:W.depth+2*n+4<=recursionLimit
 units:W.units+20*n+100<=cLine
 handled:W.handled=am
abbrev wh:=List V->(V->aI->Prop)->aI->Prop
abbrev YX:=List V->(Bool->aI->Prop)->aI->Prop
inductive kx where
 |next|brk|cont
 |ret (u:V)
def kx.is:kx->Flow->Prop
 |.next,f=>f=.next
 |.brk,f=>f=.brk
 |.cont,f=>f=.cont
 |.ret u,f=>∃v,f=.ret v/\u.is v
abbrev tE:=List V->(kx->List V->aI->Prop)->aI->Prop
noncomputable abbrev addrs (ag:Env):List Addr:=ag.locals::ag.cells.map (·.2)
def Own (ag:Env)(a:Addr):Prop:=a∈addrs ag
structure fy (c:cG)(ag:Env)(sc:cC)(nm:List Str):Prop where
 dv:ag.scope=sc
 kind:sc.kind=.function
 kinds:∀x∈nm,sc.names.lookup x=Y .local\/(sc.names.lookup x=Y .cell/\(ag.cells.lookup x).isSome=true)
 nodup:nm.Nodup
 apart:ag.cells.Pairwise fun x y=>x.2≠y.2
 above:∀n k,(n,k)∈ag.cells->ag.locals≠k
 glob:ag.globals=iI
 blt:ag.builtins=nX
 new:∀a∈addrs ag,c.base.get? a=am
structure cH (ag:Env)(nm:List Str)(ai:List V)(I:aI)(C:Heap):Prop where
 ex:∃m d:Str->Option bt,C.Ns ag.locals m/\(∀n k,ag.cells.lookup n=Y k->C.IsCell k (d n))/\
  ∀(i:Nat) (x:Str) (u:V),nm[i]?=Y x->ai[i]?=Y u->u=.aD\/∃v,(if ag.scope.names.lookup x=Y .local then m x else d x)=Y v/\u.is v
 len:ai.length=nm.length
 off:∀a∈addrs ag,I a=am
 cells:∀p∈ag.cells,∃o,C.get? p.2=Y o
variable{ag:Env}{nm:List Str}
theorem cH.live (F:cH ag nm ai I C):∀a∈addrs ag,∃o,C.get? a=Y o:=by
 obtain⟨⟨m,d,aX,_,_⟩,_,_,a1⟩:=F;intro a aK;rcases fF.mp aK with rfl|aK
 ·obtain⟨o,_,_,e,_⟩:=aX;exact⟨o,e⟩
 ·obtain⟨p,aP,rfl⟩:=eF.mp aK;exact a1 p aP
theorem cH.cy (F:cH ag nm ai I s.heap)(x:bO cX I s Z aH):cH ag nm ai Z aH.heap:=by
 have G:=F.live;obtain⟨⟨m,d,aX,a1,a6⟩,ap,aO,aq⟩:=F;have f:∀a∈addrs ag,∀o,s.heap.get? a=Y o->aH.heap.get? a=Y o:=λa aK o e=>x.ea a o id (aO a aK) e;refine⟨(eV m d ?_ (λn k e=>?_) a6),ap,λa aK=>dr (G a aK) λo e=>x.fresh a o e<|aO a aK,λp aP=>dr (aq p aP) λo e=>x.live _ o e⟩
 ·refine fi aX λo al cv e r=>?_;clear aX;exact(i4 o al cv (f _ (.head _) _ e) r)
 ·exact a9 (a1 n k e) λo a7 r=>(bj o (f k (.tail _<|eF.mpr<|bj ((n,k)) (mem_of_lookup e) rfl) _ a7) r)
def nZ (c:cG)(I:aI)(s:bZ)(ad:Bool->aI->Prop):Bool->bZ->Prop:=λb aH=>∃Z,bz c Z aH/\bO cX I s Z aH/\ad b Z
def iL (c:cG)(ag:Env)(nm:List Str)(I:aI)(s:bZ)(ad:kx->List V->aI->Prop):Flow->bZ->Prop:= λf aH=>∃k B Z,k.is f/\cH ag nm B Z aH.heap/\bz c Z aH/\bO (Own ag) I s Z aH/\ad k B Z
abbrev AY (_:V->aI->Prop):Type:=Prop
def mV (c:cG)(n:Nat)(f:V)(args:List V)(ad:V->aI->Prop)(I:aI):AY ad:= ∀(W:eO) (s:bZ) (ee:bt) (aj:List bt) (E:bt->bZ->Prop),fz W n->bz c I s->f.is ee->cj args aj->b7 c.M W (call ee aj []) (dV c I s ad) E s
def hF (b:Bool)(W B:Prop):Prop:=Bool.rec B W b
structure ja where
 r:V->aI->Prop
 n:List V->aI->Prop
 b:List V->aI->Prop
structure KK where
 c:cG
 d:Nat
 j:ja
abbrev aP:=KK->List V->List V->aI->Prop
abbrev bq:=aP->aP
abbrev lS:=aP->aP->aP
abbrev o6:=V->V->(V->aI->Prop)->aI->Prop
abbrev o3:=List V->(V->aI->Prop)->aI->Prop
abbrev mv (k:KK)(R:aP)(S:List V):kx->List V->aI->Prop:=λb ai I=>match b with|.next=>R k ai S I|.ret u=>k.j.r u I|.brk=>False|.cont=>False
abbrev oI (k:KK)(R:aP)(ai T:List V):V->aI->Prop:=λu Z=>R k ai (u::T) Z
section
variable(c:cG)(n:Nat)(sc:cC)(nm:List Str)
structure bP (e:Expr)(ae:bq):Prop where
 r:∀(W:eO) (ag:Env) (ai:List V) (I:aI) (s:bZ) (R:aP) (j:ja) (T:List V) (E:bt->bZ->Prop),fz W n->fy c ag sc nm->cH ag nm ai I s.heap->bz c I s->ae R ⟨c,n,j⟩ ai T I->
  b7 c.M W (eval e ag) (dV c I s (oI ⟨c,n,j⟩ R ai T)) E s
abbrev Ic (k:KK)(aF aE:aP)(ai T:List V):Bool->aI->Prop:=λb Z=>hF b (aF k ai T Z)<|aE k ai T Z
structure ir (e:Expr)(ae:lS):Prop where
 r:∀(W:eO) (ag:Env) (ai:List V) (I:aI) (s:bZ) (aF aE:aP) (j:ja) (T:List V) (E:bt->bZ->Prop),fz W n->fy c ag sc nm->cH ag nm ai I s.heap->bz c I s->ae aF aE ⟨c,n,j⟩ ai T I->
  b7 c.M W (isTrue e ag (eval e ag)) (nZ c I s (Ic ⟨c,n,j⟩ aF aE ai T)) E s
structure j5 (g:eO->Env->Prop)(st:Stmt)(ae:bq):Prop where
 r:∀(W:eO) (ag:Env) (ai:List V) (I:aI) (s:bZ) (R:aP) (j:ja) (E:bt->bZ->Prop),fz W n->g W ag->fy c ag sc nm->cH ag nm ai I s.heap->bz c I s->ae R ⟨c,n,j⟩ ai [] I->
  b7 c.M W (exec st ag) (iL c ag nm I s (mv ⟨c,n,j⟩ R [])) E s
structure mX (g:eO->Env->Prop)(st:List Stmt)(ae:bq):Prop where
 r:∀(W:eO) (ag:Env) (ai:List V) (I:aI) (s:bZ) (R:aP) (j:ja) (E:bt->bZ->Prop),fz W n->g W ag->fy c ag sc nm->cH ag nm ai I s.heap->bz c I s->ae R ⟨c,n,j⟩ ai [] I->
  b7 c.M W (execs st ag) (iL c ag nm I s (mv ⟨c,n,j⟩ R [])) E s
abbrev G4:eO->Env->Prop:=λq q=>True
abbrev fo:=j5 c n sc nm G4
abbrev FB:=mX c n sc nm G4
end
set_option genInjectivity false
variable{u:V}{v:bt}
theorem jp (a:u.is v)(S:bz c Z aH)(x:bO cX I s Z aH)(X:ad u Z):dV c I s ad v aH:=(gd u Z a S x X)
variable{kd:Tok}
theorem g2 (S:bz c Z aH)(x:bO cX I s Z aH)(X:ad (.int pt) Z):dV c I s ad (.int pt kd) aH:=(gd (.int pt) Z ⟨kd,rfl⟩ S x X)
variable{w:Str}
theorem pP (S:bz c Z aH)(x:bO cX I s Z aH)(X:ad (.str w) Z):dV c I s ad (.str w kd) aH:=(gd (.str w) Z ⟨kd,rfl⟩ S x X)
theorem s6 (S:bz c Z aH)(x:bO cX I s Z aH)(X:ad .none Z):dV c I s ad .none aH:=(gd .none Z rfl S x X)
variable{cL:Bool}
theorem fX (S:bz c Z aH)(x:bO cX I s Z aH)(X:ad (.bool cL) Z):dV c I s ad (.bool cL) aH:=(gd (.bool cL) Z rfl S x X)
theorem lF (S:bz c Z aH)(x:bO cX I s Z aH)(X:ad (.ref a) Z):dV c I s ad (.ref a) aH:=(gd (.ref a) Z rfl S x X)
theorem WR (S:bz c Z aH)(x:bO cX I s Z aH)(X:ad (.ext v) Z):dV c I s ad v aH:=(gd (.ext v) Z rfl S x X)
variable{aw:cC}
theorem lv (U:ag.scope=aw)(x:Str):ag.kindOf x=aw.names.lookup x:=by refine bm U ?_;rfl
def j8 (u:V)(P:Addr->Prop):Prop:=match u with|.ref a=>P a|_=>False
def iT (u:V)(P:Int->Prop):Prop:=match u with|.int a=>P a|_=>False
def Y6 (u:V)(P:Bool->Prop):Prop:=match u with|.bool a=>P a|_=>False
noncomputable def hK:List V->Nat->V
 |[],_=> .aD
 |u::_,0=>u
 |_::us,b+1=>hK us b
abbrev gT (u:V)(P:Addr->Prop):Prop:=match u with|.ref a=>P a|_=>False
abbrev tH (u:V)(P:Int->Prop):Prop:=match u with|.int a=>P a|_=>False
abbrev wJ (u:V)(P:Bool->Prop):Prop:=match u with|.bool a=>P a|_=>False
abbrev sM (u:V)(P:Prop):Prop:=match u with|.aD=>False|.none=>P|.bool _=>P|.int _=>P|.str _=>P|.ref _=>P|.ext _=>P
abbrev dC (S:List V)(P:V->List V->Prop):Prop:=match S with|u::S=>P u S|[]=>False
abbrev pG (S:List V)(P:V->V->List V->Prop):Prop:=dC S λb S=>dC S λa S=>P b a S
def gm:Nat->List V->List V->(List V->List V->Prop)->Prop
 |0,us,S,P=>P us S
 |m+1,us,S,P=>dC S λu S=>gm m (u::us) S P
abbrev jb:=List V->(List V->List V->Prop)->Prop
abbrev mH:jb:=λS P=>P [] S
abbrev em:jb:=λS P=>dC S λa S=>P [a] S
abbrev fj:jb:=λS P=>dC S λb S=>dC S λa S=>P [a,b] S
abbrev fJ:jb:=λS P=>dC S λc S=>dC S λb S=>dC S λa S=>P [a,b,c] S
abbrev mI:jb:=λS P=>dC S λd S=>dC S λc S=>dC S λb S=>dC S λa S=>P [a,b,c,d] S
abbrev nA:jb:=λS P=>dC S λe S=>dC S λd S=>dC S λc S=>dC S λb S=>dC S λa S=>P [a,b,c,d,e] S
abbrev Ht:jb:=λS P=>dC S λf S=>dC S λe S=>dC S λd S=>dC S λc S=>dC S λb S=>dC S λa S=>P [a,b,c,d,e,f] S
abbrev pH (b:Bool)(S:List V)(P:Option Int->List V->Prop):Prop:=match b with|true=>dC S λu S=>tH u λi=>P (Y i) S|false=>P am S
abbrev fI:aP:=λq q q q=>False
abbrev bi (i:Nat)(R:aP):aP:=λk ai S I=>sM (hK ai i)<|R k ai (hK ai i::S) I
abbrev aR (u:V)(R:aP):aP:=λk ai S I=>R k ai (u::S) I
abbrev bV (ag:o6)(R:aP):aP:=λk ai S I=>pG S λb a S=>ag a b (λu Z=>R k ai (u::S) Z) I
abbrev bC:aP:=λk ai S I=>dC S λu S=>k.j.r u I
abbrev uB:aP:=λk ai S I=>k.j.r .none I
abbrev bM:aP:=λk ai S I=>k.j.n ai I
abbrev jl:aP:=λk ai S I=>k.j.b ai I
theorem f3 (C:gT u aJ):∃a,u=.ref a/\aJ a:=by cases u<;>first|exact(bj _ rfl C)|exact C.elim
theorem jE {a8:Int->Prop}(C:tH u a8):∃a,u=.int a/\a8 a:=by cases u<;>first|exact(bj _ rfl C)|exact C.elim
theorem rN {T:Bool->Prop}(C:wJ u T):∃a,u=.bool a/\T a:=by cases u<;>first|exact(bj _ rfl C)|exact C.elim
theorem TR (C:sM u G):(u=.aD->False)/\G:=by cases u<;>first|exact⟨(λX=>by cases X),C⟩|exact C.elim
theorem TS (C:u=.aD->False)(p:G):sM u G:=by cases u<;>first|exact p|exact(C rfl).elim
theorem TQ:∀{us:List V} {i:Nat},(hK us i=.aD->False)->us[i]?=Y (hK us i):=by
 intro D;induction D with
 |nil=>intro o C;exact(C rfl).elim
 |cons e us B=>
  intro f;cases f with
  |zero=>intro o;exact rfl
  |succ n=>intro C;exact B C
theorem ER [Decidable G]:hF (decide G) bg ar=((G->bg)/\(¬ G->ar)):=by
 by_cases C:G
 ·refine J (decide_eq_true C) ?_;exact propext ⟨λa=>⟨λq=>a,λX=>(X C).elim⟩,λX=>X.1 C⟩
 ·refine J (decide_eq_false C) ?_;exact propext ⟨λa=>⟨λX=>(C X).elim,λq=>a⟩,λX=>X.2 C⟩
theorem N7:hF (!cL) X G=hF cL G X:=by cases cL<;>rfl
theorem N6 [Decidable G]:hF (!decide G) bg ar=((¬ G->bg)/\(G->ar)):=by refine J N7<|J ER ?_;exact propext ⟨λX=>⟨X.2,X.1⟩,λX=>⟨X.2,X.1⟩⟩
theorem N9 (C:cL=true->X)(aG:cL=false->G):hF cL X G:=by cases cL with|true=>exact C rfl|false=>exact aG rfl
variable{pos:Pos}
theorem Fs (i:Nat)(a4:nm[i]?=Y w)(hd:(w==("__debug__":Str))=false):bP c b aw nm (.Name w pos) (bi i):=by
 refine⟨λW ag ai I s R j T E aQ h F S af=>?_⟩;obtain⟨a,af⟩:=TR af;obtain⟨u,aU⟩:∃u,u=hK ai i:=⟨_,rfl⟩;have aU:=TQ a;generalize hK ai i=u at aU a af;have fo:=h;refine bA λco aB=>?_;obtain⟨dv,an,D,-,-,-,-,-,-⟩:=h;have ak:=F;obtain⟨⟨m,d,aX,a1,a6⟩,-,-,-⟩:=F;refine aB ?_;have q:w∈nm:=d1 a4;refine wpAny_Name ?_ hd;rcases a6 i w u a4 aU with rfl|⟨v,hm,f⟩
 ·exact(a rfl).elim
 rw[dv] at hm;have g:ag.scope.kind=.function:=by refine J dv ?_;exact an
 rcases D w q with ap|⟨ap,x⟩
 ·rw[if_pos ap] at hm;exact wpAny_loadName_local g (by refine J (lv dv _) ?_;exact ap) aX hm<|jp f S .refl af
 ·have bw:¬ (aw.names.lookup w=Y .local):=by refine J ap ?_;exact λe=>by cases e
  rw[if_neg bw] at hm;obtain⟨k,G⟩:=qa.mp x;exact wpAny_loadName_cell g (by refine J (lv dv _) ?_;exact ap) G (hm▸a1 w k G)<|jp f S .refl af
theorem VZ (a1:c.Ok)(bJ:nsIn c.K iI w=Y (Y v))(aU:u.is v)(aL:aw.names.lookup w=Y .globalImplicit)(hd:(w==("__debug__":Str))=false): bP c b aw nm (.Name w pos) (aR u):=by
 refine⟨λW ag ai I s R j T E aQ h F S af=>?_⟩;refine bA λco aB=>?_;obtain⟨dv,an,-,-,-,-,al,-,-⟩:=h;obtain⟨i,d⟩:=a1.glob;refine aB ?_;have g:ag.scope.kind=.function:=by refine J dv ?_;exact an
 refine Name_function_global g (by refine J (lv dv _) ?_;exact aL) (loadGlobal_global (mg:=i) (v:=v) ?_ (mg_of a1.gL d bJ)<|jp aU S .refl af) hd;refine J al ?_;exact d.keeps S.keep
theorem VX (a1:c.Ok)(bJ:nsIn c.K iI w=Y am)(a6:p9 w=Y v)(aX:w≠"__name__")(aL:aw.names.lookup w=Y .globalImplicit)(hd:(w==("__debug__":Str))=false): bP c b aw nm (.Name w pos) (aR<|.ext v):=by
 refine⟨λW ag ai I s R j T E aQ h F S af=>?_⟩;refine bA λco aB=>?_;obtain⟨dv,an,-,-,-,-,al,A,-⟩:=h;obtain⟨i,d⟩:=a1.glob;refine a9 (a1.blt) λoy a aA=>aB ?_;have g:ag.scope.kind=.function:=by refine J dv ?_;exact an
 refine Name_function_global g (by refine J (lv dv _) ?_;exact aL) (loadGlobal_builtin (mg:=i) (mb:=oy) (v:=v) ?_ (mg_none_of a1.gL d bJ) ?_ ((aA w aX).trans a6)<|WR S .refl af) hd
 ·refine J al ?_;exact d.keeps S.keep
 ·refine J A ?_;exact a.keeps S.keep
theorem HT:bP c e aw nm (.Constant (.int pt) b pos) (aR<|.int pt):=⟨λq q q q q q q q q q q q S af=>wpAny_Constant_int<|g2 (S.tok _) (.tok _) af⟩
theorem V2:bP c e aw nm (.Constant .none b pos) (aR .none):=⟨λq q q q q q q q q q q q S af=>wpAny_Constant_none<|s6 S .refl af⟩
theorem VY:bP c l aw nm (.Constant (.bool cL) e pos) (aR<|.bool cL):=⟨λq q q q q q q q q q q q S af=>wpAny_Constant_bool<|fX S .refl af⟩
theorem V3:bP c e aw nm (.Constant (.str w) b pos) (aR<|.str w):=⟨λq q q q q q q q q q q q S af=>wpAny_Constant_str<|pP (S.tok _) (.tok _) af⟩
def fN (c:cG)(n:Nat)(f:bt->bt->Sem bt)(ag:V->V->(V->aI->Prop)->aI->Prop):Prop:= ∀(W:eO) (I:aI) (s:bZ) (ad:V->aI->Prop) (E:bt->bZ->Prop) (a b:V) (Q Z:bt),fz W n->bz c I s->a.is Q->b.is Z->ag a b ad I->b7 c.M W (f Q Z) (dV c I s ad) E s
variable{E:bt->bZ->Prop}{Cl aY:bq}{b5:eO}{gF:aP}{fD:ja}{mb:bt->bt->Sem bt}{aj:o6}{aM cI:Expr}
theorem two (hf:fN c t mb aj)(ap:bP c t aw nm cI Cl)(ax:bP c t aw nm aM aY)(aQ:fz b5 t)(h:fy c ag aw nm)(F:cH ag nm ai I s.heap)(S:bz c I s)(af:Cl (aY<|bV aj gF) ⟨c,t,fD⟩ ai us I): b7 c.M b5 (eval cI ag) (λa be=>b7 c.M b5 (eval aM ag) (λb n=>b7 c.M b5 (mb a b) (dV c I s<|oI ⟨c,t,fD⟩ gF ai us) E n) E be) E s:=by refine b0 (ap.r b5 ag ai I s _ _ _ E aQ h F S af) (λQ be A=>cS A λa ay aK H av aZ=>?_) λq q e=>e;have bC:=F.cy av;refine b0 (ax.r b5 ag ai ay be _ _ _ E aQ h bC H aZ) (λZ n A=>cS A λb aN aA p a3 O=>?_) λq q e=>e;exact b0 (hf b5 aN n _ E a b Q Z aQ p aK aA O) (dV.trans<|av.trans a3) λq q e=>e
theorem Pu {o:Operator}(hf:fN c b (qb o) aj)(ap:bP c b aw nm cI Cl)(ax:bP c b aw nm aM aY):bP c b aw nm (.BinOp cI o aM pos) λR=>Cl (aY<|bV aj R):= ⟨λq q q q q q q q q aQ h F S af=>wpAny_BinOp<|two hf ap ax aQ h F S af⟩
variable{bl:CmpOp}
theorem Px (hf:fN c b (j2 bl) aj)(ap:bP c b aw nm cI Cl)(ax:bP c b aw nm aM aY)(hm:AQ bl aM=false):bP c b aw nm (.Compare cI [bl] [aM] pos) λR=>Cl (aY<|bV aj R):= ⟨λq q q q q q q q q aQ h F S af=>wpAny_Compare1 (two hf ap ax aQ h F S af) hm⟩
set_option tactic.hygienic true
theorem bz.own (S:bz c I s)(U:qc a s.heap aG)(aO:I a=am)(aA:c.base.get? a=am):bz c I {s with heap:=aG,toks:=t}:=by
 refine⟨λb o e=>?_,λb o e=>?_,S.new,S.gens,S.os⟩
 ·have bw:b≠a:=λX=>by replace e:=aA▸X▸e;exact bX e
  exact(U.2 b bw).trans<|S.keep b o e
 ·have bw:b≠a:=λX=>by replace e:=aO▸X▸e;exact bX e
  exact(S.rep b o e).mono λcm X=>(U.2 b bw).trans X
theorem bO.own (U:qc a s.heap aG)(aO:aJ a)(ap:∃o,aG.get? a=Y o):bO aJ I s I {s with heap:=aG,toks:=t}:= ⟨λb o au _ g=>(U.2 b λX=>au<|X▸aO).trans g,λb o e=>by
  by_cases X:b=a
  ·refine J X ?_;exact ap
  ·exact⟨o,(U.2 b X).trans e⟩,λ_ _ _ e=>e⟩
variable{pre:List av}{aB jI:av}
theorem HN (C:(pre.set i aB)[j]?=Y jI):(j=i/\jI=aB)\/(j≠i/\pre[j]?=Y jI):=by
 by_cases e:j=i
 ·subst e;left;replace C:=YW▸C;simp at C;exact⟨rfl,C.2.symm⟩
 ·right;replace C:=(JK<|hT e)▸C;exact⟨e,C⟩
variable{name:Str}{gs:Unit->bZ->Prop}
theorem q7 (h:fy c ag aw nm)(F:cH ag nm ai I s.heap)(S:bz c I s)(a4:nm[i]?=Y name)(aU:u.is v) (C:∀aH,cH ag nm (ai.set i u) I aH.heap->bz c I aH->bO (Own ag) I s I aH->gs () aH):b7 c.M b5 (storeName ag name v) gs E s:=by
 have fo:=h;obtain⟨dv,an,D,B,l,T,al,A,t⟩:=h;have ak:=F;obtain⟨⟨m,d,aX,a1,a6⟩,bL,n,aY⟩:=F;have q:name∈nm:=d1 a4;have g:ag.scope.kind=.function:=by refine J dv ?_;exact an
 have a:∀j y,nm[j]?=Y y->j≠i->y≠name:=λj y bu bw e=>by subst e;exact bw<|(JL (e8.mp bu).1 B).mp<|bu.trans a4.symm
 have same:∀j y,nm[j]?=Y y->j=i->y=name:=λj y bu e=>by subst e;replace bu:=a4▸bu;exact(Y.inj bu).symm
 rcases D name q with ap|⟨ap,x⟩
 ·refine wpAny_storeName_local (by refine J (lv dv _) ?_;exact ap) aX (λaG V U=>?_) (by show(ag.scope.kind==.class||(ag.scope.kind==.module&&_))=false;refine J g ?_;rfl);refine C _ ⟨(eV _ d V (λz k e=>?_) λj y w bu aR=>?_),by refine J JM ?_;exact bL,n,λp aP=>dr (aY p aP) λo e=>⟨o,(U.2 _ λX=>T p.1 p.2 aP X.symm).trans e⟩⟩ (S.own U (n _<|.head _)<|t _<|.head _) (.own U (.head _)<|fi V λo _ _ e _=>⟨o,e⟩)
  ·have bw:k≠ag.locals:=λX=>T z k (mem_of_lookup e) X.symm;exact(a1 z k e).sameBut U bw
  ·rcases HN aR with⟨rfl,rfl⟩|⟨bw,aR⟩
   ·right;obtain rfl:=same _ _ bu rfl;refine bj v ?_ aU;refine J dv<|J (if_pos ap) ?_;simp
   ·rcases a6 j y w bu aR with e|bo
    ·exact .inl e
    ·refine a9 bo λQ e z=>?_;clear bo;refine .inr<|bj Q ?_ z;have:=a j y bu bw;split at e
     ·rename_i X;refine J (if_pos X) ?_;simp[this,e]
     ·rename_i X;refine J (if_neg X) ?_;exact e
 ·obtain⟨k,G⟩:=qa.mp x;have W:(name,k)∈ag.cells:=mem_of_lookup G;have f:k∈addrs ag:=.tail _<|eF.mpr<|bj _ W rfl;refine wpAny_storeName_cell g (by refine J (lv dv _) ?_;exact ap) G (a1 name k G) λaG aW U=>?_;have b:ag.locals≠k:=T name k W;refine C _ ⟨(eV m (λy=>if y=name then Y v else d y) (aX.sameBut U b) (λz aB e=>?_) λj y w bu aR=>?_),by refine J JM ?_;exact bL,n,λp aP=>by
   by_cases X:p.2=k
   ·obtain⟨o,e,_⟩:=aW;exact⟨o,X▸e⟩
   ·obtain⟨o,e⟩:=aY p aP;exact⟨o,(U.2 _ X).trans e⟩⟩
   (S.own U (n _ f)<|t _ f) (.own U f<|a9 aW λo e _=>⟨o,e⟩)
  ·by_cases aq:z=name
   ·clear a4 q x;subst aq;replace e:=G▸e;cases e;simpa using aW
   ·have bw:aB≠k:=λX=>aq<|name_of_addr l (mem_of_lookup e)<|X▸W;simpa[aq] using(a1 z aB e).sameBut U bw
  ·have H:¬ (ag.scope.names.lookup name=Y .local):=by refine J dv<|J ap ?_;exact λe=>by cases e
   rcases HN aR with⟨rfl,rfl⟩|⟨bw,aR⟩
   ·right;obtain rfl:=same _ _ bu rfl;refine bj v ?_ aU;refine J (if_neg H) ?_;simp
   ·rcases a6 j y w bu aR with e|bo
    ·exact .inl e
    ·refine a9 bo λQ e z=>?_;clear bo;refine .inr<|bj Q ?_ z;have:=a j y bu bw;split at e
     ·rename_i X;refine J (if_pos X) ?_;exact e
     ·rename_i X;refine J (if_neg X) ?_;simp[this,e]
theorem bO.g1 (x:bO cX I s Z aH):bO (Own ag) I s Z aH:=x.weak λ_ X=>X.elim
variable{dJ:kx->List V->aI->Prop}
theorem gr {k:kx}{f:Flow}(a:k.is f)(F:cH ag nm us Z aH.heap)(S:bz c Z aH)(x:bO (Own ag) I s Z aH)(X:dJ k us Z):iL c ag nm I s dJ f aH:=(pQ k us Z a F S x X)
theorem iL.trans (x:bO (Own ag) I s ay be):∀f aH,iL c ag nm ay be dJ f aH->iL c ag nm I s dJ f aH:= λ_ _ A=>mB A λk B Z a F S y X=>(pQ k B Z a F S (x.trans y) X)
abbrev b2 (i:Nat)(R:aP):aP:=λk ai S I=>dC S λu S=>R k (ai.set i u) S I
abbrev cq (R:aP):aP:=λk ai S I=>dC S λu S=>R k ai S I
variable{k3:eO->Env->Prop}
theorem Pm:mX c b aw nm k3 [] λR=>R:=⟨λq q q q q q q q q q q F S af=>qd<|gr (k:=.next) rfl F S .refl af⟩
variable{c7:bq}{body:List Stmt}{aL:Stmt}
theorem Pl {dk:bq}(C:j5 c l aw nm k3 aL c7)(aG:mX c l aw nm k3 body dk):mX c l aw nm k3 (aL::body) λR=>c7 (dk R):=by
 refine⟨λW ag ai I s R j E aQ bJ h F S af=>?_⟩;refine v9<|b0 (C.r W ag ai I s _ _ E aQ bJ h F S af) (λf be A=>mB A λk B ay a bC H av i=>?_) λ_ _ e=>e;cases k with
 |next=>refine J a ?_;exact b0 (aG.r W ag B ay be R j E aQ bJ h bC H i) (iL.trans av) λ_ _ e=>e
 |brk=>exact i.elim
 |cont=>exact i.elim
 |ret u=>obtain⟨v,rfl,a6⟩:=a;exact gr (k:=.ret u) (bj v rfl a6) bC H av i
variable{hW:lS}{iz:List Stmt}
theorem FE (bd:ir c l aw nm aM hW)(aA:mX c l aw nm k3 body c7)(aO:mX c l aw nm k3 iz aY):j5 c l aw nm k3 (.If aM body iz pos) λR=>hW (c7 R) (aY R):=by
 refine⟨λW ag ai I s R j E aQ bJ h F S af=>?_⟩;refine wpAny_If<|b0 (bd.r W ag ai I s _ _ _ _ E aQ h F S af) (λv be A=>d8 A λay H av aZ=>?_) λ_ _ e=>e;clear A;cases v with
 |true=>refine J (if_pos rfl) ?_;exact b0 (aA.r W ag ai ay be R j E aQ bJ h (F.cy av) H aZ) (iL.trans av.g1) λ_ _ e=>e
 |false=>refine J (if_neg<|by decide) ?_;exact b0 (aO.r W ag ai ay be R j E aQ bJ h (F.cy av) H aZ) (iL.trans av.g1) λ_ _ e=>e
theorem gh:fo c b aw nm aL λq=>fI:=⟨λq q q q q q q q q q q q q af=>af.elim⟩
theorem ha:bP c b aw nm aM λq=>fI:=⟨λq q q q q q q q q q q q q af=>af.elim⟩
theorem pk:ir c b aw nm aM λq q=>fI:=⟨λq q q q q q q q q q q q q q af=>af.elim⟩
theorem Qh (C:bP c b aw nm aM aY):fo c b aw nm (.Return (Y aM) pos) λq=>aY bC:= ⟨λW ag ai I s R j E aQ q h F S af=>wpAny_Return_some<|b0 (C.r W ag ai I s _ _ _ E aQ h F S af) (λv be A=>cS A λu ay aU H av aZ=>gr (k:=.ret u) (bj v rfl aU) (F.cy av) H av.g1 aZ) λ_ _ aM=>aM⟩
theorem Qi:fo c b aw nm (.Return am pos) λq=>uB:=⟨λq q q q q q q q q q q F S af=>wpAny_Return_none<|gr (k:=.ret .none) (bj _ rfl rfl) F S .refl af⟩
theorem Qe (C:bP c b aw nm aM aY)(U:∀ag,j3 aM am pos.line ag=pure false):fo c b aw nm (.Expr aM pos) λR=>aY (cq R):=by
 refine⟨λW ag ai I s R j E aQ q h F S af=>?_⟩;have a4:interactive ag=false:=by obtain⟨dv,an,-,-,-,-,-,-,-⟩:=h;unfold interactive;refine J dv<|J an ?_;rfl
 refine J (exec_Expr ag aM pos a4<|U ag)<|cc<|qe<|cc<|b0 (C.r W ag ai I s _ _ [] E aQ h F S af) (λv be A=>cS A λu ay aU H av aZ=>?_) λ_ _ aM=>aM;exact wpAny_dropValue<|gr (k:=.next) rfl (F.cy av) H av.g1 aZ
set_option tactic.hygienic false
variable{al:Bool->aI->Prop}
theorem m6 (S:bz c Z aH)(x:bO cX I s Z aH)(X:al cL Z):nZ c I s al cL aH:=(dj Z S x X)
theorem nZ.trans (x:bO cX I s ay be):∀v aH,nZ c ay be al v aH->nZ c I s al v aH:= λq q A=>d8 A λZ b d e=>(dj Z b (x.trans d) e)
abbrev bv (W B:aP):aP:=λk ai S I=>dC S λu S=>wJ u λt=>hF t (W k ai S I)<|B k ai S I
abbrev uy (ag:o6)(W B:aP):aP:=λk ai S I=>pG S λm l S=>ag l m (λu Z=>wJ u λt=>hF t (W k ai (m::S) Z)<|B k ai S Z) I
theorem FG (C:bP c l aw nm aM aY)(he:∀ag a,isTrue aM ag a=(do let v<-a;lP aM.pos;o2 [v]<|truthy v)):ir c l aw nm aM λW B=>aY (bv W B):=by refine⟨λW ag ai I s aF aE j T E aQ h F S af=>?_⟩;refine wpAny_isTrue_value (b0 (C.r W ag ai I s _ _ _ E aQ h F S af) (λv be A=>cS A λu ay aU H av g=>?_) λq q aM=>aM)<|he _ _;refine a9 (rN g) λb L aZ=>?_;clear g;subst L;exact J aU<|wa<|m6 H av aZ
theorem Qr (hf:fN c t (j2 bl) aj)(ap:bP c t aw nm cI Cl)(ax:bP c t aw nm aM aY)(hm:AQ bl aM=false):ir c t aw nm (.Compare cI [bl] [aM] pos) λW B=>Cl (aY<|bV aj<|bv W B):=by refine⟨λW ag ai I s aF aE j T E aQ h F S af=>?_⟩;refine wpAny_isTrue_Compare1 (b0 (two hf ap ax aQ h F S af) (λQ be z=>?_) λq q e=>e) hm;refine b0 z (λZ n z=>?_) λq q e=>e;refine b0 z (λv aP A=>cS A λu ay aU H av g=>?_) λq q e=>e;refine a9 (rN g) λb L aZ=>?_;clear g;subst L;exact J aU<|wa<|m6 H av aZ
theorem N8 (C:hF cL G X):hF (!cL) X G:=by cases cL<;>exact C
theorem Qs (C:ir c l aw nm aM hW):ir c l aw nm (.UnaryOp .Not aM pos) λW B=>hW B W:= ⟨λW ag ai I s aF aE j T E aQ h F S af=>wpAny_isTrue_Not<|b0 (C.r W ag ai I s _ _ _ _ E aQ h F S af) (λb be A=>d8 A λay H av aZ=>m6 H av<|N8 aZ) λq q aM=>aM⟩
structure n1 (c:cG)(n:Nat)(sc:cC)(nm:List Str)(bl:BoolOp)(al:List Expr)(ae:lS):Prop where
 r:∀(W:eO) (ag:Env) (ai:List V) (I:aI) (s:bZ) (aF aE:aP) (j:ja) (T:List V) (E:bt->bZ->Prop),fz W n->fy c ag sc nm->cH ag nm ai I s.heap->bz c I s->ae aF aE ⟨c,n,j⟩ ai T I->
  b7 c.M W (allTrue bl al ag) (nZ c I s (Ic ⟨c,n,j⟩ aF aE ai T)) E s
theorem PP:n1 c b aw nm .And [] λW B=>W:=⟨λq q q q q q q q q q q q q S af=>wpAny_allTrue_And_nil<|m6 S .refl af⟩
theorem PR:n1 c b aw nm .Or [] λW B=>B:=⟨λq q q q q q q q q q q q q S af=>wpAny_allTrue_Or_nil<|m6 S .refl af⟩
variable{al:List Expr}
theorem PO {lU:lS}(C:ir c l aw nm aM lU)(aG:n1 c l aw nm .And al hW):n1 c l aw nm .And (aM::al) λW B=>lU (hW W B) B:=by
 refine⟨λW ag ai I s aF aE j T E aQ h F S af=>?_⟩;refine wpAny_allTrue_And_cons<|b0 (C.r W ag ai I s _ _ _ _ E aQ h F S af) (λb be A=>d8 A λay H av aZ=>?_) λq q aM=>aM;clear A;cases b with
 |true=>refine J (if_pos rfl) ?_;exact b0 (aG.r W ag ai ay be _ _ _ _ E aQ h (F.cy av) H aZ) (nZ.trans av) λq q aM=>aM
 |false=>refine J (if_neg<|by decide) ?_;exact m6 H av aZ
theorem PQ {lU:lS}(C:ir c l aw nm aM lU)(aG:n1 c l aw nm .Or al hW):n1 c l aw nm .Or (aM::al) λW B=>lU W (hW W B):=by
 refine⟨λW ag ai I s aF aE j T E aQ h F S af=>?_⟩;refine wpAny_allTrue_Or_cons<|b0 (C.r W ag ai I s _ _ _ _ E aQ h F S af) (λb be A=>d8 A λay H av aZ=>?_) λq q aM=>aM;clear A;cases b with
 |true=>refine J (if_pos rfl) ?_;exact m6 H av aZ
 |false=>refine J (if_neg<|by decide) ?_;exact b0 (aG.r W ag ai ay be _ _ _ _ E aQ h (F.cy av) H aZ) (nZ.trans av) λq q aM=>aM
variable{mt:BoolOp}
theorem Qp (C:n1 c b aw nm mt al hW):ir c b aw nm (.BoolOp mt al pos) hW:= ⟨λW ag ai I s aF aE j T E aQ h F S af=>wpAny_isTrue_BoolOp<|C.r W ag ai I s _ _ _ _ E aQ h F S af⟩
variable{value:Expr}
theorem Qq {g:o6}{f:CmpOp}(hf:fN c i (j2 bl) g)(x:fN c i (j2 f) aj)(ap:bP c i aw nm value Cl)(hm:bP c i aw nm aM aY)(ax:bP c i aw nm cI c7)(an:lastMarks [bl,f] [aM,cI]=false):
 ir c i aw nm (.Compare value [bl,f] [aM,cI] pos) λW B=>Cl (aY<|uy g (c7<|bV aj<|bv W B) B):=by
 refine⟨λW ag ai I s aF aE j T E aQ h F S af=>?_⟩
 refine isTrue_chain (b0 (ap.r W ag ai I s _ _ _ E aQ h F S af) (λQ be A=>cS A λa ay aK H av aZ=>?_) λq q e=>e) an
 have bC:=F.cy av
 refine test_link<|b0 (hm.r W ag ai ay be _ _ _ E aQ h bC H aZ) (λZ n A=>cS A λb aN aA p a3 O=>?_) λq q e=>e
 have bg:=bC.cy a3
 refine b0 (hf W aN n _ E a b Q Z aQ p aK aA O) (λv aP A=>cS A λu M aU aJ K m=>?_) λq q e=>e
 refine a9 (rN m) λt U aV=>?_
 clear m;subst U
 refine J aU<|wa ?_
 cases t with
 |false=>refine J (if_neg<|by decide) ?_;exact m6 aJ ((av.trans a3).trans K) aV
 |true=>refine J (if_pos rfl)<|test_last<|b0 (ax.r W ag ai M aP _ _ _ E aQ h (bg.cy K) aJ aV) (λw ad A=>cS A λd bz hd aT bn bc=>?_) λq q e=>e;refine b0 (x W bz ad _ E b d Z w aQ aT aA hd bc) (λv C A=>cS A λu bN aU a5 aS o=>?_) λq q e=>e;refine a9 (rN o) λt l ao=>?_;clear o;subst l;exact J aU<|wa<|m6 a5 ((((av.trans a3).trans K).trans bn).trans aS) ao
theorem PD (bd:ir c b aw nm aM hW)(aA:bP c b aw nm value c7)(aO:bP c b aw nm cI aY):bP c b aw nm (.IfExp aM value cI pos) λR=>hW (c7 R) (aY R):=by
 refine⟨λW ag ai I s R j T E aQ h F S af=>?_⟩;refine wpAny_IfExp<|b0 (bd.r W ag ai I s _ _ _ _ E aQ h F S af) (λv be A=>d8 A λay H av aZ=>?_) λq q e=>e;clear A;cases v with
 |true=>refine J (if_pos rfl) ?_;exact b0 (aA.r W ag ai ay be _ _ _ E aQ h (F.cy av) H aZ) (dV.trans av) λq q e=>e
 |false=>refine J (if_neg<|by decide) ?_;exact b0 (aO.r W ag ai ay be _ _ _ E aQ h (F.cy av) H aZ) (dV.trans av) λq q e=>e
theorem Ps (C:bP c l aw nm aM c7)(aG:bP c l aw nm cI aY):bP c l aw nm (.BoolOp .And [aM,cI] pos) λR=>c7 (bv (aY R)<|aR (.bool false) R):=by
 refine⟨λW ag ai I s R j T E aQ h F S af=>?_⟩;refine wpAny_And2<|b0 (C.r W ag ai I s _ _ _ E aQ h F S af) (λv be A=>cS A λu ay aU H av g=>?_) λq q e=>e;refine a9 (rN g) λb L aZ=>?_;clear g;subst L;refine J aU<|wa ?_;cases b with
 |true=>refine J (if_pos rfl) ?_;exact b0 (aG.r W ag ai ay be _ _ _ E aQ h (F.cy av) H aZ) (dV.trans av) λq q e=>e
 |false=>refine J (if_neg<|by decide) ?_;exact fX H av aZ
noncomputable abbrev vF (k:KK)(P:List V->aI->Prop)(R:aP)(S:List V):KK:=⟨k.c,k.d,k.j.r,P,λai I=>R k ai S I⟩
def tA (k:KK)(B R:aP)(S:List V)(ai:List V)(I:aI):Prop:=∃(a8:Nat->List V->aI->Prop) (m:Nat),a8 m ai I/\∀m ai I,a8 m ai I->B (vF k (λai I=>∃j,j<m/\a8 j ai I) R S) ai [] I
abbrev mn (B R:aP):aP:=λk ai S I=>tA k B R S ai I
theorem Qo (bd:ir c l aw nm aM hW)(aA:FB c l aw nm body aY):fo c l aw nm (.While aM body [] pos) (mn<|hW (aY bM) jl):=by
 refine⟨λW ag ai I s R j E aQ bJ h F S af=>dT af λa8 k P a7=>?_⟩;refine wpAny_While<|codeAny_whileLoop (λk aH=>∃B Z,cH ag nm B Z aH.heap/\bz c Z aH/\bO (Own ag) I s Z aH/\a8 k B Z) ?_ k ⟨ai,I,F,S,.refl,P⟩;intro k aH bo;refine cS bo λB Z ak au D bk=>?_;clear bo;refine b0 (bd.r W ag B Z aH _ _ _ _ _ aQ h ak au<|a7 k B Z bk) (λv be A=>d8 A λay H av aZ=>?_) λq q e=>e;have bC:=ak.cy av;cases v with
 |false=>refine J (if_neg<|by decide) ?_;exact qd<|gr (k:=.next) rfl bC H (D.trans av.g1) aZ
 |true=>
  refine J (if_pos rfl)<|b0 (aA.r W ag B ay be _ _ _ aQ bJ h bC H aZ) (λf n A=>mB A λb d aN a bg p a3 g=>?_) λq q e=>e;have aF:=(D.trans av.g1).trans a3;cases b with
  |next=>refine J a ?_;obtain⟨j,bu,X⟩:=g;exact⟨j,bu,d,aN,bg,p,aF,X⟩
  |cont=>exact g.elim
  |brk=>exact g.elim
  |ret u=>obtain⟨v,rfl,a6⟩:=a;exact gr (k:=.ret u) (bj v rfl a6) bg p aF g
theorem bz.push (S:bz c I s)(o:Obj):bz c I {s with heap:=s.heap.push o}:= ⟨λb q e=>iJ _<|S.keep b q e,λb q e=>(S.rep b q e).mono λcm X=>iJ _ X,S.new,S.gens,S.os⟩
theorem bO.push {own:Addr->Prop}(o:Obj):bO own I s I {s with heap:=s.heap.push o}:= ⟨λq q q q g=>iJ _ g,λq q g=>⟨_,iJ _ g⟩,λq q q e=>e⟩
theorem md (C:Heap)(ap:C.objs.size<=a):C.get? a=am:=by
 cases e:C.get? a with
 |none=>rfl
 |some o=>exact absurd (im e)<|rC.mpr ap
theorem bz.kU (S:bz c I s):I s.heap.objs.size=am:=S.yG<|c1 _
theorem bz.alloc (S:bz c I s)(cm:Obj)(o:O)(C:lZ c (s.heap.push cm) s.heap.objs.size o):bz c (I.set s.heap.objs.size o) {s with heap:=s.heap.push cm}:=by
 refine⟨λb q e=>iJ _<|S.keep b q e,λb q e=>?_,λb q e=>?_,S.gens,S.os⟩
 ·by_cases X:b=s.heap.objs.size
  ·subst X;replace e:=(aI.set_same _ _ _)▸e;cases e;exact C
  ·replace e:=(aI.hl _ _ _ X)▸e;exact(S.rep b q e).mono λcm X=>iJ _ X
 ·by_cases X:b=s.heap.objs.size
  ·refine J X ?_;cases a7:c.base.get? s.heap.objs.size with
   |none=>rfl
   |some a=>exact absurd (im<|S.keep _ _ a7)<|nY _
  ·replace e:=(aI.hl _ _ _ X)▸e;exact S.new b q e
theorem bO.alloc {own:Addr->Prop}(cm:Obj)(o:O):bO own I s (I.set s.heap.objs.size o) {s with heap:=s.heap.push cm}:= ⟨λq q q q g=>iJ _ g,λq q g=>⟨_,iJ _ g⟩,λa q g e=>by refine J (aI.hl _ _ _<|lQ<|im g) ?_;exact e⟩
theorem bz.ext (S:bz c I s)(U:tv a s.heap aG)(aO:I a=am)(aA:c.base.get? a=am):bz c I {s with heap:=aG,toks:=t}:=by
 refine⟨λb o e=>?_,λb o e=>?_,S.new,S.gens,S.os⟩
 ·have bw:b≠a:=λX=>by replace e:=aA▸X▸e;exact bX e
  exact U b o bw<|S.keep b o e
 ·have bw:b≠a:=λX=>by replace e:=aO▸X▸e;exact bX e
  exact(S.rep b o e).mono λcm X=>U b cm bw X
theorem bO.ext (x:bO aJ I s ay be)(U:tv a be.heap aG)(aX:s.heap.get? a=am):bO aJ I s ay {be with heap:=aG,toks:=t}:=by
 refine⟨λb o au e g=>?_,λb o e=>?_,x.fresh⟩
 ·have bw:b≠a:=λX=>by replace g:=aX▸X▸g;exact bX g
  exact U b o bw<|x.ea b o au e g
 ·have bw:b≠a:=λX=>by replace e:=aX▸X▸e;exact bX e
  obtain⟨q,a7⟩:=x.live b o e;exact⟨q,U b q bw a7⟩
theorem cH.ext (F:cH ag nm ai I C)(U:tv a C aG)(aK:a∉addrs ag):cH ag nm ai I aG:=by
 obtain⟨⟨m,d,aX,a1,a6⟩,ap,aO,aq⟩:=F;refine⟨(eV m d ?_ (λz k e=>?_) a6),ap,aO,λp aP=>?_⟩
 ·refine fi aX λo al cv e r=>?_;clear aX;exact(i4 o al cv (U _ o (λX=>aK<|X▸.head _) e) r)
 ·exact a9 (a1 z k e) λo a7 r=>(bj o (U k o (λX=>aK<|X▸.tail _ (eF.mpr<|bj ((z,k)) (mem_of_lookup e) rfl)) a7) r)
 ·obtain⟨o,e⟩:=aq p aP;exact⟨o,U _ o (λX=>aK<|X▸.tail _ (eF.mpr<|bj p aP rfl)) e⟩
theorem jd (S:bz c I s)(C:s.heap.get? a=am):c.base.get? a=am:=by
 cases e:c.base.get? a with
 |none=>rfl
 |some o=>replace C:=(S.keep _ _ e)▸C;exact gB C
theorem uJ (S:bz c I s)(C:I a=Y (.list us)):∃(aj:Array bt) (k:Nat),s.heap.get? a=Y (listOf aj k)/\cj us aj.toList:=S.rep a _ C
variable{aj:Array bt}
theorem fW (e:C.get? a=Y (listOf aj b)):C.IsList a aj:=(kV _ e rfl b rfl)
def J2 (c:cG)(I:aI)(s:bZ)(ad:List V->aI->Prop):List bt->bZ->Prop:=λaj aH=>∃us Z,cj us aj/\bz c Z aH/\bO cX I s Z aH/\ad us Z
abbrev J9 (m:Nat)(k:KK)(R:aP)(ai T:List V):List V->aI->Prop:=λus Z=>us.length=m/\R k ai (us.reverse++T) Z
structure i9 (c:cG)(n:Nat)(sc:cC)(nm:List Str)(al:List Expr)(ae:bq):Prop where
 r:∀(W:eO) (ag:Env) (ai:List V) (I:aI) (s:bZ) (R:aP) (j:ja) (T:List V) (E:bt->bZ->Prop) (pos:Pos),fz W n->fy c ag sc nm->cH ag nm ai I s.heap->bz c I s->ae R ⟨c,n,j⟩ ai T I->
  b7 c.M W (spliced (mT pos (hC al ag))) (J2 c I s (J9 al.length ⟨c,n,j⟩ R ai T)) E s
theorem Fm:i9 c b aw nm [] λR=>R:=⟨λq q q q q q q q q q q q q S af=>wpAny_items_nil<|gd ([]) _ trivial S .refl ⟨rfl,af⟩⟩
theorem Fl (C:bP c b aw nm aM aY)(aG:i9 c b aw nm al c7)(he:∀ag,hC (aM::al) ag=(false,eval aM ag)::hC al ag):i9 c b aw nm (aM::al) λR=>aY (c7 R):=by refine⟨λW ag ai I s R j T E pos aQ h F S af=>?_⟩;refine wpAny_items_cons (b0 (C.r W ag ai I s _ _ _ E aQ h F S af) (λv be A=>cS A λu ay aU H av aZ=>?_) λq q aM=>aM)<|he ag;refine b0 (aG.r W ag ai ay be _ _ _ E pos aQ h (F.cy av) H aZ) (λaj n A=>gZ A λus aN bb p a3 ap O=>?_) λq q aM=>aM;exact(gd (u::us) aN ⟨aU,bb⟩ p (av.trans a3) ⟨congrArg (· +1) ap,by refine J rB<|J (en _ _ _) ?_;exact O⟩)
variable{ar:List V->List V->Prop}
theorem UM:∀{b6 N:List V},gm b6.length N (b6++us) ar=ar (b6.reverse++N) us:=by
 intro D;induction D with
 |nil=>intro o;exact rfl
 |cons w b6 B=>intro N;refine(?_:gm b6.length (w::N) (b6++us) ar=_);refine J B<|J rB<|J (en _ _ _) ?_;rfl
theorem nz {P:List V->List V->Prop}{S:List V}(ap:us.length=b)(C:gm b [] (us.reverse++S) P):P us S:=by subst ap;rw[<-qf,UM,JN,hV] at C;exact C
variable{ld:Model}
theorem t4 {f:Args->bZ->Prop}:∀{l:List (Bool×Sem bt)},l.any (·.1)=false->
 b7 ld b5 (spliced l) (λaj aH=>f ⟨aj,[]⟩ aH) E s->b7 ld b5 (evalArgs v true l []) f E s
 |[],_,C=>by unfold evalArgs;refine(?_:b7 ld b5 (spliced []>>=_) f E s);refine cc<|b0 C (λaj aH aG=>cc<|dD ?_) λq q e=>e;exact wb<|cc<|dD<|cc<|dD<|dD aG
 |(false,x)::r,_,C=>evalArgs_plain C
 |(true,x)::r,ap,C=>by simp at ap
variable{b6:List V}
theorem rU {P:Heap->Prop} (C:i9 c b aw nm al c7)(aQ:fz b5 b)(h:fy c ag aw nm)(F:cH ag nm ai I s.heap)(S:bz c I s)(af:c7 gF ⟨c,b,fD⟩ ai b6 I) (G:(mT pos<|hC al ag).any (·.1)=false) (g:∀Z aH,bz c Z aH->bO cX I s Z aH->P aH.heap) (an:∀C,P C->∃k,(k=Xi\/k=Xj\/k=Xk)/\Looks c.M C (keeperOf v) k) (a1:∀us aj Z aH,cj us aj->bz c Z aH->bO cX I s Z aH->us.length=al.length->gF ⟨c,b,fD⟩ ai (us.reverse++b6) Z->b7 c.M b5 (call v (bs++aj) []) (dV c I s ad) E aH): b7 c.M b5 (z6 pos v bs (mT pos<|hC al ag) []) (dV c I s ad) E s:= callWith_of (P:=P) (by refine J G ?_;rfl) an<|t4 G<|b0 (C.r b5 ag ai I s _ _ _ E pos aQ h F S af) (λaj be A=>gZ A λus ay bb H av ap aZ=>⟨g _ _ H av,a1 us aj ay be bb H av ap aZ⟩) λq q e=>e
theorem uY (hf:∀a,v≠.ref a):∃k,(k=Xi\/k=Xj\/k=Xk)/\Looks c.M C (keeperOf v) k:=by refine(bj .machine (.inr<|.inl rfl)<|Xl ?_);cases v<;>first|rfl|exact(hf _ rfl).elim
def Callee (c:cG)(n:Nat)(f:Addr)(args:List V)(ad:V->aI->Prop)(I:aI):Prop:=k2 c.K (.ref f)=true/\mV c n (.ref f) args ad I
abbrev cJ (R:aP):aP:=λk ai S I=>dC S λu S=>gT u λf=>k2 k.c.K (.ref f)=true/\R k ai (.ref f::S) I
abbrev eS (b:jb)(R:aP):aP:=λk ai S I=>b S λus S=>dC S λu S=>gT u λf=>mV k.c k.d (.ref f) us (λu Z=>R k ai (u::S) Z) I
abbrev dS (F:o3)(b:jb)(R:aP):aP:=λk ai S I=>b S λus S=>F us (λu Z=>R k ai (u::S) Z) I
abbrev xF (F:cG->o3)(b:jb)(R:aP):aP:=λk ai S I=>b S λus S=>F k.c us (λu Z=>R k ai (u::S) Z) I
def mF (al:List Expr):Prop:=∀(pos:Pos) (ag:Env),(mT pos<|hC al ag).any (·.1)=false
variable{dl:Pos}
theorem Pv (a1:c.Ok)(hf:bP c b aw nm (.Name w dl) aY)(aK:i9 c b aw nm al c7)(aP:mF al):bP c b aw nm (.Call (.Name w dl) al [] pos) λR=>aY (cJ<|c7<|eS (gm al.length []) R):=by refine⟨λW ag ai I s R j T E aQ h F S af=>?_⟩;refine tb<|b0 (hf.r W ag ai I s _ _ _ E aQ h F S af) (λv be A=>cS A λu ay aU H av g=>?_) λq q e=>e;obtain⟨f,L,an,aZ⟩:=f3 g;clear g;replace aU:=L▸aU;cases aU;refine b0 (rU (P:=λC=>c.K.In C) aK aQ h (F.cy av) H aZ (aP _ _) (λZ aH au q=>a1.gL.keeps au.keep) (keeps_K an) λus aj Z aH bb au D ap aG=>?_) (dV.trans av) λq q e=>e;exact b0 (nz (P:=λus S=>dC S λu S=>gT u λf=>mV c b (.ref f) us (oI ⟨c,b,j⟩ R ai S) Z) ap aG W aH (.ref f) aj E aQ au rfl bb) (dV.trans D) λq q e=>e
def m2 (us:List V)(P:V->Prop):Prop:=match us with|[a]=>P a|_=>False
def l6 (us:List V)(P:V->V->Prop):Prop:=match us with|[a,b]=>P a b|_=>False
def wH (us:List V)(P:V->V->V->Prop):Prop:=match us with|[a,b,d]=>P a b d|_=>False
def wG (us:List V)(P:V->V->Prop)(R:V->V->V->Prop):Prop:=match us with|[a,b]=>P a b|[a,b,d]=>R a b d|_=>False
variable{ar:V}
theorem xN (i:cj [ar] bs):∃x,bs=[x]/\ar.is x:=by rcases bs with _|⟨x,_|_⟩<;>first|exact(bj x rfl i.1)|exact i.elim|exact i.2.elim
theorem uF (i:cj (ar::us) bs):∃x r,bs=x::r/\ar.is x/\cj us r:=by
 cases bs with
 |nil=>exact i.elim
 |cons x r=>exact fv x r rfl i
theorem m3 {P:V->Prop}(C:m2 us P)(i:cj us bs):∃a x,us=[a]/\bs=[x]/\a.is x/\P a:=by
 rcases us with _|⟨a,_|_⟩<;>first|exact C.elim|skip
 obtain⟨x,rfl,e⟩:=xN i;exact gd a x rfl rfl e C
variable{lj:V->V->Prop}
theorem l7 (C:l6 us lj)(i:cj us bs):∃a b x y,us=[a,b]/\bs=[x,y]/\a.is x/\b.is y/\lj a b:=by
 rcases us with _|⟨a,_|⟨b,_|_⟩⟩<;>first|exact C.elim|skip
 refine bA λco aB=>?_;obtain⟨x,r,rfl,e,i⟩:=uF i;obtain⟨y,rfl,a7⟩:=xN i;exact aB<|⟨a,b,x,y,rfl,rfl,e,a7,C⟩
variable{au:V->V->V->Prop}
theorem wI (C:wH us au)(i:cj us bs):∃a b d x y z,us=[a,b,d]/\bs=[x,y,z]/\a.is x/\b.is y/\d.is z/\au a b d:=by
 rcases us with _|⟨a,_|⟨b,_|⟨d,_|_⟩⟩⟩<;>first|exact C.elim|skip
 refine bA λco aB=>?_;obtain⟨x,r,rfl,e,i⟩:=uF i;obtain⟨y,r,rfl,a7,i⟩:=uF i;obtain⟨z,rfl,o⟩:=xN i;exact aB<|⟨a,b,d,x,y,z,rfl,rfl,e,a7,o,C⟩
theorem Ed (C:wG us lj au):l6 us lj\/wH us au:=by rcases us with _|⟨a,_|⟨b,_|⟨d,_|_⟩⟩⟩<;>first|exact C.elim|exact .inl C|exact .inr C
def fZ (c:cG)(n:Nat)(f:bt)(F:List V->(V->aI->Prop)->aI->Prop):Prop:= ∀(W:eO) (I:aI) (s:bZ) (ad:V->aI->Prop) (E:bt->bZ->Prop) (us:List V) (aj:List bt),fz W n->bz c I s->cj us aj->F us ad I->b7 c.M W (call f aj []) (dV c I s ad) E s
variable{hG:bt->bZ->Prop}
theorem xt (C:bP c b aw nm aM (aR<|.ext v))(aQ:fz b5 b)(h:fy c ag aw nm)(F:cH ag nm ai I s.heap)(S:bz c I s)(X:∀be,bz c I be->bO cX I s I be->hG v be):b7 c.M b5 (eval aM ag) hG E s:= b0 (C.r b5 ag ai I s (λq q au Z=>au=[.ext v]/\Z=I) ⟨λq q=>True,λq q=>True,λq q=>True⟩ [] E aQ h F S ⟨rfl,rfl⟩) (λw be A=>gZ A λu ay aU H av L G=>by cases L;cases aU;exact X be (G▸H)<|G▸av) λq q aM=>aM
theorem Fp {F:cG->o3}(hf:bP c b aw nm (.Name w dl) (aR<|.ext v))(a6:∀a,v≠.ref a)(d:fZ c b v (F c))(aK:i9 c b aw nm al c7)(aP:mF al):bP c b aw nm (.Call (.Name w dl) al [] pos) λR=>c7 (xF F (gm al.length []) R):=by refine⟨λW ag ai I s R j T E aQ h Fr S af=>?_⟩;refine tb<|xt hf aQ h Fr S λbe H av=>?_;refine b0 (rU (P:=λq=>True) aK aQ h (Fr.cy av) H af (aP _ _) (λq q q q=>trivial) (λC q=>uY a6) λus aj Z aH bb au D ap aG=>?_) (dV.trans av) λq q e=>e;exact b0 (d W Z aH _ E us aj aQ au bb<|nz (P:=λus S=>F c us (oI ⟨c,b,j⟩ R ai S) Z) ap aG) (dV.trans D) λq q e=>e
variable{jy:o3}
theorem Pw (hf:bP c b aw nm (.Name w dl) (aR<|.ext v))(a6:∀a,v≠.ref a)(d:fZ c b v jy)(aK:i9 c b aw nm al c7)(aP:mF al):bP c b aw nm (.Call (.Name w dl) al [] pos) λR=>c7 (dS jy (gm al.length []) R):=Fp (F:=λq=>jy) hf a6 d aK aP
abbrev gj (b:jb)(R:aP):aP:=λk ai S I=>b S λus S=>us.length<=c5/\∀a D,dI I D a (.list us)->R k ai (.ref a::S) D
abbrev gX (b:jb)(R:aP):aP:=λk ai S I=>b S λus S=>us.length<=c5/\∀a D,dI I D a (.tup us)->R k ai (.ref a::S) D
theorem PF (C:i9 c b aw nm al c7):bP c b aw nm (.List al pos) λR=>c7 (gj (gm al.length []) R):=by refine⟨λW ag ai I s R j T E aQ h F S af=>?_⟩;refine wpAny_List<|b0 (C.r W ag ai I s _ _ _ E pos aQ h F S af) (λaj be A=>gZ A λus ay bb H av hm aZ=>dF (nz (P:=λus S=>us.length<=c5/\∀a D,dI ay D a (.list us)->R ⟨c,b,j⟩ ai (.ref a::S) D) hm aZ) λap aZ=>⟨bb.length▸ap,?_⟩) λq q e=>e;exact lF (H.alloc _ (.list us) ⟨aj.toArray,0,kY _ rfl,by simpa using bb⟩) (av.trans<|.alloc _ _)<|aZ _ _ ⟨H.kU,rfl⟩
theorem PJ (C:i9 c l aw nm al c7):bP c l aw nm (.Tuple al b pos) λR=>c7 (gX (gm al.length []) R):=by refine⟨λW ag ai I s R j T E aQ h F S af=>?_⟩;refine wpAny_Tuple<|b0 (C.r W ag ai I s _ _ _ E pos aQ h F S af) (λaj be A=>gZ A λus ay bb H av hm aZ=>dF (nz (P:=λus S=>us.length<=c5/\∀a D,dI ay D a (.tup us)->R ⟨c,l,j⟩ ai (.ref a::S) D) hm aZ) λap aZ=>⟨bb.length▸ap,?_⟩) λq q e=>e;exact lF (H.alloc _ (.tup us) ⟨aj.toArray,0,kY _ rfl,by simpa using bb⟩) (av.trans<|.alloc _ _)<|aZ _ _ ⟨H.kU,rfl⟩
inductive k8:List V->Int->Nat->Int->Prop
 |one (b:Int):k8 [.int b] 0 b.toNat 1
 |two (a b:Int):k8 [.int a,.int b] a (b -a).toNat 1
 |down (a b:Int):k8 [.int a,.int b,.int (-1)] a (a -b).toNat (-1)
def mc (us:List V):Prop:=∀u∈us,∃i,u=.int i/\ -(2^62)<=i/\i<2^62
variable{st:Int}
theorem Vg (aQ:fz b5 l)(S:bz c I s)(bb:cj us bs)(hf:mc us)(ax:k8 us pt cnt st)
 (C:∀(it:Addr) (aH:bZ),s.heap.get? it=am->IsRangeIter aH.heap it pt cnt st->bz c I aH->bO cX I s I aH->hG (.ref it) aH):
 b7 c.M b5 (call (.type "range") bs []) (λx be=>b7 c.M b5 (pyIter x) hG E be) E s:=by
 have fin:∀(be:bZ) (r:Addr) (pt b st:Int) (t u v:Tok),IsRange be.heap r pt b st t u v->Builtin.Range.small pt b st=true->Builtin.Range.rangeSize pt b st=(cnt:Int)->bz c I be->bO cX I s I be->
  (∀(it:Addr) (aH:bZ),s.heap.get? it=am->IsRangeIter aH.heap it pt cnt st->bz c I aH->bO cX I s I aH->hG (.ref it) aH)->b7 c.M b5 (pyIter<|.ref r) hG E be:=by
  intro be r pt b st t u v ax h ar H av C
  refine wpAny_pyIter_range ax h<|C _ _ ?_ (by refine J ar ?_;exact kY _ rfl) (H.push _)<|av.trans<|.push _
  cases e:s.heap.get? be.heap.objs.size with
  |none=>rfl
  |some o=>obtain⟨q,a7⟩:=av.live _ _ e;exact absurd (im a7)<|nY _
 have f0:∀{i:Int} {us:List V},mc (.int i::us)->(-(2^62)<=i/\i<2^62)/\mc us:=λhf=>⟨by obtain⟨i,a4,C⟩:=hf _<|.head _;cases a4;exact C,λu aU=>hf u<|.tail _ aU⟩
 have d7:∀{u:V} {us:List V} {bs:List bt},cj (u::us) bs->∃v ab,bs=v::ab/\u.is v/\cj us ab:=λ{u us bs} C=>by
  cases bs with
  |nil=>exact C.elim
  |cons v bs=>exact fv v bs rfl C
 have f:∀{bs:List bt},cj [] bs->bs=[]:=λ{bs} C=>by
  cases bs with
  |nil=>rfl
  |cons v bs=>exact C.elim
 cases ax with
 |one b=>obtain⟨Z,aW,rfl,⟨a,rfl⟩,cz⟩:=d7 bb;cases f cz;have ak:=(f0 hf).1;refine call_range_1<|fin _ _ 0 b 1 _ _ _ (IZ ..) (small_one (by decide) (by decide) ak.1 ak.2) ?_ ((S.push _).tok _) (.trans (.push _)<|.tok _) C;refine J (rangeSize_nat _ _) ?_;simp
 |two aG b=>obtain⟨Q,aW,rfl,⟨g,rfl⟩,cz⟩:=d7 bb;obtain⟨Z,p,rfl,⟨a,rfl⟩,cM⟩:=d7 cz;cases f cM;obtain⟨ak,hf⟩:=f0 hf;obtain⟨ao,-⟩:=f0 hf;exact call_range_2<|fin _ _ _ b 1 _ _ _ (IZ ..) (small_one ak.1 ak.2 ao.1 ao.2) (rangeSize_nat _ _) ((S.push _).tok _) (.trans (.push _)<|.tok _) C
 |down aG b=>obtain⟨Q,aW,rfl,⟨g,rfl⟩,cz⟩:=d7 bb;obtain⟨Z,p,rfl,⟨a,rfl⟩,cM⟩:=d7 cz;obtain⟨w,K,rfl,⟨j,rfl⟩,dh⟩:=d7 cM;cases f dh;obtain⟨ak,hf⟩:=f0 hf;obtain⟨ao,-⟩:=f0 hf;exact call_range_3 (by decide) (fin _ _ _ b (-1) _ _ _ (IZ ..) (small_down ak.1 ak.2 ao.1 ao.2) (rangeSize_downNat _ _) ((S.push _).tok _) (.trans (.push _)<|.tok _) C)<|.inl<|PyProof.noPylong_small (by obtain⟨pt,b⟩:=ak;obtain⟨d,e⟩:=ao;clear fin C f0 d7 f;lia)
theorem Xf:∀{ns:List Str} {aj:List bt},ns.length=aj.length->w∈ns->((ns.zip aj).lookup w).isSome=true:=by
 intro D;induction D with
 |nil=>intro o K C;cases C
 |cons a ns B=>
  intro f;cases f with
  |nil=>intro C K;cases C
  |cons v aj=>
   intro ap C;refine J oR<|J g4 ?_;by_cases X:(w==a)=true
   ·refine J X ?_;rfl
   ·have:(w==a)=false:=by simpa using X
    refine J this ?_;rcases fF.mp C with e|C
    ·clear this;subst e;simp at X
    ·exact B (by simpa using ap) C
theorem Xd:∀{ns:List Str} {aj:List bt} (pre:List (Str×bt)),ns.length=aj.length->ns.Nodup->(∀x∈ns,pre.lookup x=am)-> ns.filterMap (λx=>((pre++ns.zip aj).lookup x).map (x, ·))=ns.zip aj:=by
 intro D;induction D with
 |nil=>intro o K c d e;simp
 |cons a ns B=>
  intro f;cases f with
  |nil=>intro o C c d;cases C
  |cons v aj=>
   intro pre ap aX aP;replace aX:=(propext pU)▸aX;have ak:(pre++(a::ns).zip (v::aj)).lookup a=Y v:=by refine J I0<|J (aP a<|.head _)<|J oR<|J List.lookup_cons_self ?_;rfl
   refine J pV<|J ak<|J oR ?_;dsimp only[vM];have ao:pre++(a,v)::ns.zip aj=(pre++[(a,v)])++ns.zip aj:=by simp
   rw[ao,B (pre++[(a,v)]) (by simpa using ap) aX.2 (λx aL=>by
    refine J I0<|J (aP x<|.tail _ aL) ?_;have:(x==a)=false:=by apply beq_eq_false_iff_ne.mpr;rintro rfl;exact aX.1 aL
    refine J Xm<|J g4<|J this ?_;rfl)]
variable{fm:Type}
theorem KN {f:av->fm->Sem (ForInStep fm)}{g:fm->av->fm}(C:∀a b,f a b=pure (.yield<|g b a)):∀(l:List av) (b:fm),(forIn l b f:Sem fm)=pure (l.foldl g b):=by
 intro D;induction D with
 |nil=>intro b;refine J Xn ?_;rfl
 |cons a l B=>intro b;refine J (Xo _ _ _ _)<|J (C _ _)<|J vN<|bm (B _) ?_;rfl
theorem z5 (l:List av):∀m:List fm,(l.take m.length).zip m=l.zip m:=by
 induction l with
 |nil=>intro m;cases m<;>rfl
 |cons a l B=>intro m;cases m with
  |nil=>rfl
  |cons b m=>exact congrArg ((a,b):: ·)<|B m
theorem GU:∀{l:List av} {m:List fm},(∃y,(aB,y)∈l.zip m)->aB∈l:=by
 intro D;induction D with
 |nil=>intro o c;obtain⟨_,C⟩:=c;simp at C
 |cons a l B=>
  intro f;cases f with
  |nil=>intro g;obtain⟨_,C⟩:=g;simp at C
  |cons b m=>
   intro g;obtain⟨y,C⟩:=g;replace C:=oR▸C;rcases fF.mp C with e|C
   ·cases e;exact .head _
   ·exact .tail _<|B ⟨y,C⟩
theorem SC:∀{ns:List Str} {aj:List bt},¬ (∃y,(w,y)∈ns.zip aj)->(ns.zip aj).lookup w=am:=by
 intro D;induction D with
 |nil=>intro o K;simp
 |cons a ns B=>
  intro f;cases f with
  |nil=>intro o;simp
  |cons v aj=>
   intro C;refine J oR<|J g4 ?_;have:(w==a)=false:=by apply beq_eq_false_iff_ne.mpr;rintro rfl;exact C ⟨v,.head _⟩
   exact J this<|B λA=>dr A λy X=>C ⟨y,.tail _ X⟩
theorem Xe:∀{ns:List Str} {aj:List bt} (pre:List (Str×bt)),ns.length=aj.length->ns.Nodup->(∀x∈ns,pre.lookup x=am)-> (ns.zip aj).foldl (λb a=>if(b.lookup a.1).isNone=true then b++[(a.1,a.2)] else b) pre=pre++ns.zip aj:=by
 intro D;induction D with
 |nil=>intro o K c d e;simp
 |cons a ns B=>
  intro f;cases f with
  |nil=>intro o C c d;cases C
  |cons v aj=>
   intro pre ap aX aP;replace aX:=(propext pU)▸aX;rw[oR,vN,if_pos<|by refine J (aP a<|.head _) ?_;rfl,B (pre++[(a,v)]) (by simpa using ap) aX.2 (λx aL=>by
    refine J I0<|J (aP x<|.tail _ aL) ?_;have:(x==a)=false:=by apply beq_eq_false_iff_ne.mpr;rintro rfl;exact aX.1 aL
    refine J Xm<|J g4<|J this ?_;rfl)]
   simp
variable{names:List Str}{cR:List bt}
theorem KO {j:FuncData}{as:List Arg}(aP:j.params=⟨[],as,am,[],[],am,al⟩)(aX:as.map (·.arg)=names)(hd:names.Nodup)(ap:bs.length+cR.length=names.length) (d:∀(M:Model) (W:eO) (E:bt->bZ->Prop) (ad:Option (Array bt)->bZ->Prop),(∀r,(r.getD #[]).toList=cR->ad r s)->b7 M W (seqItems? j.defaults) ad E s): BindsTo s j ⟨bs,[]⟩ (names.zip<|bs++cR):=by
 intro M W E ad af;have ak:names.length -cR.length=bs.length:=by exact cn (.eq aa ab) [.eq (.a ab ah) az,.sub aa az ah] ap rfl
 have aq:((names.take<|names.length -cR.length).filter λn=>((names.zip bs).lookup n).isNone)=[]:=by
  refine J ak ?_;refine mJ List.filter_eq_nil_iff ?_;intro x aL;have m:((names.zip bs).lookup x).isSome=true:=by have:(((names.take bs.length).zip bs).lookup x).isSome=true:=Xf (by simp;exact cn (.eq aa ab) [.eq (.a ab ah) az,.cN aa ab az] ap rfl) aL;rwa[z5] at this
  cases e:(names.zip bs).lookup x with
  |none=>replace m:=e▸m;exact kc m
  |some v=>simp
 have c:(names.drop bs.length).length=cR.length:=by simp;exact cn (.eq aa ab) [.eq (.a ah ab) az,.sub aa az ah] ap rfl
 have hf:=Xe (names.zip bs) c (hd.sublist<|List.drop_sublist _ _) (λx aL=>SC λX=>by have e:names=names.take bs.length++names.drop bs.length:=(ho ..).symm;replace X:=(dp<|z5 _ _)▸X;replace hd:=e▸hd;exact(Xp.mp hd).2.2 _ (GU X) _ aL rfl);have P:names.zip bs++(names.drop bs.length).zip cR=names.zip (bs++cR):=by
  have e:names=names.take bs.length++names.drop bs.length:=(ho ..).symm;conv=>rhs;rw[e]
  exact J (List.zip_append<|by simp;exact cn (.eq aa ab) [.eq (.a ab ah) az,.cN aa ab az] ap rfl)<|J (z5 _ _) rfl
 have aA:=Xd (ns:=names) (aj:=bs++cR) [] (by simp;exact ch (.eq aa<|.a ab ah) [.eq (.a ab ah) aa] ap) hd λq q=>rfl;unfold bindArgs;refine J aP ?_;refine cc<|dD ?_;refine cc<|d _ _ _ _ λr ax=>?_;refine J ax ?_;have V:([]:List Arg).map (·.arg)++as.map (·.arg)=names:=aX;refine J V ?_;refine wpAny_ite_false (by simp;exact ch (.le aa ab) [.eq (.a aa ah) ab] ap) ?_;have h0:cR.drop (cR.length -names.length)=cR:=by refine J (by exact cn (.eq aa b1) [.eq (.a ab ah) az,.sub aa ah az] ap rfl:cR.length -names.length=0) ?_;rfl
 dsimp only;refine J h0<|J aq<|wpAny_ite_false rfl ?_;refine J ak ?_;refine cc ?_;refine J (KN (g:=λb a=>if(b.lookup a.1).isNone=true then b++[(a.1,a.2)] else b) (λa b=>by split<;>rfl) _ _) ?_;refine dD ?_;refine J hf<|J P<|cc<|dD ?_;refine wpAny_ite_false rfl ?_;refine dD ?_;refine J (hV names)<|J aA ?_;exact af
variable{au:Str->Option nJ}
theorem KM:∀{aj:List bt} {m:Str->Option bt},name∉nm->bindL au (nm.zip aj) m name=m name:=by
 induction nm with
 |nil=>intro aj m q;rfl
 |cons b nm B=>intro aj m aA;cases aj with
  |nil=>rfl
  |cons w aj=>
   refine J oR ?_;unfold bindL;refine J (B λX=>aA<|.tail _ X) ?_;split
   ·exact if_neg λ(X:name=b)=>aA (by refine J X ?_;exact .head _)
   ·rfl
theorem KJ:∀{aj:List bt} {m:Str->Option bt},name∉nm->bindC au (nm.zip aj) m name=m name:=by
 induction nm with
 |nil=>intro aj m q;rfl
 |cons b nm B=>intro aj m aA;cases aj with
  |nil=>rfl
  |cons w aj=>
   refine J oR ?_;unfold bindC;refine J (B λX=>aA<|.tail _ X) ?_;split
   ·rfl
   ·exact if_neg λ(X:name=b)=>aA (by refine J X ?_;exact .head _)
theorem KL {k:Str->Option nJ}:∀{aj:List bt} {m d:Str->Option bt} {i:Nat},nm.Nodup->nm[i]?=Y name->aj[i]?=Y v->
 (if k name=Y .local then bindL k (nm.zip aj) m name else bindC k (nm.zip aj) d name)=Y v:=by
 induction nm with
 |nil=>intro aj m d i _ C;exact bX C
 |cons a nm B=>intro aj m d i aX aL a6;cases aj with
  |nil=>exact bX a6
  |cons w aj=>
   replace aX:=pU.mp aX;refine J oR ?_;unfold bindL bindC;cases i with
   |succ i=>exact B aX.2 aL a6
   |zero=>
    cases aL;cases a6;split
    ·refine J (KM aX.1) ?_;simp
    ·refine J (KJ aX.1) ?_;simp
theorem EG:∀(names:List (Str×nJ)) (n:Nat) (N:List (Str×Addr)),(names.lookup w=Y .cell\/(N.lookup w).isSome=true)->((ri n names N).lookup w).isSome=true:=by
 intro D;induction D with
 |nil=>
  intro n N C;rcases C with C|C
  ·simp at C
  ·exact C
 |cons c r B=>
  intro n N C;obtain⟨a,k⟩:=c;unfold ri;rw[g4] at C;split
  ·rename_i an;refine B _ _<|J g4 ?_;cases e:w==a with
   |true=>right;rfl
   |false=>rw[e] at C;exact C
  ·rename_i an;refine B _ _ ?_;cases e:w==a with
   |true=>
    rw[e] at C;rcases C with C|C
    ·cases C;exact(an rfl).elim
    ·exact .inr C
   |false=>rw[e] at C;exact C
theorem NN:∀(names:List (Str×nJ)) (n:Nat) (N:List (Str×Addr)),((names.map (·.1))++N.map (·.1)).Nodup->((ri n names N).map (·.1)).Nodup:=by
 intro D;induction D with
 |nil=>intro n N C;simpa[ri] using C
 |cons c r B=>
  intro n N C;obtain⟨a,k⟩:=c;unfold ri;split
  ·refine B _ _ ?_;rw[hQ] at C⊢;exact(Xq.nodup_iff).mpr C
  ·refine B _ _ ?_;rw[hQ,I1,pU] at C;exact C.2
theorem GK:∀{l:List (Str×Addr)},(l.map (·.1)).Nodup->(w,a)∈l->l.lookup w=Y a:=by
 intro D;induction D with
 |nil=>intro o C;cases C
 |cons c l B=>
  intro aX C;obtain⟨x,y⟩:=c;rw[hQ,pU] at aX;refine J g4 ?_;rcases fF.mp C with e|C
  ·cases e;simp
  ·have:(w==x)=false:=by apply beq_eq_false_iff_ne.mpr;intro X;exact aX.1 (eF.mpr<|bj ((w,a)) C X)
   exact J this<|B aX.2 C
def AU (K:Frag)(d:bt)(cR:List bt):Prop:=(d=.none/\cR=[])\/∃T y a0 n,d=.ref T/\K.lookup T=Y y/\y.data=.seq a0 n/\a0.toList=cR
structure kz (c:cG)(f:Addr)(names:List Str)(cR:List bt)(body:List Stmt)(sc:cC):Prop where
 keep:k2 c.K (.ref f)=true
 ex:∃o j,c.K.lookup f=Y o/\o.data=.func j/\j.body=.stmts body/\j.scope=sc/\j.closure=[]/\j.globals=iI/\j.builtins=nX/\codeIn c.K j.code j.qualname=true/\
  (∃as N,j.params=⟨[],as,am,[],[],am,N⟩/\as.map (·.arg)=names)/\AU c.K j.defaults cR
structure m1 (sc:cC)(names nm:List Str):Prop where
 kind:sc.kind=.function
 co:sc.isCoroutine=false
 gen:sc.isGenerator=false
 keys:(sc.names.map (·.1)).Nodup
 nodup:nm.Nodup
 pre:names<+:nm
 kinds:∀x∈nm,sc.names.lookup x=Y .local\/sc.names.lookup x=Y .cell
noncomputable abbrev d5 (c:cG)(n:Nat)(ad:V->aI->Prop):KK:=⟨c,n,ad,λq I=>ad .none I,λq q=>False⟩
def bk (c:cG)(n:Nat)(f:V)(args:List V)(ad:V->aI->Prop)(I:aI):AY ad:= ∀(W:eO) (s:bZ) (ee:bt) (aj:List bt) (R:Result->bZ->Prop),fz W n->bz c I s->f.is ee->cj args aj->(∀v aH,dV c I s ad v aH->R (.ok<|.ret v) aH)->jX c.M W (.call ee ⟨aj,[]⟩) R s
theorem bk.WD (C:bk c b ar us ad I):mV c b ar us ad I:= λW s ee aj q aQ S hf aK=>wpAny_call<|C W s ee aj _ aQ S hf aK λq q X=>X
variable{ee:bt}{R:Result->bZ->Prop}
theorem tS {n:Nat}{g8:List V}(a1:c.Ok)(hf:kz c ae names cR body aw)(U:m1 aw names nm) (P:cj g8 cR)(ap:us.length+g8.length=names.length)(aQ:fz b5 (n+1))(S:bz c I s)(O:(V.ref ae).is ee)(bb:cj us bs) (C:∀ag aZ cr,fy c ag aw nm->cH ag nm (us++g8++eb (nm.length -names.length) .aD) I aZ->bz c I {s with heap:=aZ,toks:=cr}->ag.frame=Y ag.locals->(∀a∈addrs ag,s.heap.get? a=am)->(∀b o,s.heap.get? b=Y o->aZ.get? b=Y o)->fz (b5.deeper ag) n-> jX c.M b5 (.func body ag) R {s with heap:=aZ,toks:=cr}):jX c.M b5 (.call ee ⟨bs,[]⟩) R s:=by
 refine J O<|bA λco aB=>?_;obtain⟨an,o,j,aO,aT,ax,dv,ay,al,A,aE,⟨as,N,aP,aX⟩,aH⟩:=hf;obtain⟨ao,aA,aN,aR,B,W,D⟩:=U;have af:c.K.In s.heap:=a1.gL.keeps S.keep;have aS:bs.length+cR.length=names.length:=by refine bm bb.length<|bm P.length ?_;exact ap
 have G:names.Nodup:=B.sublist W.sublist;obtain⟨av,aG,aV⟩:=aQ;refine aB<|codeAny_call_function (ch (.lt aa ab) [.le (.a (.a aa<|.m 2<|.a ah aC)<|.k 4) ab] av) (af _ _ aO) aT (by refine J dv ?_;exact aA) (by refine J dv ?_;exact aN) ax (codeRec_of af aE) ?_;refine KO aP aX G aS (λM b5 E ad C=>?_) _ _ _ _ ?_
 ·rcases aH with⟨e,a7⟩|bo
  ·refine J e ?_;exact dD<|C am a7.symm
  ·refine sS bo λT y a0 k e bD ar a4=>?_;clear bo;refine J e ?_;exact wpAny_seqItems (af _ _ bD) ar<|C (Y a0) a4
 have ai:∀x∈names,aw.names.lookup x=Y .local\/aw.names.lookup x=Y .cell:=λx aL=>D x<|W.subset aL;refine J dv<|J ay<|wpAny_newFunctionEnv_cells ao (λx aL=>?_) λag he be aF=>?_
 ·rcases ai x.1 (GU ⟨x.2,aL⟩) with C|C
  ·exact .inl C
  ·exact .inr ⟨C,EG _ _ _<|.inl C⟩
 have aj:ag.cells=ri (s.heap.objs.size+1) aw.names []:=by refine J he ?_;rfl
 have g:ag.scope=aw:=by refine J he ?_;rfl
 have aM:ag.globals=iI:=by refine J he<|bm al ?_;rfl
 have aJ:ag.builtins=nX:=by refine J he<|bm A ?_;rfl
 refine bA λco aB=>?_;obtain⟨⟨Z,l,L,ak⟩,Q,au,f⟩:=aF;refine fc Z λaZ cr bh=>?_;clear Z;subst bh;refine aB ?_;have w:∀a∈addrs ag,s.heap.objs.size<=a:=λa aK=>by
  rcases fF.mp aK with rfl|aK
  ·exact ak
  ·refine a9 (eF.mp aK) λp aP bh=>?_;refine bm bh ?_;exact hp<|jY ak<|f p.1 p.2 aP
 have a3:∀a∈addrs ag,s.heap.get? a=am:=λa aK=>md _<|w a aK;have h:fy c ag aw nm:=⟨g,ao,λx aL=>(D x aL).imp_right λC=>⟨C,by refine J aj ?_;exact EG _ _ _<|.inl C⟩,B,au,λz k aq X=>nY _<|X▸f z k aq,aM,aJ,λa aK=>jd S<|a3 a aK⟩;have bp:(ri (s.heap.objs.size+1) aw.names []).map (·.1)|>.Nodup:=NN _ _ _ (by simpa using aR);have H:bz c I {s with heap:=aZ,toks:=cr}:=⟨λb o e=>L b o<|S.keep b o e,λb o e=>(S.rep b o e).mono λcm X=>L b cm X,S.new,S.gens,S.os⟩;have F:cH ag nm (us++g8++eb (nm.length -names.length) .aD) I aZ:=by
  refine⟨(eV _ _ l (λz k e=>Q z k e) λi x u a4 aU=>?_),?_,λa aK=>S.yG<|w a aK,λp aP=>?_⟩
  ·by_cases d:i<names.length
   ·rw[z9<|by refine J bK ?_;exact cn (.lt aa<|.a ab ah) [.eq (.a ab ah) az,.lt aa az] ap d] at aU;refine a9 ((bb.append P).get aU) λv a6 aI=>.inr<|bj v ?_ aI;have qF:names[i]?=Y x:=by obtain⟨t,rfl⟩:=W;rwa[z9 d] at a4
    exact KL (k:=ag.kindOf) G qF a6
   ·rw[vO<|by refine J bK ?_;exact cn (.le (.a aa ab) ah) [.eq (.a aa ab) az,.es ah az] ap d] at aU;rw[List.getElem?_replicate] at aU;split at aU
    ·exact .inl (Y.inj aU).symm
    ·exact bX aU
  ·have:=W.length_le;simp only[bK,nK];exact de (.eq (.a (.a aa ab) ah) az) [.eq (.a aa ab) a8,.le a8 az,.sub ah az a8] ap this rfl
  ·have:=GK (by refine J aj ?_;exact bp) (aP:(p.1,p.2)∈ag.cells);exact a9 (Q _ _ this) λo e q=>⟨o,e⟩
 exact⟨a1.lim.keeps λb o e=>L b o<|S.keep b o e,C ag aZ cr h F H (by refine J he ?_;rfl) a3 L ⟨by refine(?_:b5.depth+1+2*n+4<=_);exact ch (.le (.a (.a (.a aa aC)<|.m 2 ab)<|.k 4) ah) [.le (.a (.a aa<|.m 2<|.a ab aC)<|.k 4) ah] av,by refine(?_:b5.units+3+20*n+100<=_);exact ch (.le (.a (.a (.a aa<|.k 3)<|.m 20 ab)<|.k 100) ah) [.le (.a (.a aa<|.m 20<|.a ab aC)<|.k 100) ah] aG,aV⟩⟩
theorem Pn (a1:c.Ok)(hf:kz c ae names cR body aw)(U:m1 aw names nm)(aA:FB c n aw nm body aY)(P:cj ai cR)(ap:us.length+ai.length=names.length)
 (C:aY bM (d5 c n ad) (us++ai++eb (nm.length -names.length) .aD) [] I):bk c (n+1) (.ref ae) us ad I:=by
 intro W s ee aj R aQ S O bb cd
 refine tS a1 hf U P ap aQ S O bb λag aZ cr h F H q a3 L T=>codeAny_func<|b0 (aA.r (W.deeper ag) ag _ I _ _ _ _ T trivial h F H C) (λhz aH A=>mB A λk B Z an ak au D X=>?_) λq q e=>e
 have K:bO cX I s Z aH:=by refine⟨λa o q e g=>D.ea a o (λX=>?_) e<|L a o g,λa o e=>D.live a o<|L a o e,λa o g e=>D.fresh a o (L a o g) e⟩;rw[a3 a X] at g;exact bX g
 cases k with
 |next=>refine J an ?_;exact cd _ _<|s6 au K X
 |brk=>exact X.elim
 |cont=>exact X.elim
 |ret u=>obtain⟨v,rfl,a6⟩:=an;exact cd _ _<|jp a6 au K X
set_option tactic.hygienic true
theorem bz.upd {aE q:O}(S:bz c I s)(U:qc a s.heap aG)(aO:I a=Y aE)(C:lZ c aG a q):bz c (I.set a q) {s with heap:=aG,toks:=t}:=by
 refine⟨λb x e=>?_,λb x e=>?_,λb x e=>?_,S.gens,S.os⟩
 ·have bw:b≠a:=λX=>by replace e:=(S.new a aE aO)▸X▸e;exact bX e
  exact(U.2 b bw).trans<|S.keep b x e
 ·by_cases X:b=a
  ·subst X;replace e:=(aI.set_same _ _ _)▸e;cases e;exact C
  ·replace e:=(aI.hl _ _ _ X)▸e;exact(S.rep b x e).mono λcm z=>(U.2 b X).trans z
 ·by_cases X:b=a
  ·clear U C;subst X;exact S.new b aE aO
  ·replace e:=(aI.hl _ _ _ X)▸e;exact S.new b x e
theorem bO.upd {aE q:O}(U:qc a s.heap aG)(aO:I a=Y aE)(ap:∃cm,aG.get? a=Y cm):bO aJ I s (I.set a q) {s with heap:=aG,toks:=t}:=by
 refine⟨λb x q e g=>(U.2 b λX=>by replace e:=aO▸X▸e;exact gB e).trans g,λb x e=>?_,λb x e z=>?_⟩
 ·by_cases X:b=a
  ·refine J X ?_;exact ap
  ·exact⟨x,(U.2 b X).trans e⟩
 ·have X:b≠a:=λX=>by rw[X,aO] at z;exact gB z
  refine J (aI.hl _ _ _ X) ?_;exact z
variable{aO:List lO}
theorem FO {eq:lO}(an:eq.key=.str name kd):getL w (eq::aO)=if name==w then Y (Y eq.val) else getL w aO:=by
 have lh:eq.key.isStr w=(name==w):=by refine J an ?_;rfl
 have aX:eq.refKey=false:=by obtain⟨_,_,_⟩:=eq;cases an;rfl
 unfold getL;refine J Aa<|J lh<|J oS<|J aX<|J (Bool.false_or _) ?_;cases name==w<;>rfl
theorem En:∀{al:List (Str×V)} {aO:List lO},k4 al aO->al.lookup w=Y u->∃v,getL w aO=Y (Y v)/\u.is v:=by
 intro D;induction D with
 |nil=>intro o K C;exact bX C
 |cons p al B=>
  intro f;cases f with
  |nil=>intro C K;exact C.elim
  |cons e aO=>
   intro g C;obtain⟨⟨t,an⟩,a6,ax⟩:=g;rw[g4] at C;refine J (FO an) ?_;by_cases X:w=p.1
   ·subst X;simp at C;exact bm C<|(bj e.val (by simp) a6)
   ·have P:(w==p.1)=false:=by simpa using X
    have ai:(p.1==w)=false:=by simpa using λe=>X e.symm
    rw[P] at C;exact J ai<|B ax C
theorem Eo:∀{al:List (Str×V)} {aO:List lO},k4 al aO->al.lookup w=am->getL w aO=Y am:=by
 intro D;induction D with
 |nil=>
  intro f;cases f with
  |nil=>intro o K;exact rfl
  |cons h j=>intro C K;exact C.elim
 |cons p al B=>
  intro f;cases f with
  |nil=>intro C K;exact C.elim
  |cons e aO=>
   intro g C;obtain⟨⟨t,an⟩,a6,ax⟩:=g;rw[g4] at C;refine J (FO an) ?_;by_cases X:w=p.1
   ·subst X;simp at C
   ·have P:(w==p.1)=false:=by simpa using X
    have ai:(p.1==w)=false:=by simpa using λe=>X e.symm
    rw[P] at C;exact J ai<|B ax C
theorem QD {x:Str}:∀{al:List (Str×V)} {aO:List lO},k4 al aO->(getL x aO).isSome=true:=λ{al aO} C=>by
 cases X:al.lookup x with
 |none=>refine J (Eo C X) ?_;rfl
 |some u=>obtain⟨v,e,_⟩:=En C X;refine J e ?_;rfl
theorem k4.length:∀{al:List (Str×V)} {aO:List lO},k4 al aO->aO.length=al.length:=by
 intro D;induction D with
 |nil=>
  intro f;cases f with
  |nil=>intro o;exact rfl
  |cons h j=>intro C;exact C.elim
 |cons e i B=>
  intro f;cases f with
  |nil=>intro C;exact C.elim
  |cons h j=>intro C;exact J fe<|J fe<|J (B C.2.2) rfl
noncomputable def bJ (x:Str)(u:V):List (Str×V)->List (Str×V)
 |[]=>[(x,u)]
 |p::r=>if p.1==x then(p.1,u)::r else p::bJ x u r
theorem Vc (x:Str)(u:V):∀al,(bJ x u al).length<=al.length+1:=by
 intro D;induction D with
 |nil=>exact c1 _
 |cons p r B=>
  by_cases C:(p.1==x)=true
  ·have e:bJ x u (p::r)=(p.1,u)::r:=if_pos C;refine J e ?_;exact g5 _
  ·have e:bJ x u (p::r)=p::bJ x u r:=if_neg C;refine J e ?_;exact hR B
theorem k4.bJ {x:Str}{q:Int}{t:Tok}(aU:u.is v):∀{al:List (Str×V)} {aO:List lO},k4 al aO->k4 (bJ x u al) (putL x q (.str x t) v aO):=by
 intro D;induction D with
 |nil=>
  intro f;cases f with
  |nil=>intro o;exact⟨⟨t,rfl⟩,aU,trivial⟩
  |cons h j=>intro C;exact C.elim
 |cons p al B=>
  intro f;cases f with
  |nil=>intro C;exact C.elim
  |cons e aO=>
   intro g;obtain⟨⟨F,an⟩,a6,ax⟩:=g;have lh:e.key.isStr x=(p.1==x):=by refine J an ?_;rfl
   unfold Mine.bJ putL;refine J lh ?_;split
   ·exact⟨⟨F,an⟩,aU,ax⟩
   ·exact⟨⟨F,an⟩,a6,B ax⟩
theorem Vb {P:Str->Prop}:∀{al:List (Str×V)},P w->(∀y∈al,P y.1)->∀y∈bJ w u al,P y.1:=by
 intro D;induction D with
 |nil=>intro aL K y L;cases gD.mp L;exact aL
 |cons p r B=>
  intro aL C y L;by_cases aA:(p.1==w)=true
  ·have e:bJ w u (p::r)=(p.1,u)::r:=if_pos aA;replace L:=e▸L;rcases fF.mp L with rfl|L
   ·exact C p<|.head _
   ·exact C y<|.tail _ L
  ·have e:bJ w u (p::r)=p::bJ w u r:=if_neg aA;replace L:=e▸L;rcases fF.mp L with rfl|L
   ·exact C _<|.head _
   ·exact B aL (λy L=>C y<|.tail _ L) y L
theorem S8:∀{al:List (Str×V)},al.lookup w=Y u->(w,u)∈al:=by
 intro D;induction D with
 |nil=>intro C;exact bX C
 |cons p r B=>
  intro C;rw[g4] at C;split at C
  ·rename_i X;have:=beq_iff_eq.mp X;cases C;refine J this ?_;exact .head _
  ·exact .tail _<|B C
def V.plain:V->Prop
 |.ext _|.aD=>False
 |_=>True
theorem FS (C:u.is v)(p:u.plain):handedIn v=true:=by cases u<;>first|exact p.elim|(cases C;rfl)|(obtain⟨t,rfl⟩:=C;rfl)
def cY (u:V)(P:Prop):Prop:=match u with|.aD=>False|.ext _=>False|.none=>P|.bool _=>P|.int _=>P|.str _=>P|.ref _=>P
theorem yX (C:cY u G):u.plain/\G:=by cases u<;>first|exact⟨trivial,C⟩|exact C.elim
theorem yY (C:u.plain)(p:G):cY u G:=by cases u<;>first|exact p|exact C.elim
def UK (o:Option V)(P:V->Prop):Prop:=match o with|some u=>cY u (P u)|none=>False
structure JT (K:Frag)(ae:Addr)(x:Str):Prop where
 find:findIn K (.ref ae) x=Y am
 Zj:takerIn K ae x=Y am
 get:plainGet K ae x=true
 has:hasDictIn K ae=true
 over:plainOver K ae=true
 set:findIn K (.ref ae) "__setattr__"=Y (Y (.builtin "object.__setattr__"))
variable{K:Frag}
theorem E5 (C:fP K ae w=true):JT K ae w:=by unfold fP at C;simp only[d9,beq_iff_eq] at C;refine bA λco aB=>?_;obtain⟨⟨⟨⟨⟨a,b⟩,d⟩,e⟩,f⟩,g⟩:=C;exact aB<|⟨a,b,d,e,f,g⟩
def attr (I:aI)(a:Addr)(x:Str)(u:V):Prop:=∃ae d al,I a=Y (.inst ae d)/\I d=Y (.attrs ae al)/\al.lookup x=Y u
def eo (I:aI)(a:Addr)(x:Str)(P:V->Prop):Prop:=∃u,attr I a x u/\cY u (P u)
variable{cl:Addr}{co:V->Prop}
theorem Kw {q:List (Str×V)}(ak:I a=Y (.inst ae cl))(ao:I cl=Y (.attrs ae q)):eo I a w co=UK (q.lookup w) co:=by
 refine propext ⟨?_,λC=>?_⟩
 ·rintro⟨u,⟨d,M,ce,bv,bE,dA⟩,C⟩;replace bv:=ak▸bv;cases bv;replace bE:=ao▸bE;cases bE;refine J dA ?_;exact C
 ·cases X:q.lookup w with
  |none=>replace C:=X▸C;exact C.elim
  |some u=>replace C:=X▸C;exact(bj u (vE _ _ _ ak ao X) C)
variable{ce:List (Str×V)}
theorem xM (S:bz c I s)(C:I a=Y (.inst ae cl))(aG:I cl=Y (.attrs ae ce)): ∃aO k,s.heap.get? cl=Y (dictOf aO k)/\k4 ce aO/\InstAt s.heap a (instObj ae cl) ae (Y<|dictOf aO k)/\∀x∈ce,fP c.K ae x.1=true:=by have ak:=S.rep a _ C;refine bA λco aB=>?_;obtain⟨⟨aO,k,ao,bp⟩,bI⟩:=S.rep cl _ aG;exact aB<|gd aO k ao bp ⟨ak,rfl,rfl,ao⟩ bI
theorem QE (a1:c.Ok)(S:bz c I s)(aF:bO cX Z aH I s)(C:attr I a w u)(aP:u.plain)(af:ad u I): b7 c.M b5 (pW (.ref a) w cL) (dV c Z aH ad) E s:=by refine bA λco aB=>ve C λae d al ak ao bp=>?_;clear C;refine cS (xM S ak ao) λaO k bI c9 a8 er=>a9 (En c9 bp) λv bJ a6=>?_;obtain⟨f,cr,g,hd,Q,st⟩:=E5<|er _<|S8 bp;exact aB<|get_value (a1.gL.keeps S.keep) a8 (plainGet_of g).1 (findObj_own hd f rfl bJ) (FS a6 aP)<|jp a6 (S.tok _) (aF.trans<|.tok _) af
abbrev c0 (x:Str)(R:aP):aP:=λk ai S I=>dC S λo S=>gT o λa=>eo I a x λu=>R k ai (u::S) I
theorem Pt (a1:c.Ok)(C:bP c b aw nm aM aY)(he:∀ag,eval (.Attribute aM w pos) ag=(do
 let o<-eval aM ag;lP pos.atName;let r<-o2 [o] (pW o w true);vP aM o r;pure r)):bP c b aw nm (.Attribute aM w pos) λR=>aY (c0 w R):=by
 refine⟨λW ag ai I s R j T E aQ h F S af=>?_⟩;refine Attribute_any_ (b0 (C.r W ag ai I s _ _ _ E aQ h F S af) (λv be A=>cS A λo ay aO H av g=>?_) λq q aM=>aM)<|he ag;refine bA λco aB=>kq (f3 g) λa L u x aZ=>?_;obtain⟨aP,aZ⟩:=yX aZ;refine aB ?_;clear g;subst L;exact J aO<|QE a1 H av x aP aZ
theorem VR {L:bZ}(a1:c.Ok)(S:bz c I s)(ak:I a=Y (.inst ae cl))(ao:I cl=Y (.attrs ae ce))(hd:fP c.K ae w=true)(aq:ce.length<900)(a6:u.is v) (C:∀aH,bz c (I.set cl<|.attrs ae<|bJ w u ce) aH->(∀own,bO own I s (I.set cl<|.attrs ae<|bJ w u ce) aH)->gs () aH): b7 c.M b5 (setAttr (.ref a) w v) gs E s:=by
 refine bA λco aB=>cS (xM S ak ao) λaO k bI c9 a8 er=>?_;have bU:=a1.gL.keeps S.keep;obtain⟨f,cr,g,G,Q,st⟩:=E5 hd;refine a9 (any_some (G:(clsIn c.K ae).any (·.hasDict)=true)) λh A j=>aB<|set_plain bU a8 st<|osa_open (s:={s with toks:=s.toks+1}) bU a8 Q cr λb=>?_;have aL:({s with toks:=s.toks+1}:bZ).heap.get? a=Y (instObj ae cl):=a8.at_;have l:(!aO.toArray.any (·.key.isStr w)&&aO.toArray.any (·.refKey))=false:=by
  have ap:=QD (x:=w) c9;unfold getL at ap;refine bm Ab<|bm Ab<|J Xs ?_;split at ap
  ·rename_i i he;refine J (I2.mpr<|bj i (Xu he)<|Xv he) ?_;rfl
  ·split at ap
   ·exact kc ap
   ·rename_i z;replace z:=(Bool.not_eq_true _)▸z;exact J z<|J (Bool.and_false _) rfl
 refine cc<|dD<|cc<|cc<|wpAny_loadPart aL<|cc<|(looks_clsIn bU A).at ?_;refine J j<|dD (a:=Y cl)<|cc<|dD<|cc ?_;unfold nsSet;refine cc<|cc<|wpAny_askSetting<|dD<|cc<|wpAny_mkText<|cc<|wpAny_loadPart bI ?_;dsimp only;refine J (aRefKeyMayBeTheName_at _ _)<|J l<|wpAny_updatePart bI ?_;have e:=putName_dict w (tc c.w.params w) (.str w<|s.toks+1) v aO k;have d:(dictOf (putL w (tc c.w.params w) (.str w<|s.toks+1) v aO)<|putN w aO k).isFreed=false:=rfl;have ax:=rj (I3 w (tc c.w.params w) (.str w<|s.toks+1) v) bI (by refine J e ?_;exact d);replace ax:=e▸ax;have B:qc cl s.heap (s.heap.update cl<|I3 w (tc c.w.params w) (.str w<|s.toks+1) v):=⟨Xw _ _ _,λb aA=>vQ _ _ _ _ aA⟩;have c6:lZ c (s.heap.update cl<|I3 w (tc c.w.params w) (.str w<|s.toks+1) v) cl (.attrs ae<|bJ w u ce):= ⟨(fv _ _ ax<|c9.bJ a6),Vb (P:=λy=>fP c.K ae y=true) hd er⟩;refine cc<|wpAny_lookBehind ax (by have:=(c9.bJ (x:=w) (q:=tc c.w.params w) (t:=s.toks+1) a6).length;have:=Vc w u ce;exact pastItsLine_dict<|by refine J Xx<|J eI ?_;exact ch (.le aa<|.a (.k 16777216) aC) [.lt ab<|.k 900,.eq aa ah,.le ah<|.a ab aC] aq ‹_› this) ?_;exact dD<|C _ (S.upd (t:=s.toks+1+1) B ao c6) λown=> .upd B ao ⟨_,ax⟩
abbrev bQ (x:Str)(R:aP):aP:=λk ai S I=>pG S λo u S=>gT o λa=>∃ae d al,I a=Y (.inst ae d)/\I d=Y (.attrs ae al)/\fP k.c.K ae x=true/\al.length<900/\∀D,Upd I D d (.attrs ae<|bJ x u al)->R k ai S D
theorem Qj (a1:c.Ok)(C:bP c b aw nm aM aY)(aO:bP c b aw nm cI c7)(U:∀ag,j3 aM (Y<|.Attribute cI name dl) pos.line ag=pure false):fo c b aw nm (.Assign [.Attribute cI name dl] aM pos) λR=>aY (c7<|bQ name R):=by refine⟨λW ag ai I s R j E aQ q h F S af=>?_⟩;refine I5 (b0 (C.r W ag ai I s _ _ [] E aQ h F S af) (λv be A=>cS A λu ay aU H av aZ=>?_) λq q aM=>aM)<|U ag;refine b0 (aO.r W ag ai ay be _ _ _ E aQ h (F.cy av) H aZ) (λw n A=>cS A λQ aN aR p a3 i=>?_) λq q aM=>aM;refine bA λco aB=>dr (f3 i) λa bG=>dF bG λG ax=>fU ax λae d al N=>gy N λak ao hd aq O=>aB ?_;clear i;subst G;refine J aR ?_;have bg:=(F.cy av).cy a3;exact VR (L:=s) a1 p ak ao hd aq aU λaH au D=>gr (k:=.next) rfl (bg.cy<|D cX) au ((av.trans a3).g1.trans<|D _)<|O _ rfl
set_option tactic.hygienic false
structure jz (K:Frag)(ae:Addr)(x:Str)(f:Addr):Prop where
 find:findIn K (.ref ae) x=Y (Y (.ref f))
 typ:typeIn K (.ref f)=Y (.type "function")
 get:plainGet K ae x=true
 keep:k2 K (.ref f)=true
variable{N:Addr}
theorem QF {f:bt×List bt->bZ->Prop}{cY:Sem Bool}(a1:c.Ok)(S:bz c I s)(ak:I a=Y (.inst ae cl))(ao:I cl=Y (.attrs ae ce))(aX:ce.lookup w=am)(hm:jz c.K ae w N) (af:f (.ref N,[.ref a]) s):b7 c.M b5 (Ac (.ref a) w cY) f E s:=by refine bA λco aB=>cS (xM S ak ao) λaO k bI c9 a8 q=>?_;obtain⟨hf,bd,g,-⟩:=hm;exact aB<|method_fn (a1.gL.keeps S.keep) a8 (plainGet_of g).1 (plainGet_of g).2 hf bd (by refine(?_:(lookIn w<|dictOf aO k).map _=_);refine J (lookIn_dict _ _ _)<|J (Eo c9 aX) ?_;rfl) af
abbrev dE (x:Str)(R:aP):aP:=λk ai S I=>dC S λo S=>gT o λa=>∃ae d al f,I a=Y (.inst ae d)/\I d=Y (.attrs ae al)/\al.lookup x=am/\jz k.c.K ae x f/\R k ai (.ref a::.ref f::S) I
variable{fp:Pos}{aS:Env->Sem Bool}
theorem PG (a1:c.Ok)(C:bP c b aw nm aM aY)(aK:i9 c b aw nm al c7)(aP:mF al)(he:∀ag,eval (.Call (.Attribute aM w fp) al [] pos) ag=(do
 let Q<-eval aM ag;lP fp.atName;let(f,first)<-o2 [Q] (Ac Q w<|aS ag);z6 pos f first (mT pos<|hC al ag)<|vR pos<|vS [] ag)):bP c b aw nm (.Call (.Attribute aM w fp) al [] pos) λR=>aY (dE w<|c7<|eS (gm (al.length+1) []) R):=by
 refine⟨λW ag ai I s R j T E aQ h F S af=>?_⟩;refine methodCall_KW (b0 (C.r W ag ai I s _ _ _ E aQ h F S af) (λv be A=>cS A λo ay aO H av g=>?_) λq q aM=>aM)<|he ag;refine bA λco aB=>dr (f3 g) λa bG=>dF bG λL ax=>hh ax λae d ce f N=>gy N λak ao aX hm aZ=>aB ?_;clear g;subst L;refine J aO<|QF a1 H ak ao aX hm<|b0 (rU (P:=λC=>c.K.In C) aK aQ h (F.cy av) H aZ (aP _ _) (λZ aH au q=>a1.gL.keeps au.keep) (keeps_K hm.keep) λus aj Z aH bb au D ap aG=>?_) (dV.trans av) λq q aM=>aM;exact b0 (nz (P:=λus S=>dC S λu S=>gT u λf=>mV c b (.ref f) us (oI ⟨c,b,j⟩ R ai S) Z) (us:=.ref a::us) (S:=.ref f::T) (congrArg (· +1) ap) (by refine J rB<|J (en _ _ _) ?_;exact aG) W aH (.ref f) (.ref a::aj) E aQ au rfl ⟨rfl,bb⟩) (dV.trans D) λq q aM=>aM
noncomputable def O.ty:O->Option String
 |.list _=>Y "list"
 |.tup _=>Y "tuple"
 |.cP _=>Y "dict"
 |.fQ _=>Y "dict"
 |_=>am
noncomputable def V.ty (I:aI):V->Option String
 |.int _=>Y "int"
 |.str _=>Y "str"
 |.ref a=>(I a).bind O.ty
 |_=>am
variable{iZ:String}
theorem s4 (S:bz c I s)(aU:u.is v)(C:u.ty I=Y iZ):s.TypeIs v iZ/\∀a,v=.ref a->∃o,s.heap.get? a=Y o/\o.dict=am:=by
 cases u with
 |int i=>obtain⟨t,rfl⟩:=aU;cases C;exact⟨rfl,λq e=>by cases e⟩
 |str i=>obtain⟨t,rfl⟩:=aU;cases C;exact⟨typeIs_str _ _ _,λq e=>by cases e⟩
 |ref a=>
  refine J aU ?_;replace C:(I a).bind O.ty=Y iZ:=C;cases X:I a with
  |none=>replace C:=X▸C;exact bX C
  |some o=>
   replace C:=X▸C;have R:=S.rep a _ X;clear X;cases o with
   |list us=>cases C;obtain⟨aj,k,e,-⟩:=R;exact⟨(bj _ e rfl),λb aA=>by cases aA;exact(bj _ e rfl)⟩
   |tup us=>cases C;obtain⟨aj,k,e,-⟩:=R;exact⟨(bj _ e rfl),λb aA=>by cases aA;exact(bj _ e rfl)⟩
   |cP al=>cases C;obtain⟨au,D,-⟩:=R;exact⟨D.typeIs,D.mapOf.noDict⟩
   |fQ al=>cases C;obtain⟨au,D,-⟩:=R;exact⟨D.typeIs,D.mapOf.noDict⟩
   |inst _ _=>exact bX C
   |attrs _ _=>exact bX C
 |_=>exact bX C
structure n4 (T:String)(x:Str)(id:String):Prop where
 oG:PlainAttrs T
 slot:Slot T x id
 typ:typeOf (.builtin id)=pure (.type "method_descriptor")
abbrev op (T:String)(R:aP):aP:=λk ai S I=>dC S λo S=>o.ty I=Y T/\R k ai (o::S) I
variable{mw:String}
theorem PH (az:n4 iZ w mw)(d:fZ c b (.builtin mw) jy)(C:bP c b aw nm aM aY)(aK:i9 c b aw nm al c7)(aP:mF al)(he:∀ag,eval (.Call (.Attribute aM w fp) al [] pos) ag=(do
 let Q<-eval aM ag;lP fp.atName;let(f,first)<-o2 [Q] (Ac Q w<|aS ag);z6 pos f first (mT pos<|hC al ag)<|vR pos<|vS [] ag)):bP c b aw nm (.Call (.Attribute aM w fp) al [] pos) λR=>aY (op iZ<|c7<|dS jy (gm (al.length+1) []) R):=by
 refine⟨λW ag ai I s R j T E aQ h F S af=>?_⟩;refine methodCall_KW (b0 (C.r W ag ai I s _ _ _ E aQ h F S af) (λv be A=>gZ A λo ay aO H av bd aZ=>?_) λq q aM=>aM)<|he ag;obtain⟨bD,hd⟩:=s4 H aO bd;refine getMethod_builtin bD az.oG az.slot az.typ hd<|b0 (rU (P:=λq=>True) aK aQ h (F.cy av) H aZ (aP _ _) (λq q q q=>trivial) (λC q=>uY λq aM=>by cases aM) λus aj Z aH bb au D ap aG=>?_) (dV.trans av) λq q aM=>aM;exact b0 (d W Z aH _ E (o::us) (v::aj) aQ au ⟨aO,bb⟩ (nz (P:=λus S=>jy us (oI ⟨c,b,j⟩ R ai S) Z) (us:=o::us) (congrArg (· +1) ap)<|by refine J rB<|J (en _ _ _) ?_;exact aG)) (dV.trans D) λq q aM=>aM
structure rI (K:Frag)(ae ej:Addr):Prop where
 makes:makesIn K ae=true
 find:findIn K (.ref ae) "__init__"=Y (Y (.ref ej))
 typ:typeIn K (.ref ej)=Y (.type "function")
 keep:k2 K (.ref ae)=true
variable{ej:Addr}
theorem SY (a1:c.Ok)(hm:rI c.K ae ej) (C:∀a d,a≠d->I a=am->I d=am->bk c b (.ref ej) (.ref a::us) (λu Z=>u=.none/\ad (.ref a) Z) ((I.set d<|.attrs ae []).set a<|.inst ae d)):bk c (b+1) (.ref ae) us ad I:=by
 intro W s ee aj R aQ S hf bb cd;refine J hf<|bA λco aB=>?_;obtain⟨G,g,d,t,os⟩:=s;obtain⟨e,f,h,-⟩:=hm;have bU:=a1.gL.keeps S.keep;obtain⟨av,aG,aV⟩:=aQ;refine aB<|make_core (makes_of bU e) (looks_findIn bU f) (λself=>bind_fn bU self h) (.inl rfl) ?_;have bC:=S.alloc emptyDict (.attrs ae []) ⟨(fv ([]) (0) (kY _ rfl) trivial),λq C=>by cases C⟩;have ar:(G.push emptyDict).objs.size=G.objs.size+1:=Xy ..;have aq:=bC.alloc (instObj ae G.objs.size) (.inst ae G.objs.size) (by refine(?_:vT _ _=_);exact kY _ rfl);have a8:bO cX I ⟨G,g,d,t,os⟩ _ _:=(bO.alloc emptyDict<|.attrs ae []).trans<|bO.alloc (instObj ae G.objs.size)<|.inst ae G.objs.size;have bv:({heap:=G.push emptyDict,gens:=g,drawn:=d,toks:=t,os:=os}:bZ).heap.objs.size=G.objs.size+1:=ar;rw[bv] at aq a8;refine C (G.objs.size+1) G.objs.size (XA _) (S.yG<|g5 _) S.kU _ _ (.ref ej) (.ref (G.objs.size+1)::aj) _ ⟨?_,?_,aV⟩ aq rfl ⟨rfl,bb⟩ ?_
 ·have:Ad (.builtin "type.__call__" ⟨.ref ae::aj,[]⟩)=1:=by kernel_rfl
  refine(?_:W.depth+Ad _+2*b+4<=_);exact cn (.le (.a (.a (.a aa ab)<|.m 2 ah)<|.k 4) az) [.le (.a (.a aa<|.m 2<|.a ah aC)<|.k 4) az,.eq ab aC] av this
 ·have:Ae (.builtin "type.__call__" ⟨.ref ae::aj,[]⟩)=1:=by kernel_rfl
  refine(?_:W.units+Ae _+20*b+100<=_);exact cn (.le (.a (.a (.a aa ab)<|.m 20 ah)<|.k 100) az) [.le (.a (.a aa<|.m 20<|.a ah aC)<|.k 100) az,.eq ab aC] aG this
 ·intro v aH bo;refine gZ bo λu Z aU au D O X=>?_;clear bo;subst O;exact J aU<|⟨rfl,cd _ _<|lF au (a8.trans D) X⟩
set_option tactic.hygienic true
theorem bz.newList (S:bz c I s)(C:cj us aj.toList):bz c (I.set s.heap.objs.size<|.list us) {s with heap:=s.heap.push {cls:=.type "list",data:=.seq aj}}:= S.alloc _ (.list us)<|fv aj (0) (kY _ rfl) C
theorem vD (S:bz c I s)(aF:bO cX Z aH I s)(C:cj us aj.toList)(X:∀a D,dI I D a (.list us)->ad (.ref a) D): dV c Z aH ad (.ref s.heap.objs.size) {s with heap:=s.heap.push {cls:=.type "list",data:=.seq aj}}:= lF (S.newList C) (aF.trans<|.alloc _ _)<|X _ _ ⟨S.kU,rfl⟩
theorem str_nil_append (C:(w.length==0)=true):w++name=name:=by
 obtain⟨a⟩:=w;obtain⟨b⟩:=name;have:a=#[]:=by have aG:(a.size==0)=true:=C;simpa using aG
 refine J this<|(?_:(⟨#[]++b⟩:Str)=⟨b⟩);simp
theorem str_append_nil (C:(name.length==0)=true):w++name=w:=by
 obtain⟨a⟩:=w;obtain⟨b⟩:=name;have:b=#[]:=by have aG:(b.size==0)=true:=C;simpa using aG
 refine J this<|(?_:(⟨a++#[]⟩:Str)=⟨a⟩);simp
def e5:V->V->(V->aI->Prop)->aI->Prop
 |.int a,.int b,ad,I=>ad (.int<|a+b) I
 |.str x,.str y,ad,I=>ad (.str<|x++y) I/\(x++y).length<=c5
 |.ref l,.ref m,ad,I=>∃us b6,I l=Y (.list us)/\I m=Y (.list b6)/\us.length+b6.length<=c5/\∀a D,dI I D a (.list<|us++b6)->ad (.ref a) D
 |_,_,_,_=>False
theorem Ue:fN c l (qb .Add) e5:=by
 intro W I s ad E a b Q Z aQ S aK aA af;cases a<;>(try exact af.elim)<;>cases b<;>try exact af.elim
 ·obtain⟨t,rfl⟩:=aK;obtain⟨u,rfl⟩:=aA;exact PyProof.Rows.add_int<|g2 (S.tok _) (.tok _) af
 ·rename_i x y;obtain⟨t,rfl⟩:=aK;obtain⟨u,rfl⟩:=aA;obtain⟨af,ap⟩:=af;refine P.add_str ?_;split
  ·rename_i C;rw[str_nil_append C] at af;exact pP S .refl af
  ·split
   ·rename_i C;rw[str_append_nil C] at af;exact pP S .refl af
   ·exact⟨ap,pP (S.tok _) (.tok _) af⟩
 ·refine J aK ?_;refine J aA ?_;refine cS af λus b6 ak ao ap af=>dT (S.rep _ _ ak) λaj k e i=>dT (S.rep _ _ ao) λab aB a7 f=>concat_meets (bj _ e rfl) (bj _ a7 rfl) noFill_list_add seq_list_add PySem.F.slot_list_add PySem.F.entry_list_add (PySem.F.args_list_add_2 _ _) (list_addW _ _ aj ab k aB _ _ _ _<|by refine bm eN<|bm eN<|bm i.length<|bm f.length ?_;exact ap) ⟨e,a7,?_⟩;exact vD S .refl (us:=us++b6) (by simpa using i.append f) af
def nv (F:Int->Int->(V->aI->Prop)->aI->Prop):V->V->(V->aI->Prop)->aI->Prop
 |.int a,.int b,ad,I=>F a b ad I
 |_,_,_,_=>False
theorem oF {d:Int->Int->(V->aI->Prop)->aI->Prop}(C:∀{W:eO} {I:aI} {s:bZ} {ad:V->aI->Prop} {E:bt->bZ->Prop} {a b:Int} {t u:Tok},bz c I s->d a b ad I->b7 c.M W (mb (.int a t)<|.int b u) (dV c I s ad) E s):fN c e mb (nv d):=by
 intro W I s ad E a b Q Z aQ S aK aA af;cases a with
 |int a=>
  cases b with
  |int b=>obtain⟨t,rfl⟩:=aK;obtain⟨u,rfl⟩:=aA;exact C S af
  |_=>exact af.elim
 |_=>exact af.elim
def oC:V->V->(V->aI->Prop)->aI->Prop:=nv λa b ad I=>ad (.int<|a -b) I
theorem Uv:fN c b (qb .Sub) oC:=oF λS af=>P.sub_int<|g2 (S.tok _) (.tok _) af
def oMod:V->V->(V->aI->Prop)->aI->Prop:=nv λa b ad I=>b≠0/\ad (.int<|a.fmod b) I
theorem Up:fN c b (qb .Mod) oMod:=oF λS af=>mod_int' af.1<|g2 (S.tok _) (.tok _) af.2
def oDiv:V->V->(V->aI->Prop)->aI->Prop:=nv λa b ad I=>b≠0/\b.natAbs<1073741824/\ad (.int<|a.fdiv b) I
theorem Uf:fN c b (qb .FloorDiv) oDiv:=oF λS af=>floordiv_int af.1 (g2 (S.tok _) (.tok _) af.2.2)<|.inl<|PyProof.noPylong_small af.2.1
def yL:V->V->(V->aI->Prop)->aI->Prop:=nv λa b ad I=>0<=b/\b<=1000000/\a.natAbs<2^64/\∀v,v=a^b.toNat->ad (.int v) I
theorem Uu:fN c b (qb .Pow) yL:=oF λS af=>pow_int_small af.1 af.2.1 af.2.2.1<|g2 (S.tok _) (.tok _)<|af.2.2.2 _ rfl
noncomputable def times (k:Int)(us:List V):List V:=(eb k.toNat us).flatten
theorem Q5 (C:cj us aj.toList)(k:Nat):cj (eb k us).flatten (I6 (λbD bw=>bD++bw) #[] (eb k aj)).toList:=by
 have g:∀(k:Nat) (N:Array bt) (as:List V),cj as N.toList->cj (as++(eb k us).flatten) (I6 (λbD bw=>bD++bw) N<|eb k aj).toList:=by
  intro k;induction k with
  |zero=>intro N as C;simpa using C
  |succ k B=>intro N as aK;exact J vU<|J I7<|bm (en _ _ _)<|J vU<|J vN<|B _ _ (by simpa using aK.append C)
 simpa using g k #[] [] trivial
def nx:V->V->(V->aI->Prop)->aI->Prop
 |.int a,.int b,ad,I=>IntMulOk a b/\ad (.int<|a*b) I
 |.ref l,.int k,ad,I=>∃us,I l=Y (.list us)/\ -(2^63:Int)<=k/\k<2^63/\us.length*k.toNat<=2^24/\∀a D,dI I D a (.list<|times k us)->ad (.ref a) D
 |_,_,_,_=>False
theorem Uq:fN c e (qb .Mult) nx:=by
 intro W I s ad E a b Q Z aQ S aK aA af;cases a<;>(try exact af.elim)<;>cases b<;>try exact af.elim
 ·obtain⟨t,rfl⟩:=aK;obtain⟨u,rfl⟩:=aA;exact P.mul_int (g2 (S.tok _) (.tok _) af.2) af.1
 ·rename_i l x;refine J aK ?_;obtain⟨u,rfl⟩:=aA;refine q0 af λus ak j ag ar af=>dT (S.rep _ _ ak) λa0 k ap i=>?_;have d:a0.size*x.toNat<=2^24:=by refine bm eN<|bm i.length ?_;exact ar
  refine wpAny_binaryOp_repeat_ref (T:="list") (U:="int") (by decide) (bj _ ap rfl) (λaH=>typeIs_int aH x u) noFill_list_mul F.fills_int_mul XB repeat_list F.slot_int_index.lookup<|td XB (typeIs_int s x u) F.entry_int_rmul (F.args_int_rmul_2 _ _) (int___rmul___int_list x u l a0 k) ⟨ap,rfl,(bj _ ap rfl),td F.slot_list_mul (bj _ ap rfl) F.entry_list_mul (F.args_list_mul_2 _ _) (AutoListH.list___mul___list_int_3 l a0 k x u (by simp[Builtin.List.listFitsIndex];exact⟨dW (.bW (.g<|.k 9223372036854775808) bh) [.bW (.g<|.k 9223372036854775808) bh] j,dW (.Lt bh<|.k 9223372036854775808) [.Lt bh<|.k 9223372036854775808] ag⟩) (by lia)<|by simp[I8,c5];exact cK (.le aa<|.k 16777216) [.le aa<|.k 16777216] d) ⟨ap,?_⟩⟩;have a4:cj (times x us) (I6 (λbD bw=>bD++bw) #[] (eb (if a0.isEmpty=true then 0 else x.toNat) a0)).toList:=by
   split
   ·rename_i he;have:a0=#[]:=by simpa using he
    clear ap d he;subst this;have bb:us=[]:=by
     clear ak ar;cases us with
     |nil=>rfl
     |cons _ _=>exact i.elim
    refine J bb ?_;have aq:∀k:Nat,(eb k ([]:List V)).flatten=[]:=λk=>by
     induction k with
     |zero=>rfl
     |succ k B=>refine J vU<|J I7<|J B ?_;rfl
    unfold times;exact J (aq _)<|trivial
   ·exact Q5 i _
  exact vD S .refl a4 af
def oLt:V->V->(V->aI->Prop)->aI->Prop:=nv λa b ad I=>ad (.bool<|decide<|a<b) I
theorem Uo:fN c b (j2 .Lt) oLt:=oF λS af=>P.lt_int<|fX S .refl af
def oLe:V->V->(V->aI->Prop)->aI->Prop:=nv λa b ad I=>ad (.bool<|decide<|a<=b) I
theorem Un:fN c b (j2 .LtE) oLe:=oF λS af=>P.le_int<|fX S .refl af
def vc:V->V->(V->aI->Prop)->aI->Prop:=nv λa b ad I=>ad (.bool<|decide<|a>b) I
theorem Ui:fN c b (j2 .Gt) vc:=oF λS af=>P.gt_int<|fX S .refl af
def pD:V->V->(V->aI->Prop)->aI->Prop:=nv λa b ad I=>ad (.bool<|decide<|a>=b) I
theorem Uh:fN c b (j2 .GtE) pD:=oF λS af=>P.ge_int<|fX S .refl af
noncomputable def V.isNone:V->Bool
 |.none=>true
 |_=>false
theorem F8 (C:u.is v)(aP:u.plain):(v==.none)=u.isNone:=by cases u<;>first|exact aP.elim|(cases C;rfl)|(obtain⟨t,rfl⟩:=C;rfl)
def sN:V->V->(V->aI->Prop)->aI->Prop
 |u,.none,ad,I=>cY u<|ad (.bool u.isNone) I
 |_,_,_,_=>False
theorem Uk:fN c e (j2 .Is) sN:=by
 intro W I s ad E a b Q Z aQ S aK aA af;cases b<;>try exact af.elim
 refine J aA ?_;replace af:=yX af;exact is_none<|J (F8 aK af.1)<|fX S .refl af.2
def oB:V->V->(V->aI->Prop)->aI->Prop
 |u,.none,ad,I=>cY u<|ad (.bool (!u.isNone)) I
 |.ref a,.ref b,ad,I=>a=b/\ad (.bool false) I
 |_,_,_,_=>False
theorem Ul:fN c l (j2 .IsNot) oB:=by
 intro W I s ad E a b Q Z aQ S aK aA af;cases b<;>try exact af.elim
 ·refine J aA ?_;have af:cY _ _:=af;replace af:=yX af;exact isNot_none<|J (F8 aK af.1)<|fX S .refl af.2
 ·cases a<;>try exact af.elim
  refine J aK ?_;refine J aA ?_;rename_i b a;obtain⟨rfl,af⟩:=af;have e:∀b:Addr,isSame (.ref b) (.ref b)=pure true:=λb=>by exact if_pos<|beq_self_eq_true b
  refine(?_:b7 c.M W (do return Value.bool (!(<-isSame (.ref _) (.ref _)))) _ E s);exact J (e _)<|cc<|dD<|dD<|fX S .refl af
set_option tactic.hygienic false
set_option tactic.hygienic true
noncomputable def pick (k:Int)(us:List av):Option av:=if 0<=k then us[k.toNat]? else if-(us.length:Int)<=k then us[(k+us.length).toNat]? else am
def item:O->V->V->Prop
 |.list us,.int k,u=>pick k us=Y u/\us.length<2^62
 |.tup us,.int k,u=>pick k us=Y u/\us.length<2^62
 |.cP al,.int k,u=>al.lookup k=Y u
 |.fQ al,.str x,u=>al.lookup x=Y u
 |_,_,_=>False
def hA:V->V->(V->aI->Prop)->aI->Prop
 |.ref l,i,ad,I=>∃o u,I l=Y o/\item o i u/\ad u I
 |_,_,_,_=>False
theorem Ho (C:pick pt us=Y u)(i:cj us aj.toList):∃j v,seqIndex? pt aj.size=Y j/\aj[j]?=Y v/\u.is v/\(0<=pt->aj[pt.toNat]?=Y v)/\(pt<0-> -(aj.size:Int)<=pt/\aj[(pt+aj.size).toNat]?=Y v):=by
 have ap:us.length=aj.size:=by exact J i.length<|J eN rfl
 unfold pick at C;split at C
 ·rename_i h0;obtain⟨v,ak,ao⟩:=i.get C;replace ak:=kv▸ak;have G:pt.toNat<aj.size:=by have:=(lI.mp ak).1;exact this
  refine(rb pt.toNat v ?_ ak ao (λq=>ak) λX=>absurd X<|dW (.hY bh b1) [.bW b1 bh] h0);unfold seqIndex?;simp only[show¬ pt<0 by exact dW (.hY bh b1) [.bW b1 bh] h0,if_false];split<;>first|rfl|(rename_i X;exfalso;revert X;simp;exact⟨dW (.bW b1 bh) [.bW b1 bh] h0,jQ (.Lt bh<|.c aa) [.lt ab aa,.fE ab bh] G rfl⟩)
 ·rename_i h0;split at C
  ·rename_i ak;obtain⟨v,ao,bp⟩:=i.get C;rw[kv,ap] at ao;have G:(pt+aj.size).toNat<aj.size:=(lI.mp ao).1;refine(rb (pt+aj.size).toNat v ?_ ao bp (λX=>absurd X<|dW (.iQ b1 bh) [.iQ b1 bh] h0) λq=>⟨by refine bm ap ?_;exact ak,ao⟩);unfold seqIndex?;simp only[show pt<0 by exact dW (.Lt bh b1) [.iQ b1 bh] h0,if_true];split<;>first|rfl|(rename_i X;exfalso;revert X;simp;exact⟨jQ (.bW b1<|.a bh<|.c aa) [.eq ab aa,.bW (.g<|.c ab) bh] ap ak,mu (.Lt (.a bh<|.c aa)<|.c aa) [.iQ b1 bh] h0⟩)
  ·exact bX C
theorem xV [BEq av][LawfulBEq av][DecidableEq av]{k:av}:∀{al:List (av×V)} {au:List (av×bt)},iO al au->al.lookup k=Y u->∃v,valueAt au k=Y v/\u.is v:=by
 intro D;induction D with
 |nil=>intro o K C;exact bX C
 |cons p al B=>
  intro f;cases f with
  |nil=>intro C K;exact C.elim
  |cons e au=>
   intro g C;obtain⟨ak,ao,bp⟩:=g;rw[g4] at C;unfold valueAt;refine J Aa<|bm ak ?_;by_cases X:k=p.1
   ·subst X;simp at C;exact bm C<|(bj e.2 (by simp) ao)
   ·have P:(k==p.1)=false:=by simpa using X
    have ai:decide (p.1=k)=false:=by simpa using λe=>X e.symm
    replace C:=P▸C;exact J ai<|B bp C
theorem qM (k:Int)(t:Tok):(intKind c.prog c.w).is k (.int k t)=true:=by refine(?_:Ja k (.int k t)=true);simp[Ja]
theorem sA (k:Str)(t:Tok):(strKind c.prog c.w).is k (.str k t)=true:=by refine(?_:XC k (.str k t)=true);simp[XC]
theorem Um:fN c b getItem hA:=by
 intro W I s ad E o i B lE aQ S aO a4 af;cases o<;>try exact af.elim
 refine J aO ?_;rename_i l;refine bA λco aB=>?_;obtain⟨o,u,ak,ao,af⟩:=af;refine aB ?_;have R:=S.rep _ _ ak;clear ak;cases o<;>(try exact ao.elim)<;>cases i<;>try exact ao.elim
 ·rename_i us k;refine bA λco aB=>?_;obtain⟨t,rfl⟩:=a4;obtain⟨aj,a3,e,is⟩:=R;obtain⟨aP,aq⟩:=ao;obtain⟨j,v,-,-,a6,a,aR⟩:=Ho aP is;refine aB ?_;have ap:us.length=aj.size:=by exact J is.length<|J eN rfl
  by_cases h0:0<=k
  ·have:=a h0;have G:k.toNat<aj.size:=(lI.mp this).1;exact wpAny_getItem_list (fW e) h0 (ow (.Lt bh<|.k 9223372036854775808) [.lt aa<|.k 4611686018427387904,.eq aa ab,.lt ah ab,.fE ah bh] aq ap G rfl) this<|jp a6 S .refl af
  ·obtain⟨ar,aZ⟩:=aR<|dW (.Lt bh b1) [.iQ b1 bh] h0;exact wpAny_getItem_list_neg (fW e) (dW (.Lt bh b1) [.iQ b1 bh] h0) ar (by lia) aZ<|jp a6 S .refl af
 ·rename_i us k;refine bA λco aB=>?_;obtain⟨t,rfl⟩:=a4;obtain⟨aj,a3,e,is⟩:=R;obtain⟨aP,aq⟩:=ao;obtain⟨j,v,bp,bI,a6,a,aR⟩:=Ho aP is;refine aB ?_;have ap:us.length=aj.size:=by exact J is.length<|J eN rfl
  refine getItem_tuple (items:=aj) (kV _ e rfl a3 rfl) ?_ ?_ bp bI<|jp a6 S .refl af
  ·by_cases h0:0<=k
   ·exact dW (.bW (.g<|.k 9223372036854775808) bh) [.bW b1 bh] h0
   ·have:=(aR<|dW (.Lt bh b1) [.iQ b1 bh] h0).1;lia
  ·by_cases h0:0<=k
   ·have G:k.toNat<aj.size:=(lI.mp<|a h0).1;exact ow (.Lt bh<|.k 9223372036854775808) [.lt aa<|.k 4611686018427387904,.eq aa ab,.lt ah ab,.fE ah bh] aq ap G rfl
   ·exact dW (.Lt bh<|.k 9223372036854775808) [.iQ b1 bh] h0
 ·rename_i al k;refine bA λco aB=>?_;obtain⟨t,rfl⟩:=a4;obtain⟨au,D,f⟩:=R;obtain⟨v,bp,a6⟩:=xV f ao;exact aB<|wpAny_getItem_of (k:=k) (qM k t) D.mapOf bp<|jp a6 (S.tok _) (.tok _) af
 ·rename_i al k;refine bA λco aB=>?_;obtain⟨t,rfl⟩:=a4;obtain⟨au,D,f⟩:=R;obtain⟨v,bp,a6⟩:=xV f ao;exact aB<|wpAny_getItem_of (k:=k) (sA k t) D.mapOf bp<|jp a6 (S.tok _) (.tok _) af
theorem zp (bD:s.TypeIs v iZ) (ap:lJ (.type iZ) "__getitem__"=pure (Y<|.builtin mw))(C:b7 c.M b5 (getItem v ee) hG E s)(U:subscripted aM false v ee=operate bs (getItem v ee)): b7 c.M b5 (subscriptTail value aM v ee) hG E s:=by
 unfold subscriptTail;refine cc<|J (getitemInPython_of_ne bD.not_modules)<|cc<|wpAny_specialOf bD ap ?_;have fin:b7 c.M b5 (subscripted aM false v ee) (λr aP=>b7 c.M b5 (vP value v r>>=λq=>pure r) hG E aP) E s:=by exact J U<|wpAny_operating<|b0 C (λr aP aV=>cc<|wpAny_letTemporaryGo<|dD aV) λq q x=>x
 first
  |exact dD<|cc fin
  |exact cc<|dD<|cc fin
variable{aS:V}
theorem T5 (S:bz c I s)(aO:ar.is v)(C:hA ar aS ad I):∃T id,s.TypeIs v T/\lJ (.type T) "__getitem__"=pure (Y<|.builtin id):=by
 cases ar<;>try exact C.elim
 refine J aO<|bA λco aB=>?_;obtain⟨ar,u,ak,ao,-⟩:=C;refine aB ?_;cases ar with
 |list us=>exact(fv ("list") _ (s4 S (u:=.ref _) rfl<|by refine(?_:(I _).bind O.ty=_);refine J ak ?_;rfl).1 Jb)
 |tup us=>exact(fv ("tuple") _ (s4 S (u:=.ref _) rfl<|by refine(?_:(I _).bind O.ty=_);refine J ak ?_;rfl).1 F.slot_tuple_getitem.lookup)
 |cP us=>exact(fv ("dict") _ (s4 S (u:=.ref _) rfl<|by refine(?_:(I _).bind O.ty=_);refine J ak ?_;rfl).1 slot_dict_getitem.lookup)
 |fQ us=>exact(fv ("dict") _ (s4 S (u:=.ref _) rfl<|by refine(?_:(I _).bind O.ty=_);refine J ak ?_;rfl).1 slot_dict_getitem.lookup)
 |_=>exact ao.elim
theorem PE (C:bP c b aw nm aM aY)(a4:bP c b aw nm cI c7)(U:∀o i,subscripted cI false o i=operate [o,i] (getItem o i)):bP c b aw nm (.Subscript aM cI pos) λR=>aY (c7<|bV hA R):=by refine⟨λW ag ai I s R j T E aQ h F S af=>?_⟩;refine Subscript_<|b0 (C.r W ag ai I s _ _ _ E aQ h F S af) (λB be A=>cS A λo ay aO H av aZ=>?_) λq q e=>e;refine b0 (a4.r W ag ai ay be _ _ _ E aQ h (F.cy av) H aZ) (λlE n A=>cS A λi aN a4 p a3 O=>?_) λq q e=>e;obtain⟨Ty,id,bD,ap⟩:=T5 p aO O;refine b0 (zp bD ap (Um W aN n _ E o i B lE aQ p aO a4 O)<|U _ _) (dV.trans<|av.trans a3) λq q e=>e
noncomputable def cut (lo a4:Option Int)(us:List av):List av:=(us.drop<|lo.elim 0<|mN us.length).take<|a4.elim us.length (mN us.length) -lo.elim 0 (mN us.length)
theorem Q3 (i:cj us aj.toList)(lo a4:Option Int):cj (cut lo a4 us) (slicePick aj lo a4 am).toList:=by
 have e:aj.size=us.length:=by exact bm eN<|J i.length rfl
 refine J (slicePick_plain _ _ _) ?_;unfold cut;exact J e<|(i.drop _).take _
noncomputable def Hk:Option Int->List V->List V
 |none,S=>S
 |some i,S=> .int i::S
abbrev f8 (R:aP):aP:=λk ai S I=>dC S λu S=>tH u λi=>R k ai (.int i::S) I
variable{mp:Option Int}
theorem vl {P:Option Int->List V->Prop}(e:mp.isSome=cL)(C:pH cL (Hk mp us) P):P mp us:=by subst e;cases mp<;>exact C
structure k6 (c:cG)(n:Nat)(sc:cC)(nm:List Str)(x:Option Expr)(ae:bq):Prop where
 r:∀(W:eO) (ag:Env) (ai:List V) (I:aI) (s:bZ) (R:aP) (j:ja) (T:List V) (E:bt->bZ->Prop),fz W n->fy c ag sc nm->cH ag nm ai I s.heap->bz c I s->ae R ⟨c,n,j⟩ ai T I->
  b7 c.M W (evalPart x ag) (fun v aH=>∃p Z,IsPart v p/\bz c Z aH/\bO cX I s Z aH/\p.isSome=x.isSome/\R ⟨c,n,j⟩ ai (Hk p T) Z) E s
theorem Qa:k6 c b aw nm am λR=>R:=⟨λq q q q q q q q q q q q S af=>by refine J (Af _) ?_;exact dD<|gd _ _ .none S .refl ⟨rfl,af⟩⟩
theorem PZ (C:bP c b aw nm aM aY):k6 c b aw nm (Y aM) λR=>aY (f8 R):=by refine⟨λW ag ai I s R j T E aQ h F S af=>?_⟩;refine J (evalPart_some _ _)<|b0 (C.r W ag ai I s _ _ _ E aQ h F S af) (λv be A=>cS A λu ay aU H av g=>?_) λq q aM=>aM;obtain⟨i,L,aZ⟩:=jE g;clear g;replace aU:=L▸aU;obtain⟨t,rfl⟩:=aU;exact(gd _ _ (.int i t) H av ⟨rfl,aZ⟩)
abbrev oo (ff b:Bool)(R:aP):aP:=λk ai S I=>pH b S λa4 S=>pH ff S λlo S=>dC S λo S=>gT o λl=>∃us,I l=Y (.list us)/\us.length<=c5/\∀a D,dI I D a (.list<|cut lo a4 us)->R k ai (.ref a::S) D
abbrev FW (P:cG->aI->Addr->List V->Prop)(ff b:Bool)(R:aP):aP:=λk ai S I=>pH b S λa4 S=>pH ff S λlo S=>dC S λo S=>gT o λl=>∃us,P k.c I l us/\us.length<=c5/\∀a D,dI I D a (.list<|cut lo a4 us)->R k ai (.ref a::S) D
variable{a4 jm:Option Expr}
theorem Fq {P:cG->aI->Addr->List V->Prop}(g:∀{I:aI} {s:bZ} {l:Addr} {us:List V},bz c I s->P c I l us->∃aj k,s.heap.get? l=Y (listOf aj k)/\cj us aj.toList)(C:bP c t aw nm aM aY)(ap:k6 c t aw nm jm Cl)(aU:k6 c t aw nm a4 c7):bP c t aw nm (.Subscript aM (.Slice jm a4 am dl) pos) λR=>aY (Cl<|c7<|FW P jm.isSome a4.isSome R):=by refine⟨λW ag ai I s R j T E aQ h F S af=>?_⟩;refine Subscript_<|b0 (C.r W ag ai I s _ _ _ E aQ h F S af) (λB be A=>cS A λo ay aO H av aZ=>?_) λq q e=>e;have bC:=F.cy av;refine wpAny_Slice<|b0 (ap.r W ag ai ay be _ _ _ E aQ h bC H aZ) (λeM n A=>gZ A λx9 aN cY p a3 G O=>?_) λq q e=>e;refine b0 (aU.r W ag ai aN n _ _ _ E aQ h (bC.cy a3) p O) (λw aP A=>gZ A λqF M ak aJ K U aV=>?_) λq q e=>e;refine bA λco aB=>?_;obtain⟨l,L,us,y,aq,aV⟩:=f3<|vl (P:=λjm au=>dC au λa S=>gT a λl=>∃us,P c M l us/\us.length<=c5/\∀b D,dI M D b (.list<|cut jm qF us)->R ⟨c,t,j⟩ ai (.ref b::S) D) G<|vl U aV;refine aB<|J (Af _)<|dD ?_;clear aZ O;replace aO:=L▸aO;refine J aO ?_;obtain⟨aj,k,e,i⟩:=g aJ y;have c3:=(fW e).push {cls:=.type "slice",data:=.fields #[eM,w,.none]};refine zp (XD (s:={aP with heap:=aP.heap.push {cls:=.type "slice",data:=.fields #[eM,w,.none]}}) c3) Jb (XE c3 (Jc ..) cY ak .none (by simp) ?_<|by refine bm eN<|bm i.length ?_;exact aq) rfl;exact vD (aJ.push _) ((av.trans a3).trans<|K.trans<|.push _) (Q3 i x9 qF) aV
theorem Pz (C:bP c b aw nm aM aY)(ap:k6 c b aw nm jm Cl)(aU:k6 c b aw nm a4 c7):bP c b aw nm (.Subscript aM (.Slice jm a4 am dl) pos) λR=>aY (Cl<|c7<|oo jm.isSome a4.isSome R):= Fq (P:=λq I l us=>I l=Y (.list us)) (λS C=>S.rep _ _ C) C ap aU
theorem PT {f:av->Option fm}{g:av->fm}:∀{l:List av},(∀k∈l,f k=Y (g k))->l.filterMap f=l.map g:=by
 intro D;induction D with
 |nil=>intro o;exact rfl
 |cons a l B=>intro C;exact J pV<|J (C a<|.head _)<|J hQ<|J (B λk an=>C k<|.tail _ an) rfl
theorem UH (a0:Array bt):slicePick a0 am am (Y (-1))=a0.reverse:=by
 unfold slicePick sliceBounds;simp only[Option.getD_some,show¬ ((-1:Int)>0) by decide,if_false];unfold sliceRange;simp only[show¬ ((-1:Int)>0) by decide,if_false];apply Array.ext';refine J Xs<|J XF ?_;have a1:(if((a0.size:Int) -1)> -1 then((a0.size:Int) -1 - -1 - -1 -1)/ - -1 else 0).toNat=a0.size:=by
  split
  ·simp
  ·have:a0.size=0:=by exact cK (.eq aa b1) [.hY (.g aC)<|.s (.c aa) aC] ‹_›
   simp[this]
 refine J a1<|J List.filterMap_map ?_;apply oT;intro j;have b:(pX a0.size).filterMap ((λx=>a0[x]?)∘λ(k:Nat)=>((a0.size:Int) -1+ -1*(k:Int)).toNat)=(pX a0.size).map (λk=>a0[a0.size -1 -k]?.getD .none):=by
  refine PT λk an=>?_;replace an:=(propext Jd)▸an;have bv:((a0.size:Int) -1+ -1*(k:Int)).toNat=a0.size -1 -k:=by rw[Am];exact de (.eq aa ab) [.fE aa<|.a (.s (.c ah) aC)<|.g<|.c az,.sub ab a8 az,.sub a8 ah aC,.lt az ah] rfl rfl rfl an
  simp only[Ag,bv];refine J (vV<|by exact cn (.lt aa ab) [.lt ah ab,.sub aa az ah,.sub az ab aC] an rfl rfl) ?_;rfl
 refine J b ?_;by_cases bu:j<a0.size
 ·refine J rl<|J (List.getElem?_range bu)<|J (List.getElem?_reverse<|by rw[eN];exact bu) ?_;simp only[vM,eN,kv];refine J (vV<|by exact cn (.lt aa ab) [.lt ah ab,.sub aa az ah,.sub az ab aC] bu rfl rfl) ?_;rfl
 ·exact J (nL<|by simp;exact bH (.le aa ab) [.es ab aa] bu)<|J (nL<|by simp;exact bH (.le aa ab) [.es ab aa] bu) rfl
abbrev sv (R:aP):aP:=λk ai S I=>dC S λo S=>gT o λl=>∃us,I l=Y (.list us)/\us.length<=c5/\∀a D,dI I D a (.list us.reverse)->R k ai (.ref a::S) D
theorem PI (C:bP c b aw nm aM aY)(d:bP c b aw nm cI (aR<|.int (-1))):bP c b aw nm (.Subscript aM (.Slice am am (Y cI) dl) pos) λR=>aY (sv R):=by refine⟨λW ag ai I s R j T E aQ h F S af=>?_⟩;refine Subscript_<|b0 (C.r W ag ai I s _ _ _ E aQ h F S af) (λB be A=>cS A λo ay aO H av g=>?_) λq q e=>e;refine bA λco aB=>?_;obtain⟨l,L,us,y,aq,aZ⟩:=f3 g;refine aB<|wpAny_Slice<|J (Af _)<|dD<|dD ?_;refine J (evalPart_some _ _)<|b0 (d.r W ag ai ay be (λq q au Z=>au=.int (-1)::T/\Z=ay) j T E aQ h (F.cy av) H ⟨rfl,rfl⟩) (λaM n A=>gZ A λu aN aU p a3 U v=>?_) λq q e=>e;replace aO:=L▸aO;replace aU:=(rm.inj U).1▸aU;replace av:=(dp v)▸av;replace y:=(dp v)▸y;replace aZ:=(dp v)▸aZ;replace a3:=(dp v)▸a3;refine bA λco aB=>?_;obtain⟨t,rfl⟩:=aU;cases aO;obtain⟨aj,k,e,i⟩:=p.rep _ _ y;refine aB ?_;have c3:=(fW e).push {cls:=.type "slice",data:=.fields #[.none,.none,.int (-1) t]};refine zp (XD (s:={n with heap:=n.heap.push {cls:=.type "slice",data:=.fields #[.none,.none,.int (-1) t]}}) c3) Jb (XE c3 (Jc ..) .none .none (.int _ _) (by decide) ?_<|by refine bm eN<|bm i.length ?_;exact aq) rfl;refine vD (p.push _) (av.trans<|a3.trans<|.push _) ?_ aZ;exact J (UH _)<|J XF<|i.reverse
set_option tactic.hygienic false
set_option tactic.hygienic true
theorem yi (e:C.get? a=Y (listOf aj b))(f:Array bt->Array bt):∃aB,(C.update a<|Ah f).get? a=Y (listOf (f aj) aB):= ⟨_,rj _ e rfl⟩
theorem vC {f:Array bt->Array bt}(S:bz c I s)(aF:bO cX Z aH I s)(C:I a=Y (.list us))(e:s.heap.get? a=Y (listOf aj b))(i:cj ai (f aj).toList) (X:∀D,Upd I D a (.list ai)->ad .none D):dV c Z aH ad .none {s with heap:=s.heap.update a<|Ah f,toks:=t}:=by obtain⟨aB,a7⟩:=yi e f;exact s6 (S.upd (t:=t) (q:=.list ai) (te ..) C<|fv _ aB a7 i) (aF.trans<|.upd (te ..) C ⟨_,a7⟩)<|X _ rfl
theorem F6 (i:cj us aj.toList)(C:u.is v):cj (us++[u]) (aj.push v).toList:=by refine J Array.toList_push ?_;exact i.append ⟨C,trivial⟩
def qs (us:List V)(ad:V->aI->Prop)(I:aI):Prop:=l6 us λo u=>j8 o λl=>∃us,I l=Y (.list us)/\us.length<=c5/\∀D,Upd I D l (.list<|us++[u])->ad .none D
theorem Lb:fZ c b (.builtin "list.append") qs:=by
 intro W I s ad E us aj aQ S bb af;refine oD (l7 af bb) λo u B v aD O aO aU n=>?_;clear bb af;subst aD;refine J O ?_;refine ig (f3 n) λl h us C aq X=>?_;replace aO:=h▸aO;refine J aO<|dT (S.rep _ _ C) λd k e i=>?_;have P:d.size<=c5:=by refine bm eN<|bm i.length ?_;exact aq
 exact td PySem.F.slot_list_append (bj _ e rfl) PySem.F.entry_list_append (PySem.F.args_list_append_2 _ _) (AutoListH.list_append_list_val_0 l d k v P) ⟨e,vC S .refl C e (F6 i aU) X⟩
theorem S2:n4 "list" "append" "list.append":=⟨Ai,PySem.F.slot_list_append,F.type_list_append⟩
def qt (us:List V)(ad:V->aI->Prop)(I:aI):Prop:=l6 us λo u=>j8 o λl=>j8 u λm=>∃us b6,I l=Y (.list us)/\I m=Y (.list b6)/\us.length+b6.length<=c5/\∀D,Upd I D l (.list<|us++b6)->ad .none D
theorem Lc:fZ c b (.builtin "list.extend") qt:=by
 intro W I s ad E us aj aQ S bb af;refine oD (l7 af bb) λo u B v aD O aO aU n=>?_;clear bb af;subst aD;refine J O ?_;refine a9 (f3 n) λl h A=>?_;replace aO:=h▸aO;refine dr (f3 A) λm bG=>dF bG λh ax=>fc ax λus b6 N=>gM N λC aG aq X=>?_;replace aU:=h▸aU;refine J aO ?_;refine J aU ?_;refine dT (S.rep _ _ C) λd k e i=>dT (S.rep _ _ aG) λg aB a7 f=>?_;have P:d.size+g.size<=c5:=by refine bm eN<|bm i.length<|bm eN<|bm f.length ?_;exact aq
 exact td PySem.F.slot_list_extend (bj _ e rfl) PySem.F.entry_list_extend (PySem.F.args_list_extend_2 _ _) (AutoSeq1.list_extend_list_list_0 l d k m g aB (by simp[I8];intro q;exact ch (.le (.a aa ab) ah) [.le (.a aa ab) ah] P) (ch (.le aa ab) [.le (.a aa ah) ab] P)<|ch (.le (.a aa ab)<|.a ah aC) [.le (.a aa ab) ah] P) ⟨e,a7,vC S .refl C e (by simpa using i.append f) X⟩
theorem S3:n4 "list" "extend" "list.extend":=⟨Ai,PySem.F.slot_list_extend,F.type_list_extend⟩
def tR (us:List V)(ad:V->aI->Prop)(I:aI):Prop:=wH us λo i u=>j8 o λl=>iT i λk=>∃us,I l=Y (.list us)/\us.length<=c5/\k=0/\∀D,Upd I D l (.list<|u::us)->ad .none D
theorem Le:fZ c b (.builtin "list.insert") tR:=by
 intro W I s ad E us aj aQ S bb af;refine yO (wI af bb) λo i u B lE v bG=>sP bG λg j aO a4 aU n=>?_;clear bb af;subst g;refine J j ?_;refine a9 (f3 n) λl h A=>?_;replace aO:=h▸aO;refine dr (jE A) λk bG=>dF bG λh ax=>dr ax λus N=>gM N λC aq an X=>?_;replace a4:=h▸a4;refine J aO<|gC (a4) λt a7=>J a7<|J an<|dT (S.rep _ _ C) λd k e i=>?_;have P:d.size<=c5:=by refine bm eN<|bm i.length ?_;exact aq
 refine td PySem.F.slot_list_insert (bj _ e rfl) PySem.F.entry_list_insert (PySem.F.args_list_insert_3 _ _ _) (AutoSeq1.list_insert_list_int_val_1 l d k 0 t v (by decide) P) ⟨e,vC S .refl C e ?_ X⟩;simp;exact⟨aU,i⟩
theorem S5:n4 "list" "insert" "list.insert":=⟨Ai,PySem.F.slot_list_insert,F.type_list_insert⟩
theorem cj.VL (i:cj us aj.toList)(C:u.is v):cj (us.set b u) (aj.setIfInBounds b v).toList:=by refine J Array.toList_setIfInBounds ?_;exact i.set b C
noncomputable def hi [DecidableEq av](k:av)(u:V)(al:List (av×V)):List (av×V):= if al.any (λf=>f.1=k) then al.map (λf=>if f.1=k then(f.1,u) else f) else al++[(k,u)]
variable{au:List (av×bt)}{U:List (av×V)}
theorem Gh [DecidableEq av](aU:u.is v)(C:iO U au):iO (hi aB u U) (stored au aB v):=by
 have ak:∀{U:List (av×V)} {au:List (av×bt)},iO U au->U.any (λf=>f.1=aB)=au.any (λf=>f.1=aB):=by
  intro U;induction U with
  |nil=>intro au C;cases au with
   |nil=>rfl
   |cons _ _=>exact C.elim
  |cons p r B=>intro au C;cases au with
   |nil=>exact C.elim
   |cons e au=>exact J oS<|J oS<|J (B C.2.2)<|J C.1 rfl
 have ao:∀{U:List (av×V)} {au:List (av×bt)},iO U au->iO (U.map λf=>if f.1=aB then(f.1,u) else f) (au.map λf=>if f.1=aB then(f.1,v) else f):=by
  intro U;induction U with
  |nil=>intro au C;cases au with
   |nil=>exact C
   |cons _ _=>exact C.elim
  |cons p r B=>intro au C;cases au with
   |nil=>exact C.elim
   |cons e au=>
    refine J hQ<|J hQ<|bm C.1<|⟨?_,?_,B C.2.2⟩
    ·split
     ·rfl
     ·exact C.1
    ·split
     ·exact aU
     ·exact C.2.1
 have bp:∀{U:List (av×V)} {au:List (av×bt)},iO U au->iO (U++[(aB,u)]) (au++[(aB,v)]):=by
  intro U;induction U with
  |nil=>intro au C;cases au with
   |nil=>exact⟨rfl,aU,trivial⟩
   |cons _ _=>exact C.elim
  |cons p r B=>intro au C;cases au with
   |nil=>exact C.elim
   |cons e au=>exact⟨C.1,C.2.1,B C.2.2⟩
 unfold hi stored;refine J (ak C) ?_;split
 ·exact ao C
 ·exact bp C
theorem Gg:∀{al:List (av×V)} {au:List (av×bt)},iO al au->al.length=au.length:=by
 intro D;induction D with
 |nil=>
  intro f;cases f with
  |nil=>intro o;exact rfl
  |cons h j=>intro C;exact C.elim
 |cons e i B=>
  intro f;cases f with
  |nil=>intro C;exact C.elim
  |cons h j=>intro C;exact J fe<|J fe<|J (B C.2.2) rfl
def sO (o i u:V)(ad:aI->Prop)(I:aI):Prop:=match o,i with
 |.ref l,.int k=>(∃us,I l=Y (.list us)/\0<=k/\k<us.length/\us.length<2^62/\∀D,Upd I D l (.list<|us.set k.toNat u)->ad D)\/(∃al,I l=Y (.cP al)/\al.length<=c5/\∀D,Upd I D l (.cP<|hi k u al)->ad D)
 |.ref l,.str x=>∃al,I l=Y (.fQ al)/\al.length<=c5/\∀D,Upd I D l (.fQ<|hi x u al)->ad D
 |_,_=>False
variable{a0:Array bt}
theorem VS (ap:s.heap.get? a=Y (listOf a0 b))(h0:0<=pt)(d:pt<2^63)(aX:pt<a0.size) (g:gs () {s with heap:=s.heap.update a (Ah (·.setIfInBounds pt.toNat v))}):b7 c.M b5 (setItem (.ref a) (.int pt kd) v) gs E s:=by
 have c3:=fW ap;unfold setItem;try with_reducible refine wb ?_
 first|refine cc (dD ?_)|skip
 refine cc<|wpAny_sequenceKey c3.typeIs (by decide) ?_;refine cc<|wpAny_callSpecial?_slot (name:=Aj "__setitem__") c3.typeIs Ak<|wpAny_call_entry Ak c3.typeIs entry_list_setitem ?_<|args_list_setitem _ _ _;refine(?_:b7 _ _ (Je (.int pt kd)>>=_) _ _ s);refine cc<|wpAny_listSubscript_int (fitsIndex_of h0 d) ?_;clear d;obtain⟨j,rfl⟩:=oU h0;have bu:j<a0.size:=by exact bH (.lt aa ab) [.Lt (.c aa)<|.c ab] aX
 have m:a0[j]?=Y a0[j]:=vV bu;refine(?_:b7 _ _ ((seqItemAt a j>>=λr=>pure (r.map (j, ·)))>>=_) _ _ s);refine cc<|cc<|wpAny_seqItemAt ap rfl<|dD ?_;refine J m<|(?_:b7 _ _ (setSeqItemAt a j v>>=_) _ _ s);refine cc<|wpAny_setSeqItemAt ap rfl ?_;first
  |exact cc<|dD<|dD<|bj .none rfl<|dD g
  |exact dD ⟨.none,rfl,dD g⟩
variable{aZ:aI->Prop}
theorem Wm {lE:bt}(S:bz c I s)(aO:ar.is ee)(a4:aS.is lE)(aU:u.is v)(C:sO ar aS u aZ I) (g:∀Z aH,bz c Z aH->(∀own,bO own I s Z aH)->aZ Z->gs () aH):b7 c.M b5 (setItem ee lE v) gs E s:=by
 cases ar<;>try exact C.elim
 refine J aO ?_;rename_i l;cases aS<;>try exact C.elim
 ·rename_i k;refine gC (a4) λt a7=>J a7 ?_;rcases C with bo|bo
  ·refine q0 bo λus ak h0 an aq X=>?_;clear bo;refine dT (S.rep _ _ ak) λd a3 e aS=>?_;have ap:us.length=d.size:=by exact J aS.length<|J eN rfl
   refine VS e h0 (mu (.Lt bh<|.k 9223372036854775808) [.Lt bh<|.c aa,.lt aa<|.k 4611686018427387904] an aq) (jQ (.Lt bh<|.c aa) [.Lt bh<|.c ab,.eq ab aa] an ap) ?_;obtain⟨aB,a7⟩:=yi e (·.setIfInBounds k.toNat v);exact g _ _ (S.upd (t:=s.toks) (q:=.list<|us.set k.toNat u) (te ..) ak<|fv _ aB a7<|aS.VL aU) (λown=> .upd (te ..) ak ⟨_,a7⟩)<|X _ rfl
  ·refine d8 bo λal ak aq X=>?_;clear bo;refine a9 (S.rep _ _ ak) λau D f=>wpAny_setItem_pairs (qM k t) D (λaG aj U=>?_) (by refine bm (Gg f) ?_;exact aq);have bd:=aj;refine fi bd λcm q q bv q=>?_;clear bd;exact g _ _ (S.upd (t:=s.toks+1) (q:=.cP<|hi k u al) U ak<|bj _ aj<|Gh aU f) (λown=> .upd U ak ⟨_,bv⟩)<|X _ rfl
 ·rename_i k;refine gC (a4) λt a7=>J a7<|d8 C λal ak aq X=>?_;clear C;refine a9 (S.rep _ _ ak) λau D f=>wpAny_setItem_pairs (sA k t) D (λaG aj U=>?_) (by refine bm (Gg f) ?_;exact aq);have bd:=aj;refine fi bd λcm q q bv q=>?_;clear bd;exact g _ _ (S.upd (t:=s.toks+1) (q:=.fQ<|hi k u al) U ak<|bj _ aj<|Gh aU f) (λown=> .upd U ak ⟨_,bv⟩)<|X _ rfl
set_option tactic.hygienic false
abbrev kL (R:aP):aP:=λk ai S I=>pG S λi o S=>dC S λu S=>sO o i u (λZ=>R k ai S Z) I
theorem Ql (C:bP c b aw nm aM aY)(aO:bP c b aw nm cI c7)(a4:bP c b aw nm value Cl)(U:∀ag,j3 aM (Y<|.Subscript cI value dl) pos.line ag=pure false):fo c b aw nm (.Assign [.Subscript cI value dl] aM pos) λR=>aY (c7<|Cl<|kL R):=by refine⟨λW ag ai I s R j E aQ q h F S af=>?_⟩;refine wpAny_Assign_Subscript (b0 (C.r W ag ai I s _ _ [] E aQ h F S af) (λv be A=>cS A λu ay aU H av aZ=>?_) λq q aM=>aM)<|U ag;have bC:=F.cy av;refine b0 (aO.r W ag ai ay be _ _ _ E aQ h bC H aZ) (λB n A=>cS A λcI aN aO p a3 O=>?_) λq q aM=>aM;have bg:=bC.cy a3;refine b0 (a4.r W ag ai aN n _ _ _ E aQ h bg p O) (λlE aP A=>cS A λvalue M a4 aJ K aV=>?_) λq q aM=>aM;have bF:=bg.cy K;exact Wm aJ aO a4 aU aV λZ aH au D X=>gr (k:=.next) rfl (bF.cy<|D cX) au (((av.trans a3).trans K).g1.trans<|D _) X
noncomputable def mE (lo a4:Nat)(b6 us:List av):List av:=us.take lo++b6++us.drop (max lo a4)
noncomputable def gN (len:Nat)(lo a4:Option Int):Nat×Nat:=(lo.elim 0<|mN len,a4.elim len<|mN len)
variable{k4:Option Int}
theorem VT (ap:s.heap.get? ae=Y (listOf a0 e))(hm:s.heap.get? cl=Y (listOf aj t))(y:ae≠cl) (U:s.heap.IsSliceOf N v ee .none)(cY:IsPart v mp)(ak:IsPart ee k4)(aq:a0.size+aj.size<=c5) (g:gs () {s with heap:=s.heap.update ae (Ah λQ=>Q.extract 0 (gN a0.size mp k4).1++aj++Q.extract (max (gN a0.size mp k4).1 (gN a0.size mp k4).2) Q.size)}):b7 c.M b5 (setItem (.ref ae) (.ref N)<|.ref cl) gs E s:=by
 have c3:=fW ap;refine d8 (id U) λos u aY d=>?_;have f:s.TypeIs (.ref N) "slice":=(bj os u aY);have h:s.TypeIs (.ref cl) "list":=(bj _ hm rfl);unfold setItem;try with_reducible refine wb ?_
 first|refine cc (dD ?_)|skip
 refine cc<|wpAny_sequenceKey c3.typeIs (by decide) ?_;refine cc<|wpAny_callSpecial?_slot (name:=Aj "__setitem__") c3.typeIs Ak<|wpAny_call_entry Ak c3.typeIs entry_list_setitem ?_<|args_list_setitem _ _ _;refine(?_:b7 _ _ (Je (.ref N)>>=_) _ _ s);refine cc ?_;unfold Je;refine cc<|wpAny_specialOf f slice_no_index ?_;simp only[Option.isNone_none,if_true];refine dD<|(?_:b7 _ _ (typeOf (.ref N)>>=_) _ _ s);refine cc<|wpAny_typeOf f ?_;refine J (if_neg<|by decide)<|J (listSliceParts_eq _)<|cc<|cc<|oV u d (x:=.none) rfl<|cc<|wpAny_listPart .none ?_;refine J (if_neg (Bool.false_ne_true:¬ ((rawPart am==rawInt 0)=true)))<|cc<|oV u d (x:=v) rfl<|cc<|wpAny_listPart cY ?_;refine cc<|oV u d (x:=ee) rfl<|cc<|wpAny_listPart ak<|dD ?_;have Z:XG (.ref ae) (.ref cl)=false:=by unfold XG;simpa using y
 dsimp only;refine J Z<|cc ?_;unfold Builtin.List.listAllItems;refine cc<|wpAny_typeOf h ?_;refine J (if_pos<|by decide) ?_;unfold Builtin.List.listItems;refine cc<|wpAny_seqItems hm rfl<|dD ?_;refine cc<|cc<|wpAny_seqItems ap rfl<|dD ?_;refine cc<|wpAny_of_eq (sliceIndices_raw mp k4 am a0.size<|by simp) ?_;refine J (sliceBounds_plain _ _ _) ?_;have bv:(max ((mp.elim 0 (mN a0.size):Nat):Int) ((k4.elim a0.size (mN a0.size):Nat):Int)).toNat=max (mp.elim 0<|mN a0.size) (k4.elim a0.size<|mN a0.size):=by exact uT (.eq aa ab) [.e4 ab ah az,.fE aa bh,.qj bh (.c ah)<|.c az] rfl rfl rfl
 dsimp only;refine J (if_pos<|by decide)<|J bv<|J (XH _)<|cc<|wpAny_rule ?_;refine J (if_neg<|by simp[I8];exact ch (.le (.a aa ab) ah) [.le (.a aa ab) ah] aq) ?_;unfold Builtin.List.listUpdate;dsimp only;have ar:∀a b:Nat,(a0.extract 0 a++aj++a0.extract (max a b) a0.size).size<=c5+1:=λa b=>by simp only[Array.size_append,Array.size_extract];exact RS (.le (.a (.a aa ab) ah)<|.a az aC) [.le (.a a8 ab) az,.sub ah bS dQ,.e4 dQ ht n7,.cN bS a8 a8,.sub aa ql b1,.cN ql ht a8] aq rfl rfl rfl rfl rfl
 refine cc<|wpAny_updateSeq ap rfl ?_ (ch (.le aa ab) [.le (.a aa ah) ab] aq)<|ar _ _;refine cc<|wpAny_letGo ?_;exact dD<|bj .none rfl<|dD g
theorem Q4 (i:cj us aj.toList)(j:cj b6 a0.toList)(a b:Nat):cj (mE a b b6 us) (aj.extract 0 a++a0++aj.extract (max a b) aj.size).toList:=by
 unfold mE;simp only[Array.toList_append,Array.toList_extract];have C:=((i.take a).append j).append<|i.drop<|max a b;have e:aj.toList.extract (max a b) aj.size=aj.toList.drop (max a b):=by exact J XI<|ik (by simp)
 refine J e ?_;simpa[XI] using C
abbrev qH (ff b:Bool)(R:aP):aP:=λk ai S I=>pH b S λa4 S=>pH ff S λlo S=>pG S λo u S=>gT o λl=>gT u λm=>∃us b6,l≠m/\I l=Y (.list us)/\I m=Y (.list b6)/\us.length+b6.length<=c5/\ ∀D,Upd I D l (.list<|mE (gN us.length lo a4).1 (gN us.length lo a4).2 b6 us)->R k ai S D
theorem Qg {aW:Option Expr}{cM:bq}(C:bP c b aw nm aM aY)(aO:bP c b aw nm cI c7)(ap:k6 c b aw nm jm Cl)(aU:k6 c b aw nm aW cM) (U:∀ag,j3 aM (Y<|.Subscript cI (.Slice jm aW am dl) fp) pos.line ag=pure false):fo c b aw nm (.Assign [.Subscript cI (.Slice jm aW am dl) fp] aM pos) λR=>aY (c7<|Cl<|cM<|qH jm.isSome aW.isSome R):=by
 refine⟨λW ag ai I s R j E aQ q h F S af=>?_⟩;refine wpAny_Assign_Subscript (b0 (C.r W ag ai I s _ _ [] E aQ h F S af) (λv be A=>cS A λu ay e H av aZ=>?_) λq q aM=>aM)<|U ag;have bC:=F.cy av;refine b0 (aO.r W ag ai ay be _ _ _ E aQ h bC H aZ) (λB n A=>cS A λcI aN aC p a3 O=>?_) λq q aM=>aM;have bg:=bC.cy a3;refine wpAny_Slice<|b0 (ap.r W ag ai aN n _ _ _ E aQ h bg p O) (λeM aP A=>gZ A λlo M cY aJ K X aV=>?_) λq q aM=>aM;have bF:=bg.cy K;refine b0 (aU.r W ag ai M aP _ _ _ E aQ h bF aJ aV) (λw ad A=>gZ A λa4 bz ak aT bn Z bc=>?_) λq q aM=>aM;refine bA λco aB=>a9 (f3<|vl (P:=λlo S=>pG S λcI u S=>gT cI λl=>gT u λm=>∃us b6,l≠m/\bz l=Y (.list us)/\bz m=Y (.list b6)/\us.length+b6.length<=c5/\∀D,Upd bz D l (.list<|mE (gN us.length lo a4).1 (gN us.length lo a4).2 b6 us)->R ⟨c,b,j⟩ ai S D) X<|vl Z bc) λl L T=>dr (f3 T) λm bG=>dF bG λG ax=>fc ax λus b6 N=>gy N λy c9 er aq bc=>aB ?_;have a2:=bF.cy bn;refine J (Af _)<|dD ?_;replace aC:=L▸aC;replace e:=G▸e;refine J aC ?_;refine J e ?_;have a5:=aT.push {cls:=.type "slice",data:=.fields #[eM,w,.none]};have bv:=a2.cy<|bO.push (own:=cX) (I:=bz) (s:=ad) {cls:=.type "slice",data:=.fields #[eM,w,.none]};refine dT (a5.rep _ _ c9) λaj k aM i=>dT (a5.rep _ _ er) λg aB a7 f=>?_;have aE:us.length=aj.size:=by exact J i.length<|J eN rfl
 have d:b6.length=g.size:=by exact J f.length<|J eN rfl
 refine VT (s:={ad with heap:=ad.heap.push {cls:=.type "slice",data:=.fields #[eM,w,.none]}}) aM a7 y (Jc ..) cY ak (de (.le (.a aa ab) ah) [.le (.a az a8) ah,.eq az aa,.eq a8 ab] aq aE d) ?_;obtain⟨V,o⟩:=yi aM λQ=>Q.extract 0 (gN aj.size lo a4).1++g++Q.extract (max (gN aj.size lo a4).1 (gN aj.size lo a4).2) Q.size;have x:=Q4 i f (gN us.length lo a4).1 (gN us.length lo a4).2;rw[aE] at x bc;have aF:∀own,bO own bz _ (bz.set l<|.list<|mE (gN aj.size lo a4).1 (gN aj.size lo a4).2 b6 us) _:=λown=> (bO.push (own:=own) (I:=bz) (s:=ad) {cls:=.type "slice",data:=.fields #[eM,w,.none]}).trans<|bO.upd (t:=ad.toks) (q:=.list<|mE (gN aj.size lo a4).1 (gN aj.size lo a4).2 b6 us) (te ..) c9 ⟨_,o⟩;exact gr (k:=.next) rfl (a2.cy<|aF cX) (a5.upd (t:=ad.toks) (q:=.list<|mE (gN aj.size lo a4).1 (gN aj.size lo a4).2 b6 us) (te ..) c9<|fv _ V o x) ((((av.trans a3).trans K).trans bn).g1.trans<|aF _)<|bc _ rfl
set_option tactic.hygienic true
theorem bz.grow (S:bz c I s)(k:∀b o,s.heap.get? b=Y o->aG.get? b=Y o):bz c I {s with heap:=aG,toks:=t}:= ⟨λb o e=>k b o<|S.keep b o e,λb o e=>(S.rep b o e).mono λcm X=>k b cm X,S.new,S.gens,S.os⟩
theorem bO.grow (k:∀b o,s.heap.get? b=Y o->aG.get? b=Y o):bO aJ I s I {s with heap:=aG,toks:=t}:= ⟨λ_ _ _ _ g=>k _ _ g,λ_ o g=>⟨o,k _ _ g⟩,λ_ _ _ e=>e⟩
theorem bz.sd {o:O}(S:bz c I s)(k:∀b o,s.heap.get? b=Y o->aG.get? b=Y o)(C:lZ c aG s.heap.objs.size o):bz c (I.set s.heap.objs.size o) {s with heap:=aG,toks:=t}:=by
 refine⟨λb q e=>k b q<|S.keep b q e,λb q e=>?_,λb q e=>?_,S.gens,S.os⟩
 ·by_cases X:b=s.heap.objs.size
  ·subst X;replace e:=(aI.set_same _ _ _)▸e;cases e;exact C
  ·replace e:=(aI.hl _ _ _ X)▸e;exact(S.rep b q e).mono λcm X=>k b cm X
 ·by_cases X:b=s.heap.objs.size
  ·refine J X ?_;cases a7:c.base.get? s.heap.objs.size with
   |none=>rfl
   |some a=>exact absurd (im<|S.keep _ _ a7)<|nY _
  ·replace e:=(aI.hl _ _ _ X)▸e;exact S.new b q e
theorem bO.sd (o:O)(k:∀b o,s.heap.get? b=Y o->aG.get? b=Y o):bO aJ I s (I.set s.heap.objs.size o) {s with heap:=aG,toks:=t}:= ⟨λ_ _ _ _ g=>k _ _ g,λ_ o g=>⟨o,k _ _ g⟩,λa _ g e=>by refine J (aI.hl _ _ _<|lQ<|im g) ?_;exact e⟩
theorem r6 (x:tv C.objs.size C aG):∀b o,C.get? b=Y o->aG.get? b=Y o:=λb o e=>x b o (lQ<|im e) e
theorem oA {aE:O}(a1:c.Ok)(S:bz c I s)(C:I a=Y aE):(a==sysModules)=false:=by apply beq_eq_false_iff_ne.mpr;rintro rfl;obtain⟨q,e⟩:=a1.mods;replace e:=(S.new _ _ C)▸e;exact bX e
noncomputable def pN:List Nat->List V->List V->List V
 |i::is,u::us,ai=>pN is us<|ai.set i u
 |_,_,ai=>ai
def Binds (c:cG)(ag:Env):List (bt->Sem Unit)->List Str->Prop
 |[],[]=>True
 |f::cI,x::Q=>(∀(W:eO) (E:bt->bZ->Prop) (s:bZ) (v:bt) (P:Unit->bZ->Prop),b7 c.M W (storeName ag x v) P E s->b7 c.M W (f v) P E s)/\Binds c ag cI Q
 |_,_=>False
def mU (nm:List Str):List Nat->List Str->Prop
 |[],[]=>True
 |i::is,x::Q=>nm[i]?=Y x/\mU nm is Q
 |_,_=>False
theorem zo {a:List (bt->Sem Unit)}:∀{is:List Nat} {Q:List Str} {us:List V} {aj:List bt} {ai:List V} {s:bZ} {ad:Unit->bZ->Prop},fy c ag aw nm->cH ag nm ai I s.heap->bz c I s->Binds c ag a Q->mU nm is Q->
 us.length=is.length->cj us aj->(∀aH,cH ag nm (pN is us ai) I aH.heap->bz c I aH->bO (Own ag) I s I aH->ad () aH)->b7 c.M b5 (assignInOrder a aj) ad E s:=by
 induction a with
 |nil=>
  intro is Q us aj ai s ad h F S aA aK ap a6 C;cases Q with
  |cons=>exact aA.elim
  |nil=>cases is with
   |cons=>exact aK.elim
   |nil=>cases us with
    |cons=>cases ap
    |nil=>cases aj with
     |cons=>exact a6.elim
     |nil=>exact dD<|C s F S .refl
 |cons f a B=>
  intro is Q us aj ai s ad h F S aA aK ap a6 C;cases Q with
  |nil=>exact aA.elim
  |cons x Q=>cases is with
   |nil=>exact aK.elim
   |cons i is=>cases us with
    |nil=>cases ap
    |cons u us=>cases aj with
     |nil=>exact a6.elim
     |cons v aj=>refine(?_:b7 c.M b5 (do o2 aj (f v);assignInOrder a aj) ad E s);refine cc<|wb<|aA.1 _ _ _ _ _<|q7 h F S aK.1 a6.1 λaH ak au D=>?_;exact B h ak au aA.2 aK.2 (by simpa using ap) a6.2 λg b d e=>C g b d<|D.trans e
theorem KP:∀{cI:List (bt->Sem Unit)} {Q:List Str},Binds c ag cI Q->cI.length=Q.length:=by
 intro D;induction D with
 |nil=>
  intro f;cases f with
  |nil=>intro o;exact rfl
  |cons h j=>intro C;exact C.elim
 |cons e i B=>
  intro f;cases f with
  |nil=>intro C;exact C.elim
  |cons h j=>intro C;exact J fe<|J fe<|J (B C.2) rfl
theorem wP:∀{is:List Nat} {Q:List Str},mU nm is Q->is.length=Q.length:=by
 intro D;induction D with
 |nil=>
  intro f;cases f with
  |nil=>intro o;exact rfl
  |cons h j=>intro C;exact C.elim
 |cons e i B=>
  intro f;cases f with
  |nil=>intro C;exact C.elim
  |cons h j=>intro C;exact J fe<|J fe<|J (B C.2) rfl
abbrev gw (is:List Nat)(R:aP):aP:=λk ai S I=>dC S λu S=>gT u λt=>∃us,I t=Y (.tup us)/\us.length=is.length/\R k (pN is us ai) S I
variable{ij:Pos}{sn:List Str}
theorem Qn (is:List Nat)(C:bP c l aw nm aM aY)(U:∀ag,Jg [.Tuple al b ij] aM pos.line ag=pure false)(aR:∀ag,ag.scope=aw->nM [.Tuple al b ij] aM ag=pure am) (a4:mU nm is sn)(aA:∀ag,Binds c ag ((rn al ag).map (·.2)) sn)(hf:∀ag,(rn al ag).findIdx? (·.1)=am):fo c l aw nm (.Assign [.Tuple al b ij] aM pos) λR=>aY (gw is R):=by
 refine⟨λW ag ai I s R j E aQ q h F S af=>?_⟩;refine Assign_Tuple (b0 (C.r W ag ai I s _ _ [] E aQ h F S af) (λv be A=>cS A λu ay aU H av g=>?_) λ_ _ aM=>aM) (U ag)<|aR ag h.dv;refine bA λco aB=>ig (f3 g) λt L us bd ap aZ=>?_;clear g;subst L;clear A;cases aU;refine dT (H.rep _ _ bd) λaj a3 a7 i=>aB<|(?_:b7 c.M W (do lP ij;unpack (.ref t)<|rn al ag) _ E be);have bL:(rn al ag).length=aj.size:=by have:=KP<|aA ag;rw[fx] at this;exact J this<|bm (wP a4)<|bm ap<|J i.length<|J eN rfl
 refine cc<|qe<|unpack_tuple aQ.handled (kV _ a7 rfl a3 rfl) bL (hf ag) λaG he=>?_;have aF:bO cX ay be ay {be with heap:=aG}:=.grow (t:=be.toks)<|r6 he;exact zo (s:={be with heap:=aG}) h ((F.cy av).cy aF) (H.grow (t:=be.toks)<|r6 he) (aA ag) a4 ap i λaH ak au D=>gr (k:=.next) rfl ak au (((av.trans aF).g1).trans D) aZ
theorem KQ:∀{Q:List Str},Binds c ag (Q.map λx=>bindName ag x) Q:=by
 intro D;induction D with
 |nil=>exact trivial
 |cons e i B=>exact⟨λ_ _ _ _ _ C=>wpAny_bindName C,B⟩
abbrev kj (is:List Nat)(R:aP):aP:=λk ai S I=>dC S λu S=>gT u λt=>∃us,I t=Y (.tup us)/\us.length=is.length/\R k (pN is us.reverse ai) S I
theorem Qm (is:List Nat)(C:bP c l aw nm aM aY)(U:∀ag,Jg [.Tuple al b ij] aM pos.line ag=pure false)(aR:∀ag,ag.scope=aw->nM [.Tuple al b ij] aM ag=pure (Y sn)) (a4:mU nm is sn.reverse):fo c l aw nm (.Assign [.Tuple al b ij] aM pos) λR=>aY (kj is R):=by
 refine⟨λW ag ai I s R j E aQ q h F S af=>?_⟩;refine Assign_Tuple_swapped (b0 (C.r W ag ai I s _ _ [] E aQ h F S af) (λv be A=>cS A λu ay aU H av g=>?_) λ_ _ aM=>aM) (U ag)<|aR ag h.dv;refine bA λco aB=>ig (f3 g) λt L us bd ap aZ=>?_;clear g;subst L;clear A;cases aU;refine dT (H.rep _ _ bd) λaj a3 a7 i=>aB ?_;have bL:sn.length=aj.size:=by have:=wP a4;rw[qf] at this;exact bm this<|bm ap<|J i.length<|J eN rfl
 refine J bL<|unpackItems_tuple aQ.handled (kV _ a7 rfl a3 rfl) λaG he=>?_;have aF:bO cX ay be ay {be with heap:=aG}:=.grow (t:=be.toks)<|r6 he;refine zo (s:={be with heap:=aG}) h ((F.cy av).cy aF) (H.grow (t:=be.toks)<|r6 he) KQ a4 (by refine J qf ?_;exact ap) i.reverse λaH ak au D=>?_;exact gr (k:=.next) rfl ak au (((av.trans aF).g1).trans D) aZ
abbrev nr (R:aP):aP:=λk ai S I=>dC S λu S=>tH u λi=>R k ai (.int (-i)::S) I
theorem Ft (C:bP c b aw nm aM aY):bP c b aw nm (.UnaryOp .USub aM pos) λR=>aY (nr R):=by refine⟨λW ag ai I s R j T E aQ h F S af=>?_⟩;refine wpAny_UnaryOp<|b0 (C.r W ag ai I s _ _ _ E aQ h F S af) (λv be A=>cS A λu ay aU H av g=>?_) λ_ _ aM=>aM;refine a9 (jE g) λi L aZ=>?_;clear g;subst L;exact gC (aU) λt a7=>J a7<|P.neg_int<|g2 (H.tok _) (av.trans<|.tok _) aZ
def qu (us:List V)(ad:V->aI->Prop)(I:aI):Prop:=m2 us λo=>match o with
 |.ref l=>∃us,(I l=Y (.list us)\/I l=Y (.tup us))/\us.length<2^62/\ad (.int us.length) I
 |.str x=>x.length<2^62/\ad (.int x.length) I
 |_=>False
theorem Li:fZ c b (.builtin "len") qu:=by
 intro W I s ad E us aj aQ S bb af;refine bA λco aB=>cS (m3 af bb) λo B bh bt aO n=>?_;subst bh;subst bt;refine aB ?_;clear af bb;cases o<;>try exact n.elim
 ·rename_i x;refine gC (aO) λt a7=>J a7 ?_;obtain⟨aq,X⟩:=n;exact call_len_gives (typeIs_str s x t) F.slot_str_len F.entry_str_len (F.args_str_len_1 _) (gives_str_len x t) (gb<|.hY (.c aa) b1) (cK (.iQ (.k 9223372036854775808)<|.c aa) [.lt aa<|.k 4611686018427387904] aq)<|g2 (S.tok _) (.tok _) X
 ·refine d8 n λus C aq X=>?_;clear n;refine J aO ?_;rcases C with C|C
  ·refine dT (S.rep _ _ C) λd k e i=>?_;have ap:us.length=d.size:=by exact J i.length<|J eN rfl
   exact call_len_list (fW e) (bH (.Lt (.c aa)<|.k 9223372036854775808) [.lt ab<|.k 4611686018427387904,.eq ab aa] aq ap)<|bm ap<|g2 (S.tok _) (.tok _) X
  ·refine dT (S.rep _ _ C) λd k e i=>?_;have ap:us.length=d.size:=by exact J i.length<|J eN rfl
   exact PyProof.Rows.len_tuple (items:=d) (kV _ e rfl k rfl) (bH (.Lt (.c aa)<|.k 9223372036854775808) [.lt ab<|.k 4611686018427387904,.eq ab aa] aq ap)<|bm ap<|g2 (S.tok _) (.tok _) X
def rR (us:List V)(ad:V->aI->Prop)(I:aI):Prop:=l6 us λu w=>iT u λa=>iT w λb=>ad (.int<|max a b) I
theorem Ir {P:Int->Int->Prop}(af:l6 us λu w=>iT u λa=>iT w λb=>P a b)(bb:cj us bs):∃a b t F,bs=[.int a t,.int b F]/\P a b:=by refine bA λco aB=>oD (l7 af bb) λu w x y aD O aU aR n=>?_;subst aD;subst O;refine a9 (jE n) λa h A=>?_;clear n af bb;subst h;refine a9 (jE A) λb h X=>?_;subst h;obtain⟨t,rfl⟩:=aU;obtain⟨F,rfl⟩:=aR;exact aB<|⟨a,b,t,F,rfl,X⟩
theorem Lk:fZ c e (.builtin "max") rR:=by
 intro W I s ad E us aj aQ S bb af;refine bA λco aB=>hh (Ir af bb) λa b t u bG=>dF bG λaD X=>?_;clear bb;subst aD;refine aB<|max_two_ints aQ.handled λaG cr an=>?_;split
 ·rename_i C;replace X:=(oY<|rA C)▸X;exact g2 (S.grow an) (.grow an) X
 ·rename_i C;replace X:=(p5<|il.mp C)▸X;exact g2 (S.grow an) (.grow an) X
def cAbs (us:List V)(ad:V->aI->Prop)(I:aI):Prop:=m2 us λu=>iT u λa=>ad (.int a.natAbs) I
theorem K9:fZ c b (.builtin "abs") cAbs:=by intro W I s ad E us aj aQ S bb af;refine bA λco aB=>cS (m3 af bb) λo B bh bt aO n=>?_;subst bh;subst bt;refine a9 (jE n) λa h X=>?_;clear n af bb;subst h;obtain⟨t,rfl⟩:=aO;refine aB ?_;replace X:=(by split<;>lia:(a.natAbs:Int)=if a<0 then-a else a)▸X;exact call_abs_int λu cr=>g2 (S.tok _) (.tok _) X
def pc (us:List V)(ad:V->aI->Prop)(I:aI):Prop:=m2 us λu=>match u with
 |.str x=>x.length=1/\ad (.int (x.cps.getD 0 0:Nat)) I
 |_=>False
theorem Lm:fZ c b (.builtin "ord") pc:=by
 intro W I s ad E us aj aQ S bb af;refine bA λco aB=>cS (m3 af bb) λo B bh bt aO n=>?_;subst bh;subst bt;refine aB ?_;clear af bb;cases o<;>try exact n.elim
 exact gC (aO) λt a7=>J a7<|ord_of_one n.1<|g2 (S.tok _) (.tok _) n.2
def m8 (us:List V)(ad:V->aI->Prop)(I:aI):Prop:=m2 us λo=>j8 o λl=>∃us,(I l=Y (.list us)\/I l=Y (.tup us))/\us.length<=c5/\∀a D,dI I D a (.list us)->ad (.ref a) D
theorem Lj:fZ c b (.type "list") m8:=by
 intro W I s ad E us aj aQ S bb af;refine bA λco aB=>cS (m3 af bb) λo B bh bt aO n=>?_;subst bh;subst bt;refine ig (f3 n) λl h us C aq X=>?_;clear n af bb;subst h;refine aB<|J aO ?_;rcases C with C|C
 ·refine dT (S.rep _ _ C) λd k e i=>?_;have ap:us.length=d.size:=by exact J i.length<|J eN rfl
  exact call_list_seq l (.inl rfl) e rfl rfl (λaG a an aX=>lF (S.sd (t:=s.toks) (o:=.list us) an<|fv d a aX i) (.sd (t:=s.toks) _ an)<|X _ _ ⟨S.kU,rfl⟩)<|ch (.le aa ab) [.le ah ab,.eq ah aa] aq ap
 ·refine dT (S.rep _ _ C) λd k e i=>?_;have ap:us.length=d.size:=by exact J i.length<|J eN rfl
  exact call_list_seq l (.inr rfl) e rfl rfl (λaG a an aX=>lF (S.sd (t:=s.toks) (o:=.list us) an<|fv d a aX i) (.sd (t:=s.toks) _ an)<|X _ _ ⟨S.kU,rfl⟩)<|ch (.le aa ab) [.le ah ab,.eq ah aa] aq ap
set_option tactic.hygienic false
variable{gk:Bool}
section
set_option tactic.hygienic true
open PySem PySem.W PySem.Calls PyProof.Rows PySem.SeqAt PySem.SeqAt
theorem str_beq (x y:Str):(x.cps.toList==y.cps.toList)=(x==y):=by obtain⟨a⟩:=x;obtain⟨b⟩:=y;refine mJ Al ?_;simp only[beq_iff_eq,Str.mk.injEq];exact⟨λC=>by cases a;cases b;simpa using C,λC=>by exact J C rfl⟩
inductive ew (I:aI):Nat->V->V->Bool->Prop
 |int {k:Nat} (i j:Int):ew I k (.int i) (.int j) (i==j)
 |str {k:Nat} (i j:Str):ew I k (.str i) (.str j) (i==j)
 |none {k:Nat}:ew I k .none .none true
 |same {k:Nat} {a:Addr} {us:List V} (ak:I a=Y (.list us)):ew I (k+1) (.ref a) (.ref a) true
 |len {k:Nat} {a b:Addr} {us b6:List V} (bw:a≠b) (ak:I a=Y (.list us)) (ao:I b=Y (.list b6)) (ap:us.length≠b6.length):ew I (k+1) (.ref a) (.ref b) false
 |list {k:Nat} {a b:Addr} {us b6:List V} (e:Nat->Bool) (bw:a≠b) (ak:I a=Y (.list us)) (ao:I b=Y (.list b6)) (ap:us.length=b6.length) (he:∀j u w,us[j]?=Y u->b6[j]?=Y w->ew I k u w (e j)):ew I (k+1) (.ref a) (.ref b) ((pX us.length).all e)
 |tup {k:Nat} {a b:Addr} {us b6:List V} (e:Nat->Bool) (bw:a≠b) (ak:I a=Y (.tup us)) (ao:I b=Y (.tup b6)) (ap:us.length=b6.length) (he:∀j u w,us[j]?=Y u->b6[j]?=Y w->ew I k u w (e j)):ew I (k+1) (.ref a) (.ref b) ((pX us.length).all e)
theorem ew.sF (e:Nat->Bool)(bw:a≠ae)(ak:I a=Y (.list us))(ao:I ae=Y (.list b6))(ap:us.length=b6.length)(he:∀j u w,us[j]?=Y u->b6[j]?=Y w->ew I l u w (e j))(ax:cL=(pX us.length).all e):ew I (l+1) (.ref a) (.ref ae) cL:=ax▸.list e bw ak ao ap he
theorem ew.WH (e:Nat->Bool)(bw:a≠ae)(ak:I a=Y (.tup us))(ao:I ae=Y (.tup b6))(ap:us.length=b6.length)(he:∀j u w,us[j]?=Y u->b6[j]?=Y w->ew I l u w (e j))(ax:cL=(pX us.length).all e):ew I (l+1) (.ref a) (.ref ae) cL:=ax▸.tup e bw ak ao ap he
theorem ew.of (C:ew I l ar aS cL)(e:gk=cL):ew I l ar aS gk:=e▸C
theorem E6 {c:cG}{I:aI}{s:bZ}(S:bz c I s){k:Nat}{u w:V}{v x:bt}{r:Bool}{W:eO}(C:ew I k u w r)(aU:u.is v)(aR:w.is x)(aQ:W.units+k<cLine):EqAt W s v x r/\(∀a b,u=.ref a->w=.ref b->RcAt W s v x r/\RcNeAt W s v x (!r)):=by
 have h:∀{k:Nat} {W:eO} {us b6:List V} {aj Q:Array bt} {e:Nat->Bool},W.units+(k+1)<cLine->cj us aj.toList->cj b6 Q.toList->(∀j u w,us[j]?=Y u->b6[j]?=Y w->∀{v x:bt} {W:eO},u.is v->w.is x->W.units+k<cLine->EqAt W s v x (e j)/\(∀a b,u=.ref a->w=.ref b->RcAt W s v x (e j)/\RcNeAt W s v x (!(e j))))-> ∀j (ak:j<aj.size) (ao:j<Q.size),EqAt W.in1 s aj[j] Q[j] (e j):=by
  intro k W us b6 aj Q e aQ i f he j ak ao;have p:j<us.length:=by refine J i.length<|J eN ?_;exact ak
  have y:j<b6.length:=by refine J f.length<|J eN ?_;exact ao
  refine a9 (i.get<|eu p) λv bv P=>a9 (f.get<|eu y) λx bE ai=>?_;replace bv:=(vV ak)▸kv▸bv;replace bE:=(vV ao)▸kv▸bE;cases bv;cases bE;exact(he j _ _ (eu p) (eu y) P ai<|by refine(?_:W.units+1+k<cLine);exact ch (.lt (.a (.a aa aC) ab) ah) [.lt (.a aa<|.a ab aC) ah] aQ).1
 induction C generalizing v x W with
 |int=>obtain⟨t,rfl⟩:=aU;obtain⟨F,rfl⟩:=aR;exact⟨(MeetsSeq.EqGives.int _ _ _ _).at _ _,λq q e=>by cases e⟩
 |str=>obtain⟨t,rfl⟩:=aU;obtain⟨F,rfl⟩:=aR;exact⟨(eqGives_str _ _ _ _).at _ _,λq q e=>by cases e⟩
 |none=>refine J aU ?_;refine J aR ?_;exact⟨.same _,λq q e=>by cases e⟩
 |same ak=>
  refine J aU ?_;refine J aR ?_;have o:∀m:Nat,(pX m).all (λq=>true)=true:=λm=>by simp
  refine dT (S.rep _ _ ak) λaj a3 g i=>⟨.same _,λq q q q=>⟨?_,?_⟩⟩
  ·have:=RcAt.lists (A:=W) (fW g) (fW g) rfl (ch (.lt aa ab) [.lt (.a aa<|.a ah aC) ab] aQ) (e:=λq=>true) λj q q=> .same _;rwa[o] at this
  ·have:=RcNeAt.lists (A:=W) (fW g) (fW g) rfl (ch (.lt aa ab) [.lt (.a aa<|.a ah aC) ab] aQ) (e:=λq=>true) λj q q=> .same _;rwa[o] at this
 |len bw ak ao ap=>
  refine J aU ?_;refine J aR ?_;refine dT (S.rep _ _ ak) λaj a3 g i=>dT (S.rep _ _ ao) λQ l d f=>?_;have ar:(aj.size !=Q.size)=true:=by refine bm eN<|bm i.length<|bm eN<|bm f.length ?_;simpa using ap
  have R:=RcAt.lists_lengths (A:=W) (fW g) (fW d) ar<|ch (.lt aa ab) [.lt (.a aa<|.a ah aC) ab] aQ;exact⟨.of_refs bw R,λq q q q=>⟨R,RcNeAt.lists_lengths (fW g) (fW d) ar<|ch (.lt aa ab) [.lt (.a aa<|.a ah aC) ab] aQ⟩⟩
 |@list _ _ _ us b6 e bw ak ao ap q he=>
  refine J aU ?_;refine J aR ?_;refine dT (S.rep _ _ ak) λaj a3 g i=>dT (S.rep _ _ ao) λQ l d f=>?_;have a6:us.length=aj.size:=by exact J i.length<|J eN rfl
  have aL:b6.length=Q.size:=by exact J f.length<|J eN rfl
  refine J a6 ?_;have R:=RcAt.lists (A:=W) (fW g) (fW d) (cn (.eq aa ab) [.eq ah az,.eq ah aa,.eq az ab] ap a6 aL) (ch (.lt aa ab) [.lt (.a aa<|.a ah aC) ab] aQ)<|h aQ i f he;exact⟨.of_refs bw R,λq q q q=>⟨R,RcNeAt.lists (fW g) (fW d) (cn (.eq aa ab) [.eq ah az,.eq ah aa,.eq az ab] ap a6 aL) (ch (.lt aa ab) [.lt (.a aa<|.a ah aC) ab] aQ)<|h aQ i f he⟩⟩
 |@tup _ _ _ us b6 e bw ak ao ap q he=>
  refine J aU ?_;refine J aR ?_;refine dT (S.rep _ _ ak) λaj a3 g i=>dT (S.rep _ _ ao) λQ l d f=>?_;have a6:us.length=aj.size:=by exact J i.length<|J eN rfl
  have aL:b6.length=Q.size:=by exact J f.length<|J eN rfl
  have bD:s.heap.IsTuple _ aj:=(kV _ g rfl a3 rfl);have n:s.heap.IsTuple _ Q:=(kV _ d rfl l rfl);refine J a6 ?_;have R:=RcAt.tuples (A:=W) bD n (ch (.lt aa ab) [.lt (.a aa<|.a ah aC) ab] aQ)<|h aQ i f he;have aq:=RcNeAt.tuples (A:=W) bD n (ch (.lt aa ab) [.lt (.a aa<|.a ah aC) ab] aQ)<|h aQ i f he;have bv:min aj.size Q.size=aj.size:=by exact de (.eq aa ab) [.eq ah az,.eq ah ab,.eq az a8,.cN aa ab a8] ap a6 aL rfl
  have bE:(aj.size==Q.size)=true:=by simp;exact cn (.eq aa ab) [.eq ah az,.eq ah aa,.eq az ab] ap a6 aL
  rw[bv,bE,Bool.and_true] at R aq;exact⟨.of_refs bw R,λq q q q=>⟨R,aq⟩⟩
def oEq (a b:V)(ad:V->aI->Prop)(I:aI):Prop:=match a with
 |.int i=>(match b with|.int j=>ad (.bool<|decide<|i=j) I|b=>∃k r,k<=20/\ew I k a b r/\ad (.bool r) I)
 |.str i=>(match b with|.str j=>ad (.bool<|decide<|i=j) I|b=>∃k r,k<=20/\ew I k a b r/\ad (.bool r) I)
 |a=>∃k r,k<=20/\ew I k a b r/\ad (.bool r) I
theorem TZ (C:oEq ar aS ad I):∃k r,k<=20/\ew I k ar aS r/\ad (.bool r) I:=by
 cases ar with
 |int=>cases aS with
  |int=>exact eV 0 _ (dU _) (.int _ _) C
  |_=>exact C
 |str=>cases aS with
  |str=>exact eV 0 _ (dU _) (.str _ _) C
  |_=>exact C
 |_=>exact C
inductive rF:V->V->Bool->Prop
 |none:rF .none .none true
 |int (i j:Int):rF (.int i) (.int j) (i==j)
 |str (i j:Str):rF (.str i) (.str j) (i==j)
 |ref (a b:Addr) (r:Bool):rF (.ref a) (.ref b) r
theorem ew.cs {b:V}(C:ew I e ar b cL):rF ar b cL:=by cases C<;>constructor
theorem Ug:fN c e (j2 .Eq) oEq:=by
 intro W I s ad E a b Q Z aQ S aK aA d;refine hg (TZ d) λk r an C af=>?_;have aU:W.units+k<cLine:=by have:=aQ.units;exact cn (.lt (.a aa ab) ah) [.le ab<|.k 20,.le (.a (.a aa<|.m 20 az)<|.k 100) ah] an this
 have D:=E6 S C aK aA aU;have C:=C.cs;clear d an aU;cases C with
 |none=>refine J aK ?_;refine J aA ?_;exact EqNone.eq_none_none<|fX S .refl af
 |int i j=>obtain⟨t,rfl⟩:=aK;obtain⟨F,rfl⟩:=aA;exact P.eq_int<|fX S .refl af
 |str i j=>obtain⟨t,rfl⟩:=aK;obtain⟨F,rfl⟩:=aA;exact P.eq_str<|J (str_beq _ _)<|fX S .refl af
 |ref=>exact(D.2 _ _ rfl rfl).1 _ _ _ _<|fX S .refl af
def i0 (a b:V)(ad:V->aI->Prop)(I:aI):Prop:=match a with
 |.int i=>(match b with|.int j=>ad (.bool (!decide (i=j))) I|b=>∃k r,k<=20/\ew I k a b r/\ad (.bool (!r)) I)
 |.str i=>(match b with|.str j=>ad (.bool (!decide (i=j))) I|b=>∃k r,k<=20/\ew I k a b r/\ad (.bool (!r)) I)
 |a=>∃k r,k<=20/\ew I k a b r/\ad (.bool (!r)) I
theorem T6 (C:i0 ar aS ad I):∃k r,k<=20/\ew I k ar aS r/\ad (.bool (!r)) I:=by
 cases ar with
 |int=>cases aS with
  |int=>exact eV 0 _ (dU _) (.int _ _) C
  |_=>exact C
 |str=>cases aS with
  |str=>exact eV 0 _ (dU _) (.str _ _) C
  |_=>exact C
 |_=>exact C
theorem Ur:fN c l (j2 .NotEq) i0:=by
 intro W I s ad E a b Q Z aQ S aK aA d;refine hg (T6 d) λk r an C af=>?_;have aU:W.units+k<cLine:=by have:=aQ.units;exact cn (.lt (.a aa ab) ah) [.le ab<|.k 20,.le (.a (.a aa<|.m 20 az)<|.k 100) ah] an this
 have D:=E6 S C aK aA aU;have C:=C.cs;clear d an aU;cases C with
 |none=>refine J aK ?_;refine J aA ?_;exact RcNeAt.none_none (A:=W) _ _ _ _<|fX S .refl af
 |int i j=>obtain⟨t,rfl⟩:=aK;obtain⟨F,rfl⟩:=aA;exact P.ne_int<|fX S .refl af
 |str i j=>
  obtain⟨t,rfl⟩:=aK;obtain⟨F,rfl⟩:=aA;refine P.ne_str ?_;have e:∀x y:Str,(x.cps.toList !=y.cps.toList)= !(x==y):=λx y=>by refine bm (str_beq _ _) ?_;rfl
  exact J (e _ _)<|fX S .refl af
 |ref=>exact(D.2 _ _ rfl rfl).2 _ _ _ _<|fX S .refl af
def Ge:O->V->Bool->Prop
 |.cP al,.int k,r=>r=(al.lookup k).isSome
 |.fQ al,.str k,r=>r=(al.lookup k).isSome
 |.tup us,.str x,r=>∃ss:List Str,us=ss.map .str/\r=ss.any (· ==x)
 |_,_,_=>False
theorem sB [BEq av][LawfulBEq av][DecidableEq av]{k:av}:∀{al:List (av×V)} {au:List (av×bt)},iO al au->(valueAt au k).isSome=(al.lookup k).isSome:=by
 intro D;induction D with
 |nil=>
  intro f;cases f with
  |nil=>intro o;exact rfl
  |cons h j=>intro C;exact C.elim
 |cons p al B=>
  intro f;cases f with
  |nil=>intro C;exact C.elim
  |cons e au=>
   intro g;obtain⟨ak,ao,bp⟩:=g;have B:=B bp;refine J g4 ?_;unfold valueAt at B⊢;refine J Aa<|bm ak ?_;by_cases X:k=p.1
   ·refine J X ?_;simp
   ·have P:(k==p.1)=false:=by simpa using X
    have ai:decide (p.1=k)=false:=by simpa using λe=>X e.symm
    exact J P<|J ai<|B
theorem H4 {W:eO}{t:Tok}:∀{ss:List Str} {aj:List bt},cj (ss.map .str) aj->∃e:bt->Bool,(∀y∈aj,EqAt W s y (.str w t)<|e y)/\aj.any e=ss.any (· ==w):=by
 intro ss aj C;refine(bj (λy=>match y with|.str z _=>z==w|_=>false) ?_ ?_)
 ·induction ss generalizing aj with
  |nil=>cases aj with
   |nil=>intro y L;cases L
   |cons _ _=>exact C.elim
  |cons z ss B=>cases aj with
   |nil=>exact C.elim
   |cons v aj=>
    obtain⟨⟨u,rfl⟩,ax⟩:=C;intro y L;rcases fF.mp L with rfl|L
    ·exact(eqGives_str _ _ _ _).at _ _
    ·exact B ax y L
 ·induction ss generalizing aj with
  |nil=>cases aj with
   |nil=>rfl
   |cons _ _=>exact C.elim
  |cons z ss B=>cases aj with
   |nil=>exact C.elim
   |cons v aj=>obtain⟨⟨u,rfl⟩,ax⟩:=C;exact J oS<|J oS<|J (B ax) rfl
def nw (b:Bool)(x o:V)(ad:V->aI->Prop)(I:aI):Prop:=j8 o λa=>∃cm r,I a=Y cm/\Ge cm x r/\ad (.bool<|b^^r) I
theorem Uj (a1:c.Ok):fN c b (j2 .In) (nw false):=by
 intro W I s ad E x o j B aQ S aL aO d;refine dr (f3 d) λa bG=>dF bG λbv ax=>fc ax λcm r N=>fT N λak ao af=>?_;clear d;replace aO:=bv▸aO;refine J aO ?_;have R:=S.rep _ _ ak;replace af:=(Bool.false_xor _)▸af;cases cm<;>(try exact ao.elim)<;>cases x<;>try exact ao.elim
 ·refine gC (aL) λt a7=>J a7<|a9 ao λss h bh=>?_;clear ao;replace ak:=h▸ak;replace R:=h▸R;replace af:=bh▸af;refine dT R λaj a3 g i=>?_;clear R;obtain⟨e,he,aK⟩:=H4 (W:=W.in1) (s:=s) (t:=t) i;exact in_tupleAt (items:=aj) e (kV _ g rfl a3 rfl) (λy L=>he y<|by simpa using L)<|bm Ab<|J aK<|fX S .refl af
 ·refine gC (aL) λt a7=>J a7<|a9 R λau D f=>?_;clear R;refine wpAny_in_of (qM _ t) (oA a1 S ak) D.mapOf ?_;rw[sB f,<-(ao:r=_)];exact fX (S.tok _) (.tok _) af
 ·refine gC (aL) λt a7=>J a7<|a9 R λau D f=>?_;clear R;refine wpAny_in_of (sA _ t) (oA a1 S ak) D.mapOf ?_;rw[sB f,<-(ao:r=_)];exact fX (S.tok _) (.tok _) af
theorem Ut (a1:c.Ok):fN c b (j2 .NotIn) (nw true):=by
 intro W I s ad E x o j B aQ S aL aO d;refine dr (f3 d) λa bG=>dF bG λbv ax=>fc ax λcm r N=>fT N λak ao af=>?_;clear d;replace aO:=bv▸aO;refine J aO ?_;have R:=S.rep _ _ ak;replace af:=(Bool.true_xor _)▸af;cases cm<;>(try exact ao.elim)<;>cases x<;>try exact ao.elim
 ·refine gC (aL) λt a7=>J a7<|a9 ao λss h bh=>?_;clear ao;replace ak:=h▸ak;replace R:=h▸R;replace af:=bh▸af;refine dT R λaj a3 g i=>?_;clear R;obtain⟨e,he,aK⟩:=H4 (W:=W.in1) (s:=s) (t:=t) i;exact notIn_tupleAt (items:=aj) e (kV _ g rfl a3 rfl) (λy L=>he y<|by simpa using L)<|bm Ab<|J aK<|fX S .refl af
 ·refine gC (aL) λt a7=>J a7<|a9 R λau D f=>?_;clear R;refine wpAny_notIn_of (qM _ t) (oA a1 S ak) D.mapOf ?_;rw[sB f,<-(ao:r=_)];exact fX (S.tok _) (.tok _) af
 ·refine gC (aL) λt a7=>J a7<|a9 R λau D f=>?_;clear R;refine wpAny_notIn_of (sA _ t) (oA a1 S ak) D.mapOf ?_;rw[sB f,<-(ao:r=_)];exact fX (S.tok _) (.tok _) af
def FN (I:aI)(d:Addr)(i w:V)(ad:V->aI->Prop):Prop:=match i with
 |.int k=>∃al,I d=Y (.cP al)/\ad ((al.lookup k).getD w) I
 |.str k=>∃al,I d=Y (.fQ al)/\ad ((al.lookup k).getD w) I
 |_=>False
def tQ (us:List V)(ad:V->aI->Prop)(I:aI):Prop:=wG us (λo i=>j8 o λd=>iT i λk=>FN I d (.int k) .none ad) λo i w=>j8 o λd=>FN I d i w ad
theorem xW [BEq av][LawfulBEq av][DecidableEq av]{w:V}(C:iO U au)(aR:w.is ee):((U.lookup aB).getD w).is ((valueAt au aB).getD ee):=by
 cases X:U.lookup aB with
 |some u=>obtain⟨v,e,a6⟩:=xV C X;refine J e ?_;exact a6
 |none=>
  have:=sB (k:=aB) C;rw[X] at this;cases e:valueAt au aB with
  |none=>exact aR
  |some v=>rw[e] at this;exact vy this
theorem Ld (a1:c.Ok):fZ c b (.builtin "dict.get") tQ:=by
 intro W I s ad E us aj aQ S bb af;rcases Ed af with af|af
 ·refine oD (l7 af bb) λo i B lE aD O aO a4 l=>?_;replace bb:=aD▸bb;replace af:=aD▸af;replace af:=aD▸af;refine J O ?_;refine a9 (f3 l) λd h n=>?_;subst h;refine kq (jE n) λk h al C X=>?_;subst h;exact J aO<|gC (a4) λt a7=>J a7<|a9 (S.rep _ _ C) λau D f=>call_meetsIn PySem.F.slot_dict_get D.typeIs PySem.F.entry_dict_get (PySem.F.args_dict_get_2 _ _) (meets_dict_get _ d (qM k t)<|oA a1 S C)<|bj _ D.mapOf<|jp (xW f (w:=.none) rfl) (S.tok _) (.tok _) X
 ·refine yO (wI af bb) λo i w B lE x bG=>sP bG λg j aO a4 aR l=>?_;subst g;refine J j ?_;refine a9 (f3 l) λd h n=>?_;replace aO:=h▸aO;refine J aO ?_;cases i<;>try exact n.elim
  all_goals rename_i k _;refine gC (a4) λt a7=>J a7<|a9 n λal C X=>?_;clear n;refine a9 (S.rep _ _ C) λau D f=>?_
  ·exact call_meetsIn PySem.F.slot_dict_get D.typeIs PySem.F.entry_dict_get (PySem.F.args_dict_get_3 _ _ _) (meets_dict_get_default _ d (qM k t) (oA a1 S C) x)<|bj _ D.mapOf<|jp (xW f aR) (S.tok _) (.tok _) X
  ·exact call_meetsIn PySem.F.slot_dict_get D.typeIs PySem.F.entry_dict_get (PySem.F.args_dict_get_3 _ _ _) (meets_dict_get_default _ d (sA k t) (oA a1 S C) x)<|bj _ D.mapOf<|jp (xW f aR) (S.tok _) (.tok _) X
theorem S4:n4 "dict" "get" "dict.get":=⟨F.plainAttrs_dict,PySem.F.slot_dict_get,F.type_dict_get⟩
end
set_option tactic.hygienic true
inductive Src where
 |list (r:Addr)
 |tup (r:Addr)
 |kT (a:Int)(cnt:Nat)(st:Int)
 |str (x:Str)
def lA:Src->Nat->aI->Option V->Prop
 |.list r,k,I,o=>∃us,I r=Y (.list us)/\o=us[k]?
 |.tup r,k,I,o=>∃us,I r=Y (.tup us)/\o=us[k]?
 |.kT a cnt st,k,_,o=>o=if k<cnt then Y (.int<|a+st*k) else am
 |.str x,k,_,o=>o=(x.cps[k]?).map λb=> .str ⟨#[b]⟩
structure qi (c:cG)(it:Addr)(st:Nat->Heap->Prop)(aE:Src):Prop where
 keep:∀k C aG,st k C->(∀o,C.get? it=Y o->aG.get? it=Y o)->st k aG
 live:∀k C,st k C->∃o,C.get? it=Y o
 self:∀(W:eO) (E:bt->bZ->Prop) (s:bZ) (k:Nat) (P:bt->bZ->Prop),st k s.heap->P (.ref it) s->b7 c.M W (pyIter (.ref it)) P E s
 next:∀(W:eO) (E:bt->bZ->Prop) (I:aI) (s:bZ) (k:Nat) (o:Option V) (P:Option bt->bZ->Prop),W.handled=am->bz c I s->st k s.heap->lA aE k I o->
  (match o with
   |none=>∀aG t,tv it s.heap aG->P am {s with heap:=aG,toks:=t}
   |some u=>∀v aG t,u.is v->tv it s.heap aG->st (k+1) aG->P (Y v) {s with heap:=aG,toks:=t})->b7 c.M W (pyNext (.ref it)) P E s
theorem Rd:qi c ae (λk C=>C.IsListIter ae a k) (.list a):=by
 refine⟨λk C aG A X=>a9 A λo e x=>(bj o (X o e) x),λk C A=>a9 A λo e q=>⟨o,e⟩,λq q q q q C X=>wpAny_pyIter_listiter C X,λW E I s k o P G S d A g=>a9 A λus ax aO=>?_⟩;refine dT (uJ S ax) λaj a3 bJ aV=>?_;clear A;replace g:=aO▸g;cases aL:us[k]? with
 |none=>
  replace g:=aL▸g;have a0:aj[k]?=am:=by exact bm kv<|ro.mpr (by refine bm aV.length ?_;exact ro.mp aL)
  exact wpAny_pyNext_list_end G d (fW bJ) a0 λaG he=>g aG s.toks he
 |some u=>
  replace g:=aL▸g;refine a9 (aV.get aL) λv a6 aI=>?_;have aW:aj[k]?=Y v:=by refine bm kv ?_;exact a6
  exact wpAny_pyNext_list_item d (fW bJ) aW λaG N B=>g v aG s.toks aI B.extBut N
theorem Rg:qi c ae (λk C=>C.IsTupleIter ae a k) (.tup a):=by
 refine⟨λk C aG A X=>a9 A λo e x=>(bj o (X o e) x),λk C A=>a9 A λo e q=>⟨o,e⟩,λq q q q q C X=>PySem.wpAny_pyIter_tupleiter C X,λW E I s k o P G S d A g=>a9 A λus ax aO=>?_⟩;refine dT (S.rep _ _ ax) λaj a3 bJ aV=>?_;have bD:s.heap.IsTuple a aj:=(kV _ bJ rfl a3 rfl);clear A;replace g:=aO▸g;cases aL:us[k]? with
 |none=>
  replace g:=aL▸g;have a0:aj[k]?=am:=by exact bm kv<|ro.mpr (by refine bm aV.length ?_;exact ro.mp aL)
  exact wpAny_pyNext_tuple_end G d bD a0 λaG he=>g aG s.toks he
 |some u=>
  replace g:=aL▸g;refine a9 (aV.get aL) λv a6 aI=>?_;have aW:aj[k]?=Y v:=by refine bm kv ?_;exact a6
  exact wpAny_pyNext_tuple_item d bD aW λaG N B=>g v aG s.toks aI B.extBut N
theorem Re:qi c ae (λk C=>IsRangeIter C ae (pt+st*k) (cnt -k) st) (.kT pt cnt st):=by
 refine⟨λk C aG e X=>X _ e,λk C e=>⟨_,e⟩,λq q q q q C X=>wpAny_pyIter_rangeiter C X,λW E I s k o P G S d aO g=>?_⟩;cases(aO:o=_);by_cases an:k<cnt
 ·replace g:=(if_pos an)▸g;refine wpAny_pyNext_range_item d (bH (.Lt b1<|.s (.c aa)<|.c ab) [.lt ab aa] an) λaG N B=>g _ aG _ ⟨_,rfl⟩ B.extBut ?_;have bv:pt+st*((k+1:Nat):Int)=pt+st*(k:Int)+st:=by refine J (Jh _ _)<|J (Xz _ _ _) ?_;lia
  have bE:(cnt:Int) -((k+1:Nat):Int)=(cnt:Int) -(k:Int) -1:=by exact hI<|.Eq (.s (.c aa)<|.c<|.a ab aC)<|.s (.s (.c aa)<|.c ab) aC
  refine J bv<|J bE ?_;exact N
 ·replace g:=(if_neg an)▸g;exact wpAny_pyNext_range_end G d (bH (.bW (.s (.c aa)<|.c ab) b1) [.es ab aa] an) λaG he=>g aG s.toks he
def J1 (c:cG)(I:aI)(s:bZ)(ad:Src->aI->Prop):bt->bZ->Prop:=λaP n=>∃aE it st aN,aP=.ref it/\qi c it st aE/\st 0 n.heap/\s.heap.get? it=am/\bz c aN n/\bO cX I s aN n/\aN it=am/\ad aE aN
structure qh (c:cG)(n:Nat)(sc:cC)(nm:List Str)(e:Expr)(ae:(Src->aP)->aP):Prop where
 r:∀(W:eO) (ag:Env) (ai:List V) (I:aI) (s:bZ) (R:Src->aP) (j:ja) (T:List V) (E:bt->bZ->Prop),fz W n->fy c ag sc nm->cH ag nm ai I s.heap->bz c I s->ae R ⟨c,n,j⟩ ai T I->
  b7 c.M W (eval e ag) (fun x be=>b7 c.M W (pyIter x) (J1 c I s fun aE Z=>R aE ⟨c,n,j⟩ ai T Z) E be) E s
def srcOf (u:V)(ad:Src->aI->Prop)(I:aI):Prop:=match u with
 |.ref r=>(∃us,I r=Y (.list us)/\ad (.list r) I)\/(∃us,I r=Y (.tup us)/\ad (.tup r) I)
 |.str x=>x.cps.all (· <128)=true/\ad (.str x) I
 |_=>False
abbrev fA (R:Src->aP):aP:=λk ai S I=>dC S λu S=>srcOf u (λaE Z=>R aE k ai S Z) I
abbrev ki (b:jb)(R:Src->aP):aP:=λk ai S I=>b S λus S=>mc us/\∃a cnt st,k8 us a cnt st/\R (.kT a cnt st) k ai S I
theorem Rf {t:Tok}:qi c a (λk C=>C.IsStrIter a "str_ascii_iterator" w t k) (.str w):=by
 refine⟨λk C aG A X=>a9 A λo e y=>(bj o (X o e) y),λk C A=>a9 A λo e q=>⟨o,e⟩,λq q q q q C X=>wpAny_pyIter_striter_ascii C X,λW E I s k o P G S d aO g=>?_⟩;cases(aO:o=_);cases aL:w.cps[k]? with
 |none=>replace g:=aL▸g;exact wpAny_pyNext_ascii_end G d aL λaG he=>g aG s.toks he
 |some b=>replace g:=aL▸g;exact wpAny_pyNext_ascii_item d aL λaG ao U=>g _ aG _ ⟨_,rfl⟩ U.extBut ao
theorem PL (C:bP c b aw nm aM aY):qh c b aw nm aM λR=>aY (fA R):=by
 refine⟨λW ag ai I s R j T E aQ h F S af=>?_⟩;refine b0 (C.r W ag ai I s _ _ _ E aQ h F S af) (λv be A=>cS A λu ay aU H av aZ=>?_) λq q aM=>aM;have G:s.heap.get? be.heap.objs.size=am:=by
  cases aM:s.heap.get? be.heap.objs.size with
  |none=>rfl
  |some o=>obtain⟨q,a7⟩:=av.live _ _ aM;exact absurd (im a7)<|nY _
 cases u<;>try exact aZ.elim
 ·rename_i x;obtain⟨t,rfl⟩:=aU;obtain⟨aK,af⟩:=aZ;exact wpAny_pyIter_ascii aK<|(rc _ _ _ ay rfl (Rf (t:=t)) (dj _ (kY _ rfl) rfl rfl) G (H.push _) (av.trans<|.push _) H.kU af)
 ·rename_i r;clear A;cases aU;rcases aZ with bo|bo
  ·refine a9 bo λus ax af=>?_;clear bo;exact dT (uJ H ax) λaj a3 bJ aV=>wpAny_pyIter_list (fW bJ)<|(rc _ _ _ ay rfl Rd (dj _ (kY _ rfl) rfl rfl) G (H.push _) (av.trans<|.push _) H.kU af)
  ·refine a9 bo λus ax af=>?_;clear bo;exact dT (H.rep _ _ ax) λaj a3 bJ aV=>PySem.wpAny_pyIter_tuple (items:=aj) (kV _ bJ rfl a3 rfl)<|(rc _ _ _ ay rfl Rg (dj _ (kY _ rfl) rfl rfl) G (H.push _) (av.trans<|.push _) H.kU af)
variable{hk:Pos}
theorem PK (hf:bP c b aw nm (.Name "range" hk) (aR<|.ext<|.type "range"))(aK:i9 c b aw nm al c7)(aP:mF al):qh c b aw nm (.Call (.Name "range" hk) al [] dl) λR=>c7 (ki (gm al.length []) R):=by
 refine⟨λW ag ai I s R j T E aQ h F S af=>?_⟩;refine tb<|xt hf aQ h F S λL X aB=>?_;have aJ:=F.cy aB;refine callWith_of (P:=λq=>True) (by rw[aP];rfl) (λC q=>uY λq e=>by cases e)<|t4 (aP _ _)<|b0 (aK.r W ag ai I L _ _ _ E _ aQ h aJ X af) (λaj be A=>gZ A λus ay bb H av ap aZ=>dF (nz (P:=λus S=>mc us/\∃a cnt st,k8 us a cnt st/\R (.kT a cnt st) ⟨c,b,j⟩ ai S ay) ap aZ) λd aZ=>fi aZ λa cnt st ax af=>⟨trivial,?_⟩) λq q e=>e;refine Vg aQ H bb d ax λg n v f p a3=>?_;have G:s.heap.get? g=am:=by
  cases e:s.heap.get? g with
  |none=>rfl
  |some o=>obtain⟨q,a7⟩:=(aB.trans av).live _ _ e;replace a7:=v▸a7;exact bX a7
 have aL:ay g=am:=by
  cases e:ay g with
  |none=>rfl
  |some o=>obtain⟨cm,a7⟩:=(H.rep _ _ e).there;replace a7:=v▸a7;exact bX a7
 exact(rc _ g _ ay rfl Re (by simpa using f) G p ((aB.trans av).trans a3) aL af)
def j7 (aE:Src)(i:Nat)(B:tE)(ad:kx->List V->aI->Prop)(ai:List V)(I:aI):Prop:= ∃(a8:Nat->List V->aI->Prop) (len:Nat),a8 0 ai I/\∀k ai I,a8 k ai I->k<=len/\(k=len->lA aE k I am/\ad .next ai I)/\(k<len->∃u,lA aE k I (Y u)/\B (ai.set i u) (λb d aN=>match b with
  |.next|.cont=>a8 (k+1) d aN
  |.brk=>ad .next d aN
  |.ret u=>ad (.ret u) d aN) I)
noncomputable abbrev Gc (k:KK)(ad:kx->List V->aI->Prop):KK:=⟨k.c,k.d,λu I=>ad (.ret u) [] I,λai I=>ad .next ai I,λai I=>ad .brk ai I⟩
abbrev yb (k:KK)(B:aP):tE:=λai ad I=>B (Gc k ad) ai [] I
abbrev gv (i:Nat)(B R:aP)(aE:Src):aP:=λk ai S I=>j7 aE i (yb k B) (mv k R S) ai I
variable{bL:(Src->aP)->aP}
theorem FD (i:Nat)(a4:nm[i]?=Y w)(bU:qh c l aw nm aM bL)(aA:mX c l aw nm k3 body aY)(U:∀ag v,vW aM ag v=pure v):j5 c l aw nm k3 (.For (.Name w dl) aM body [] pos) λR=>bL (gv i (aY bM) R):=by
 refine⟨λW ag ai I s R j E aQ bJ h F S af=>?_⟩;refine wpAny_For (b0 (bU.r W ag ai I s _ _ [] _ aQ h F S af) (λv be aZ=>b0 aZ (λaP n O=>?_) λq q e=>e) λq q e=>e)<|U ag;refine bA λco aB=>hh O λaE g st aN bG=>yM bG λaD P d G p a3 aL ax=>fc ax λa8 len N=>dF N λbI a7=>?_;clear O;replace aB:=aD▸aB;refine aB ?_;have bg:=F.cy a3;have bw:g∉addrs ag:=λX=>by obtain⟨o,e⟩:=F.live _ X;replace e:=G▸e;exact bX e
 have L:c.base.get? g=am:=jd S G;refine codeAny_forLoop (λm aH=>∃k B Z,m=len -k/\cH ag nm B Z aH.heap/\bz c Z aH/\bO (Own ag) I s Z aH/\Z g=am/\st k aH.heap/\a8 k B Z) ?_ len<|zG (0) ai aN rfl bg p a3.g1 aL d bI;intro m aH bo;refine sR bo λk B Z bt ak au D V bh bk=>?_;clear bo;subst bt;refine fT (a7 k B Z bk) λx bR bS=>?_;by_cases an:k<len
 ·refine a9 (bS an) λu aU Q=>P.next _ _ Z aH k (Y u) _ aQ.handled au bh aU λv aG t aI he bu=>?_;have aJ:bz c Z {aH with heap:=aG,toks:=t}:=au.ext he V L;have bF:cH ag nm B Z aG:=ak.ext he bw;have K:bO (Own ag) I s Z {aH with heap:=aG,toks:=t}:=D.ext he G;refine An<|q7 (s:={aH with heap:=aG,toks:=t}) h bF aJ a4 aI λad a2 aT bn=>?_;refine b0 (aA.r W ag _ Z ad _ _ _ aQ bJ h a2 aT Q) (λf C A=>mB A λb M bN z bv a5 aS T=>?_) λq q e=>e;have aF:=(K.trans bn).trans aS;have bT:∀X:a8 (k+1) M bN,∃m,m<len -k/\∃k B Z,m=len -k/\cH ag nm B Z C.heap/\bz c Z C/\bO (Own ag) I s Z C/\Z g=am/\st k C.heap/\a8 k B Z:=λX=>by obtain⟨o,aO⟩:=P.live _ _ bu;have y:∀o,aG.get? g=Y o->ad.heap.get? g=Y o:=λo e=>bn.ea g o (λX=>bw X) V e;have H:=bn.fresh g o aO V;have dw:∀o,ad.heap.get? g=Y o->C.heap.get? g=Y o:=λo e=>aS.ea g o (λX=>bw X) H e;exact(⟨(len -(k+1)),(cn (.lt aa ab) [.lt ah az,.sub aa az<|.a ah aC,.sub ab az ah] an rfl rfl),(k+1),M,bN,rfl,bv,a5,aF,(aS.fresh g o (y o aO) H),(P.keep _ _ _ bu λo e=>dw o<|y o e),X⟩)
  cases b with
  |next=>refine J z ?_;exact bT T
  |cont=>exact T.elim
  |brk=>exact T.elim
  |ret u=>obtain⟨v,rfl,a6⟩:=z;exact gr (k:=.ret u) (bj v rfl a6) bv a5 aF T
 ·have bp:k=len:=by exact bH (.eq aa ab) [.le aa ab,.es aa ab] x an
  obtain⟨bx,ap⟩:=bR bp;exact P.next _ _ Z aH k am _ aQ.handled au bh bx λaG t he=>qd<|gr (k:=.next) (aH:={aH with heap:=aG,toks:=t}) rfl (ak.ext he bw) (au.ext (t:=t) he V L) (D.ext (t:=t) he G) ap
set_option tactic.hygienic false
noncomputable def kS (sc aw:cC):cC:= {aw with names:=aw.names.map λ(b,k)=>if(k==.free&&sc.kind==.function&&sc.names.lookup b==Y .cell) then(b,.cell) else(b,k)}
theorem HD (aw:cC)(ag:Env):relabel aw ag=kS ag.scope aw:=rfl
noncomputable def eR (cells:List (Str×Addr)):List (Str×nJ)->List (Str×Addr)->List (Str×Addr)
 |[],N=>N
 |(b,k)::r,N=>if k==.free then eR cells r ((b,(cells.lookup b).getD 0)::N) else eR cells r N
theorem N0 (C:∀y∈aw.names,y.2=.free->(ag.cells.lookup y.1).isSome=true):closureFor aw ag=pure (eR ag.cells aw.names []):=by
 simp only[closureFor];have g:∀(names:List (Str×nJ)) (N:List (Str×Addr)),(∀y∈names,y.2=.free->(ag.cells.lookup y.1).isSome=true)->
  (forIn names N (λ(x:Str×nJ) (cs:List (Str×Addr))=>if(x.2==.free)=true then(do let __do_lift<-cellOf ag x.1;pure<|ForInStep.yield<|(x.1,__do_lift)::cs) else pure (ForInStep.yield cs)):Sem (List<|Str×Addr))=pure (eR ag.cells names N):=by
  intro names
  induction names with
  |nil=>intro N q;refine J Xn ?_;rfl
  |cons y r B=>
   intro N L;obtain⟨m,k⟩:=y;refine J (Xo _ _ _ _) ?_;show _=(pure (if(k==pZ)=true then eR ag.cells r ((m,(ag.cells.lookup m).getD 0)::N) else eR ag.cells r N):Sem _);by_cases an:(k==pZ)=true
   ·obtain⟨a,aK⟩:=qa.mp<|L (m,k) (.head _) (by simpa using an);simp only[an,if_true];have:cellOf ag m=pure a:=by unfold cellOf;exact J aK rfl
    exact J this<|J aK<|B _ λy C=>L y<|.tail _ C
   ·simp only[an,if_false];exact B _ λy C=>L y<|.tail _ C
 have:=g aw.names [] C;rw[bind_pure] at*;exact this
structure o4 (sc aw:cC)(nm:List Str)(x:Str)(fr:List Str)(is:List Nat):Prop where
 kind:aw.kind=.function
 TG:∀y∈aw.names,y.2≠.cell
 names:∀y∈aw.names,y.2=.local->aw.names.lookup y.1=Y .local
 Zk:aw.names.lookup x=Y .local
 y8:(kS sc aw).names.lookup x=Y .local
 frees:∀y∈aw.names,y.2=.free->y.1∈fr
 dt:∀y∈fr,sc.names.lookup y=Y .cell/\(y,pZ)∈aw.names/\(kS sc aw).names.lookup y=Y .cell
 wR:mU nm is fr
 nodup:(x::fr).Nodup
 keys:(aw.names.map (·.1)).Nodup
variable{cells:List (Str×Addr)}
theorem EL:∀{names:List (Str×nJ)} {N:List (Str×Addr)} {p:Str×Addr},p∈eR cells names N->p∈N\/((p.1,pZ)∈names/\p.2=(cells.lookup p.1).getD 0):=by
 intro D;induction D with
 |nil=>intro o K C;exact .inl C
 |cons c r B=>
  intro N p C;obtain⟨m,k⟩:=c;by_cases an:(k==pZ)=true
  ·have e:eR cells ((m,k)::r) N=eR cells r ((m,(cells.lookup m).getD 0)::N):=if_pos an;replace C:=e▸C;have G:k=.free:=by simpa using an
   rcases B C with C|⟨C,aG⟩
   ·rcases fF.mp C with rfl|C
    ·exact .inr ⟨by refine J G ?_;exact .head _,rfl⟩
    ·exact .inl C
   ·exact .inr ⟨.tail _ C,aG⟩
  ·have e:eR cells ((m,k)::r) N=eR cells r N:=if_neg an;replace C:=e▸C;rcases B C with C|⟨C,aG⟩
   ·exact .inl C
   ·exact .inr ⟨.tail _ C,aG⟩
theorem NV:∀{names:List (Str×nJ)} {N:List (Str×Addr)},(names.map (·.1)++N.map (·.1)).Nodup->((eR cells names N).map (·.1)).Nodup:=by
 intro D;induction D with
 |nil=>intro o C;exact C
 |cons c r B=>
  intro N C;obtain⟨m,k⟩:=c;by_cases an:(k==pZ)=true
  ·have e:eR cells ((m,k)::r) N=eR cells r ((m,(cells.lookup m).getD 0)::N):=if_pos an;refine J e ?_;refine B ?_;rw[hQ] at C⊢;exact(Xq.nodup_iff).mpr C
  ·have e:eR cells ((m,k)::r) N=eR cells r N:=if_neg an;refine J e ?_;refine B ?_;replace C:=(propext pU)▸I1▸hQ▸C;exact C.2
theorem NU:∀{names:List (Str×nJ)} {N:List (Str×Addr)},((w,pZ)∈names\/∃a,(w,a)∈N)->∃a,(w,a)∈eR cells names N:=by
 intro D;induction D with
 |nil=>
  intro o C;rcases C with C|C
  ·cases C
  ·exact C
 |cons c r B=>
  intro N C;obtain⟨m,k⟩:=c;unfold eR;split
  ·rename_i an;refine B ?_;rcases C with C|⟨a,C⟩
   ·rcases fF.mp C with e|C
    ·cases e;exact .inr ⟨_,.head _⟩
    ·exact .inl C
   ·exact .inr ⟨a,.tail _ C⟩
  ·rename_i an;refine B ?_;rcases C with C|C
   ·rcases fF.mp C with e|C
    ·cases e;exact(an rfl).elim
    ·exact .inl C
   ·exact .inr C
variable{aW:List Nat}
theorem Ek:∀{Q:List Str} {j:Nat} {x:Str},mU nm aW Q->Q[j]?=Y x->∃i,aW[j]?=Y i/\nm[i]?=Y x:=by
 induction aW with
 |nil=>intro Q j x C e;cases Q with
  |nil=>exact bX e
  |cons=>exact C.elim
 |cons i aW B=>intro Q j x C e;cases Q with
  |nil=>exact C.elim
  |cons y Q=>cases j with
   |zero=>cases e;exact bj i rfl C.1
   |succ j=>exact B C.2 e
noncomputable def proj (is:List Nat)(ai:List V):List V:=is.map λi=>(ai[i]?).getD .aD
variable{a3:cC}
theorem xb (ok:o4 a3 aw nm w sn aW)(h:fy c ag a3 nm)(bi:∀a∈addrs ag,a≠ae)(aA:c.base.get? ae=am): fy c (compEnvC aw (eR ag.cells aw.names []) ae ag) (kS a3 aw) (w::sn)/\closureFor aw ag=pure (eR ag.cells aw.names [])/\(∀p∈eR ag.cells aw.names [],p∈ag.cells):=by
 obtain⟨dv,an,D,B,l,T,al,A,t⟩:=h;have b:∀y∈sn,(ag.cells.lookup y).isSome=true:=λy L=>by
  obtain⟨j,bu,e⟩:=List.mem_iff_getElem.mp L;refine a9 (Ek ok.wR (j:=j) (x:=y)<|by exact J (eu bu)<|J e rfl) λi q a4=>?_;have hm:y∈nm:=d1 a4;rcases D y hm with C|C
  ·replace C:=(ok.dt y L).1▸C;cases C
  ·exact C.2
 have sub:∀p∈eR ag.cells aw.names [],p∈ag.cells:=λp aP=>by
  rcases EL aP with C|⟨C,aG⟩
  ·cases C
  ·obtain⟨a,aK⟩:=qa.mp<|b _<|ok.frees _ C rfl;replace aG:=aK▸aG;have:=mem_of_lookup aK;obtain⟨ah,o⟩:=p;cases(aG:o=a);exact this
 have keys:((eR ag.cells aw.names []).map (·.1)).Nodup:=NV (by simpa using ok.keys);refine⟨⟨by refine(?_:relabel aw ag=_);exact J (HD _ _)<|J dv rfl,ok.kind,λy L=>?_,ok.nodup,?_,λz k aq X=>?_,al,A,λa aK=>?_⟩,N0 λy L hf=>b _<|ok.frees y L hf,sub⟩
 ·rcases fF.mp L with rfl|L
  ·exact .inl ok.y8
  ·refine .inr ⟨(ok.dt y L).2.2,?_⟩;obtain⟨a,aK⟩:=NU (cells:=ag.cells) (N:=[])<|.inl (ok.dt y L).2.1;refine(?_:((eR ag.cells aw.names []).lookup y).isSome=true);refine J (GK keys aK) ?_;rfl
 ·refine(?_:(eR ag.cells aw.names []).Pairwise _);refine List.Pairwise.imp_of_mem (R:=λp X=>p.1≠X.1) (λ{p X} aP af bw e=>?_)<|List.pairwise_map.mp keys;exact bw<|name_of_addr (n:=p.1) (n':=X.1) (c:=p.2) l (sub _ aP) (by have:=sub _ af;refine J e ?_;exact this)
 ·exact bi k (.tail _<|eF.mpr<|bj _ (sub _ aq) rfl) X.symm
 ·rcases fF.mp aK with rfl|aK
  ·exact aA
  ·refine a9 (eF.mp aK) λp aP bh=>?_;refine bm bh ?_;exact t _<|.tail _<|eF.mpr<|bj p (sub _ aP) rfl
variable{f1:Str->Option bt}
theorem Od (ok:o4 a3 aw nm name sn aW)(h:fy c ag a3 nm)(sub:∀p∈eR ag.cells aw.names [],p∈ag.cells)(F:cH ag nm ai I C) (bi:I ae=am)(aX:C.Ns ae f1)(a6:f1 name=Y v)(aU:u.is v):cH (compEnvC aw (eR ag.cells aw.names []) ae ag) (name::sn) (u::proj aW ai) I C:=by
 obtain⟨⟨f,d,b,a1,aV⟩,ap,aO,aq⟩:=F;have keys:∀{y k},(eR ag.cells aw.names []).lookup y=Y k->ag.cells.lookup y=Y k:=λ{y k} e=>by
  have ak:=mem_of_lookup e;rcases EL ak with C|⟨C,aG⟩
  ·cases C
  ·have ao:=sub _ ak;cases X:ag.cells.lookup y with
   |some a=>replace aG:=X▸aG;cases(aG:k=a);rfl
   |none=>
    have:∀{l:List (Str×Addr)},(y,k)∈l->l.lookup y≠am:=by
     intro l;induction l with
     |nil=>intro C;cases C
     |cons p r B=>
      intro C;refine J g4 ?_;split
      ·exact λe=>by exact gB e
      ·rename_i X;rcases fF.mp C with rfl|C
       ·simp at X
       ·exact B C
    exact(this ao X).elim
 refine⟨(eV f1 d aX (λy k e=>a1 y k<|keys e) λj y w bu aR=>?_),?_,λa aK=>?_,λp aP=>aq p<|sub p aP⟩
 ·have U:(compEnvC aw (eR ag.cells aw.names []) ae ag).scope=kS a3 aw:=by refine(?_:relabel aw ag=_);exact J (HD _ _)<|J h.dv rfl
  cases j with
  |zero=>simp at bu aR;refine bm bu ?_;refine bm aR ?_;exact .inr<|bj v (by refine J U<|J (if_pos ok.y8) ?_;exact a6) aU
  |succ j=>
   simp only[List.getElem?_cons_succ] at bu aR;have L:y∈sn:=d1 bu;refine a9 (Ek ok.wR bu) λi a4 g=>?_;unfold proj at aR;replace aR:=a4▸rl▸aR;simp only[vM,Y.injEq] at aR;cases m:ai[i]? with
   |none=>replace aR:=m▸aR;exact .inl aR.symm
   |some aZ=>
    replace aR:=m▸aR;cases(aR:aZ=w);rcases aV i y aZ g m with e|bo
    ·exact .inl e
    ·refine a9 bo λQ e z=>?_;clear bo;refine .inr<|bj Q ?_ z;rw[h.dv,if_neg<|by refine J (ok.dt y L).1 ?_;exact λe=>by cases e] at e;refine J U<|J (if_neg<|by rw[(ok.dt y L).2.2];exact λe=>by cases e) ?_;exact e
 ·refine(?_:(u::proj aW ai).length=(name::sn).length);refine J fe<|J fe ?_;unfold proj;exact J (fx _)<|J (wP ok.wR) rfl
 ·rcases fF.mp aK with rfl|aK
  ·exact bi
  ·refine a9 (eF.mp aK) λp aP bh=>?_;refine bm bh ?_;exact aO _<|.tail _<|eF.mpr<|bj p (sub _ aP) rfl
def n3 (aE:Src)(cI:wh)(a:List V)(jA:List V->aI->Prop)(I:aI):Prop:= ∃(a8:Nat->List V->aI->Prop) (len:Nat),len<=c5/\a8 0 [] I/\∀k aj I,a8 k aj I->aj.length=k/\k<=len/\(k=len->lA aE k I am/\jA aj I)/\ (k<len->∃u,lA aE k I (Y u)/\cI (u::a) (λw Z=>a8 (k+1) (aj++[w]) Z) I)
theorem r9 (x:bO aJ I s ay be)(C:be.heap.get? a=am):s.heap.get? a=am:=by
 cases e:s.heap.get? a with
 |none=>rfl
 |some o=>obtain⟨q,a7⟩:=x.live _ _ e;replace a7:=C▸a7;exact bX a7
theorem q6 (S:bz c I s)(C:s.heap.get? a=am):I a=am:=by
 cases e:I a with
 |none=>rfl
 |some o=>obtain⟨cm,a7⟩:=(S.rep _ _ e).there;replace a7:=C▸a7;exact bX a7
abbrev xd (k:KK)(B:aP):wh:=λai ad I=>B ⟨k.c,k.d,ad,k.j.n,k.j.b⟩ ai [] I
variable{fC:Pos}{jA:List V->aI->Prop}
theorem EY {aE:Src}{S:Nat->Heap->Prop}{gF:bt->Addr->Result->bZ->Prop} (ok:o4 a3 aw nm name sn aW)(he:bP c l (kS a3 aw) (name::sn) aM aY)(aQ:fz b5 l)(h:fy c ag a3 nm)(bg:cH ag nm ai aN be.heap)(p:bz c aN be)(aq:bO cX I s aN be)(G:s.heap.get? cl=am)(aL:aN cl=am)(P:qi c cl S aE)(d:S 0 be.heap)(ba:cl∉addrs ag)(bK:c.base.get? cl=am) (af:n3 aE (xd ⟨c,l,fD⟩<|aY bC) (proj aW ai) jA aN) (cd:∀D ae aH Z m aj a0,s.heap.get? D=am->s.heap.get? ae=am->D≠ae->D∉addrs ag->ae∉addrs ag->c.base.get? D=am->c.base.get? ae=am->cH ag nm ai Z aH.heap->bz c Z aH->bO cX I s Z aH->Z D=am->Z ae=am->aH.heap.Ns ae m->aH.heap.PlainList D a0->cj aj a0.toList->aj.length<=c5->jA aj Z->gF (.ref D) ae (.ok .next) aH): b7 c.M b5 (newList []) (λN aP=>b7 c.M b5 (newFunctionEnv aw ag.globals (eR ag.cells aw.names []) [] ag.qual am .none<|Y ag) (λbJ ad=> jX c.M b5 (.compStart (.ListComp aM [⟨.Name name fC,cI,[],0⟩] aw pos) 0 (.ref cl) N {bJ with scope:=relabel aw ag}) (gF N bJ.locals) ad) E aP) E be:=by
 refine wpAny_newObj_type<|wpAny_newFunctionEnv ok.TG (by intro y L;simp at L) (λaZ bw bn=>?_) ok.kind;dsimp only at bw bn⊢;generalize bv:be.heap.push {cls:=.type "list",dict:=am,data:=.seq ([]:List bt).toArray}=bE at bw bn⊢;have W:bE.objs.size=be.heap.objs.size+1:=by exact bm bv<|J (Xy _ _) rfl
 generalize bi:bE.objs.size=ae at*;generalize ax:be.heap.objs.size=D at*;have av:D≠ae:=by refine J W ?_;exact lQ<|tf _
 have Q:be.heap.get? D=am:=md _<|Ao ax;have U:be.heap.get? ae=am:=md _ (by refine J W<|J ax ?_;exact g5 _);have dA:∀b o,be.heap.get? b=Y o->aZ.get? b=Y o:=λb o e=>by
  have aA:=im e;have j:b≠ae:=by refine J W<|bm ax ?_;exact lQ<|tg aA
  exact bn.extBut b o j<|iJ _<|bv▸iJ _ e
 have F:aZ.PlainList D #[]:=⟨_,bn.extBut _ _ av<|iJ _<|by refine bm bv<|bm ax ?_;exact kY _ rfl⟩;have bl:D∉addrs ag:=λX=>by obtain⟨o,e⟩:=bg.live _ X;replace e:=Q▸e;exact bX e
 have ay:ae∉addrs ag:=λX=>by obtain⟨o,e⟩:=bg.live _ X;replace e:=U▸e;exact bX e
 have i:cl≠D/\cl≠ae:=by obtain⟨o,e⟩:=P.live _ _ d;have:=im e;rw[ax] at this;exact⟨lQ this,by refine J W ?_;exact lQ<|tg this⟩
 have bc:=r9 aq Q;have bb:=r9 aq U;have a6:=jd p Q;have aO:=jd p U;refine bA λco aB=>fT (xb (ae:=ae) ok h (λa aK X=>ay<|X▸aK) aO) λbD br sub=>hg af λa8 len bL bI a7=>?_;clear af;refine aB ?_;have bY:∀aP:bZ,aP={be with heap:=aZ,toks:=be.toks+([]:List (Str×bt)).length}-> jX c.M b5 (.compLoop (.ListComp aM [⟨.Name name fC,cI,[],0⟩] aw pos) 0 (.ref cl) (.ref D)<|compEnvC aw (eR ag.cells aw.names []) ae ag) (gF (.ref D) ae) aP:=by
  rintro aP rfl;refine codeAny_compLoop_list (λm aH=>∃k aj a0 Z hJ,m=len -k/\cH ag nm ai Z aH.heap/\bz c Z aH/\bO cX I s Z aH/\Z cl=am/\Z ae=am/\Z D=am/\S k aH.heap/\aH.heap.Ns ae hJ/\aH.heap.PlainList D a0/\cj aj a0.toList/\a8 k aj Z) ?_ len ⟨0,[],#[],aN,_,rfl,bg.cy<|.grow (t:=be.toks) dA,p.grow dA,aq.trans<|.grow dA,aL,q6 p U,q6 p Q,P.keep _ _ _ d λo e=>dA _ o e,bw,F,trivial,bI⟩;intro m aH bo;refine kP bo λk aj a0 Z hJ bG=>Ua bG λO ak au K g H a1 bh aD bT aV bk=>?_;clear bo;subst O;refine gM (a7 k aj Z bk) λaF x bR bS=>?_;by_cases an:k<len
  ·refine a9 (bS an) λu aU bf=>P.next _ _ Z aH k (Y u) _ aQ.handled au bh aU λv aG t aI n bu=>?_;have aJ:bz c Z {aH with heap:=aG,toks:=t}:=au.ext n g bK;have bF:cH ag nm ai Z aG:=ak.ext n ba;have ao:bO cX I s Z {aH with heap:=aG,toks:=t}:=K.ext n G;have b4:aG.Ns ae hJ:=by refine bA λco aB=>fi aD λo al cv e r=>?_;clear aD;exact aB<|(i4 o al cv (n _ o (hT i.2) e) r)
   have b9:aG.PlainList D a0:=bT.at λo e=>n _ o (hT i.1) e;refine(?_:b7 c.M b5 (assign (.Name name fC) (compEnvC aw (eR ag.cells aw.names []) ae ag) v) _ _ {aH with heap:=aG,toks:=t});refine An<|wpAny_storeName_local (by refine J (lv bD.dv _) ?_;exact ok.y8) b4 (λf bj B=>?_) (by refine(?_:(aw.kind==.class||(aw.kind==.module&&_))=false);refine J ok.kind ?_;rfl);have aT:bz c Z {aH with heap:=f,toks:=t+1}:=aJ.own (t:=t+1) B H aO;have bd:bO cX I s Z {aH with heap:=f,toks:=t+1}:=ao.ext (t:=t+1) B.extBut bb;have a2:cH ag nm ai Z f:=bF.ext B.extBut ay;have bU:f.PlainList D a0:=b9.at λo e=>B.extBut _ o av e;have bV:S (k+1) f:=P.keep _ _ _ bu λo e=>B.extBut _ o i.2 e;have b1:=Od (u:=u) (v:=v) ok h sub a2 H bj (by simp) aI;refine b0 (he.r b5 _ _ Z {aH with heap:=f,toks:=t+1} _ _ [] _ aQ bD b1 aT bf) (λy C A=>cS A λw bN aR a5 aS T=>?_) λq q e=>e;obtain⟨ce,b6⟩:∃o,f.get? ae=Y o:=by obtain⟨o,_,_,e,_⟩:=bj;exact⟨o,e⟩
   obtain⟨a4,bB⟩:∃o,f.get? D=Y o:=by obtain⟨l,e⟩:=bU;exact⟨_,e⟩
   have b2:=aS.fresh ae ce b6 H;have bM:=aS.fresh D a4 bB a1;obtain⟨bW,b8⟩:=P.live _ _ bV;have b3:=aS.fresh cl _ b8 g;have ca:C.heap.PlainList D a0:=bU.at λo e=>aS.ea D o id a1 e;have bQ:C.heap.Ns ae (λy=>if y=name then Y v else hJ y):=by refine bA λco aB=>fi bj λo al cv e r=>?_;clear bj;exact aB<|(i4 o al cv (aS.ea ae o id H e) r)
   have cc:S (k+1) C.heap:=P.keep _ _ _ bV λo e=>aS.ea cl o id g e;have ar:a0.size<=c5:=by refine bm eN<|bm aV.length<|J aF ?_;exact ch (.le aa ab) [.le ah ab,.lt aa ah] bL an
   refine wpAny_list_append_plain (hsz:=ar) ca λaX cb R=>⟨len -(k+1),by exact cn (.lt aa ab) [.lt ah az,.sub aa az<|.a ah aC,.sub ab az ah] an rfl rfl,k+1,aj++[w],a0.push y,bN,(λy=>if y=name then Y v else hJ y),rfl,(a2.cy aS).ext R.extBut bl,a5.own (t:=C.toks) R bM a6,(bd.trans aS).ext (t:=C.toks) R.extBut bc,b3,b2,bM, P.keep _ _ _ cc λo e=>R.extBut _ o i.1 e,?_,cb,F6 aV aR,T⟩;refine bA λco aB=>fi bQ λo al cv e r=>?_;clear bQ;exact aB<|(i4 o al cv (R.extBut _ o (hT av) e) r)
  ·have bp:k=len:=by exact bH (.eq aa ab) [.le aa ab,.es aa ab] x an
   obtain⟨bx,ap⟩:=bR bp;refine P.next _ _ Z aH k am _ aQ.handled au bh bx λaG t n=>cd D ae {aH with heap:=aG,toks:=t} Z hJ aj a0 bc bb av bl ay a6 aO (ak.ext n ba) (au.ext (t:=t) n g bK) (K.ext (t:=t) n G) a1 H ?_ (bT.at λo e=>n _ o (hT i.1) e) aV (cn (.le aa ab) [.le ah ab,.eq aa az,.le az ah] bL aF x) ap;refine bA λco aB=>fi aD λo al cv e r=>?_;clear aD;exact aB<|(i4 o al cv (n _ o (hT i.2) e) r)
 refine codeAny_compStart_list (bY _ rfl)<|P.self _ _ _ 0 _ (P.keep _ _ _ d λo e=>dA _ o e)<|bY _ rfl
abbrev hb (is:List Nat)(B R:aP)(aE:Src):aP:=λk ai S I=>n3 aE (xd k B) (proj is ai) (λaj h=>∀a D,dI h D a (.list aj)->R k ai (.ref a::S) D) I
theorem plain_at (S:bz c I s)(aX:c.base.get? a=am)(C:s.heap.PlainList a a0)(i:cj us a0.toList):bz c (I.set a<|.list us) s:=by
 obtain⟨k,e⟩:=C;refine⟨S.keep,λb o X=>?_,λb o X=>?_,S.gens,S.os⟩
 ·by_cases z:b=a
  ·subst z;replace X:=(aI.set_same _ _ _)▸X;cases X;exact fv a0 k e i
  ·replace X:=(aI.hl _ _ _ z)▸X;exact S.rep b o X
 ·by_cases z:b=a
  ·subst z;exact aX
  ·replace X:=(aI.hl _ _ _ z)▸X;exact S.new b o X
theorem bO.named (x:bO aJ I s ay be)(o:O)(C:s.heap.get? a=am):bO aJ I s (ay.set a o) be:= ⟨x.ea,x.live,λb cm g e=>by
  have:b≠a:=λX=>by replace g:=C▸X▸g;exact bX g
  refine J (aI.hl _ _ _ this) ?_;exact x.fresh b cm g e⟩
theorem Py (is:List Nat)(ok:o4 a3 aw nm w sn is)(a4:qh c b a3 nm cI bL)(he:bP c b (kS a3 aw) (w::sn) aM aY)(U:∀ag v,vW cI ag v=pure v): bP c b a3 nm (.ListComp aM [⟨.Name w fC,cI,[],0⟩] aw pos) λR=>bL (hb is (aY bC) R):=by
 refine⟨λW ag ai I s R j T E aQ h F S af=>?_⟩;refine J (eval_ListComp _ _ _ _) ?_;have br:closureFor aw ag=pure (eR ag.cells aw.names []):=(xb (c:={c with base:={c.base with objs:=#[]}}) (ae:=s.heap.objs.size) ok ⟨h.dv,h.kind,h.kinds,h.nodup,h.apart,h.above,h.glob,h.blt,λa q=>by simp[vT]⟩ (λa aK X=>by obtain⟨o,e⟩:=F.live a aK;exact absurd (im e)<|by refine J X ?_;exact nY _)<|by simp[vT]).2.1;refine wpAny_comprehension_free (use:=am) rfl (U ag) br ok.kind ok.names<|b0 (a4.r W ag ai I s _ _ _ E aQ h F S af) (λA be aZ=>b0 aZ (λaP n O=>?_) λq q e=>e) λq q e=>e;refine bA λco aB=>vf O λaE it st aN aD P d G p aq aL c3=>?_;clear O;subst aD;refine aB ?_;have ba:it∉addrs ag:=λX=>by obtain⟨o,e⟩:=F.live _ X;replace e:=G▸e;exact bX e
 refine EY (gF:=λN ae=>compPost c.M W E am (dV c I s<|oI ⟨c,b,j⟩ R ai T) N ae) ok he aQ h (F.cy aq) p aq G aL P d ba (jd S G) c3 ?_;intro D ae aH Z m aj a0 bc bb av bl ay a6 aO ak au K a1 H l bR aV ar y;refine(bj m l λaG B=>?_);have aJ:bz c Z {aH with heap:=aG}:=au.own (t:=aH.toks) B H aO;have ao:bO cX I s Z {aH with heap:=aG}:=K.ext (t:=aH.toks) B.extBut bb;exact lF (plain_at aJ a6 (bR.at λo e=>B.extBut _ o av e) aV) (ao.named _ bc)<|y D _ ⟨a1,rfl⟩
variable{fK:Pos}
theorem Qk (i:Nat)(is:List Nat)(L:nm[i]?=Y name)(ok:o4 a3 aw nm w sn is)(a4:qh c b a3 nm cI bL)(he:bP c b (kS a3 aw) (w::sn) aM aY) (U:∀ag v,vW cI ag v=pure v)(aR:∀ag,ag.scope=a3->j3 (.ListComp aM [⟨.Name w fC,cI,[],0⟩] aw pos) (Y<|.Name name fK) dl.line ag=pure true): fo c b a3 nm (.Assign [.Name name fK] (.ListComp aM [⟨.Name w fC,cI,[],0⟩] aw pos) dl) λR=>bL (hb is (aY bC)<|b2 i R):=by
 refine⟨λW ag ai I s R j E aQ bJ h F S af=>?_⟩;refine J (exec_Assign_Name_used _ _ _ _<|aR ag h.dv)<|cc<|qe<|cc ?_;refine(?_:b7 _ W (do let _<-comprehension (.ListComp aM [⟨.Name w fC,cI,[],0⟩] aw pos) aw ag _ (newList []) false (eval cI ag) (Y<|assign (.Name name fK) ag)) _ _ s);have br:closureFor aw ag=pure (eR ag.cells aw.names []):=(xb (c:={c with base:={c.base with objs:=#[]}}) (ae:=s.heap.objs.size) ok ⟨h.dv,h.kind,h.kinds,h.nodup,h.apart,h.above,h.glob,h.blt,λa q=>by simp[vT]⟩ (λa aK X=>by obtain⟨o,e⟩:=F.live a aK;exact absurd (im e)<|by refine J X ?_;exact nY _)<|by simp[vT]).2.1;refine cc<|b0 (wpAny_comprehension_free (use:=Y<|assign (.Name name fK) ag) (Q:=λq aH=>iL c ag nm I s (mv ⟨c,b,j⟩ R []) .next aH) rfl (U ag) br ok.kind ok.names<|b0 (a4.r W ag ai I s _ _ [] E aQ h F S af) (λA be aZ=>b0 aZ (λaP n O=>?_) λq q e=>e) λq q e=>e) (λq aH af=>dD<|dD af) λq q e=>e;refine bA λco aB=>vf O λaE it st aN aD P d G p aq aL c3=>?_;clear O;subst aD;refine aB ?_;have ba:it∉addrs ag:=λX=>by obtain⟨o,e⟩:=F.live _ X;replace e:=G▸e;exact bX e
 refine EY (gF:=λN ae=>compPost c.M W E (Y<|assign (.Name name fK) ag) (λq aH=>iL c ag nm I s (mv ⟨c,b,j⟩ R []) .next aH) N ae) ok he aQ h (F.cy aq) p aq G aL P d ba (jd S G) c3 ?_;intro D ae aH Z m aj a0 bc bb av bl ay a6 aO ak au K a1 H l bR aV ar y;have aJ:bz c (Z.set D<|.list aj) aH:=plain_at au a6 bR aV;have ao:bO cX I s (Z.set D<|.list aj) aH:=K.named _ bc;have bF:cH ag nm ai (Z.set D<|.list aj) aH.heap:=F.cy ao;refine(?_:b7 c.M W (assign (.Name name fK) ag<|.ref D) _ E aH);refine An<|q7 (u:=.ref D) h bF aJ L rfl λg a2 aT bn=>?_;have f:(Z.set D<|.list aj) ae=am:=by refine J (aI.hl _ _ _<|hT av) ?_;exact H
 have kM:∀o,aH.heap.get? ae=Y o->g.heap.get? ae=Y o:=λo e=>bn.ea ae o (λX=>ay X) f e;refine bA λco aB=>fi l λab al cv e r=>?_;clear l;refine aB<|(bj m (i4 ab al cv (kM _ e) r) λaG B=>?_);have x:=f;exact gr (k:=.next) (aH:={g with heap:=aG}) rfl (a2.ext B.extBut ay) (aT.own (t:=g.toks) B x aO) ((ao.g1.trans bn).ext (t:=g.toks) B.extBut bb)<|y D _ ⟨a1,rfl⟩
def qv (us:List V)(ad:V->aI->Prop)(I:aI):Prop:=wG us (λu w=>iT u λa=>iT w λb=>ad (.int<|min a b) I) λu w x=>iT u λa=>iT w λb=>iT x λd=>ad (.int<|min (min a b) d) I
theorem Ll:fZ c e (.builtin "min") qv:=by
 intro W I s ad E us aj aQ S bb af;rcases Ed af with af|af
 ·refine hh (Ir af bb) λa b t u bG=>dF bG λaD X=>?_;refine J aD ?_;refine min_two_ints aQ.handled λaG cr an=>?_;split
  ·rename_i C;rw[nT<|rA C] at X;exact g2 (S.grow an) (.grow an) X
  ·rename_i C;rw[lM<|il.mp C] at X;exact g2 (S.grow an) (.grow an) X
 ·refine yO (wI af bb) λu w z x y f bG=>sP bG λg j aU aR aq l=>?_;subst g;refine J j ?_;refine bA λco aB=>a9 (jE l) λa h n=>?_;replace aU:=h▸aU;refine a9 (jE n) λb h A=>?_;replace aR:=h▸aR;refine a9 (jE A) λd h X=>?_;replace aq:=h▸aq;obtain⟨t,rfl⟩:=aU;obtain⟨F,rfl⟩:=aR;obtain⟨m,rfl⟩:=aq;refine aB<|min_three_ints aQ.handled λaG cr an=>?_;split
  ·rename_i C;rw[nT<|rA C] at X;split
   ·rename_i ak;rw[nT<|rA ak] at X;exact g2 (S.grow an) (.grow an) X
   ·rename_i ak;rw[lM<|il.mp ak] at X;exact g2 (S.grow an) (.grow an) X
  ·rename_i C;rw[lM<|il.mp C] at X;split
   ·rename_i ak;rw[nT<|rA ak] at X;exact g2 (S.grow an) (.grow an) X
   ·rename_i ak;rw[lM<|il.mp ak] at X;exact g2 (S.grow an) (.grow an) X
def wK (u:V)(P:Str->Prop):Prop:=match u with|.str a=>P a|_=>False
variable{U:Str->Prop}
theorem Kf (C:wK u U):∃a,u=.str a/\U a:=by cases u<;>first|exact(bj _ rfl C)|exact C.elim
theorem Y7:wK (.str w) U=U w:=rfl
def cStr (us:List V)(ad:V->aI->Prop)(I:aI):Prop:=m2 us λu=>iT u λa=>a.natAbs.log2<1920/\ad (.str<|Aj<|toString a) I
theorem Lr:fZ c b (.type "str") cStr:=by intro W I s ad E us aj aQ S bb af;refine bA λco aB=>cS (m3 af bb) λo B bh bt aO n=>?_;subst bh;replace aB:=bt▸aB;refine d8 (jE n) λa h C X=>?_;replace aO:=h▸aO;obtain⟨t,rfl⟩:=aO;exact aB<|P.str_of_int C<|pP (S.tok _) (.tok _) X
noncomputable def q1 (x:Str)(i:Int):Str:=if i<=x.length then x else XJ x (i.toNat -x.length) 0 32
def rS (us:List V)(ad:V->aI->Prop)(I:aI):Prop:=l6 us λu w=>wK u λx=>iT w λi=>i<1000/\x.length<100000/\ -1000<i/\ad (.str<|q1 x i) I
theorem Lo:fZ c b (.builtin "str.rjust") rS:=by
 intro W I s ad E us aj aQ S bb af;refine bA λco aB=>oD (l7 af bb) λo w B jq aD O aO aR n=>?_;subst aD;replace aB:=O▸aB;refine a9 (Kf n) λx h A=>?_;replace aO:=h▸aO;refine q0 (jE A) λi h ak ao bp X=>?_;replace aR:=h▸aR;obtain⟨t,rfl⟩:=aO;obtain⟨u,rfl⟩:=aR;refine aB<|call_gives PySem.F.slot_str_rjust (typeIs_str s x t) PySem.F.entry_str_rjust (PySem.F.args_str_rjust_2 _ _) (gives_str_rjust x i t u (by simp;exact⟨dW (.bW (.g<|.k 9223372036854775808) bh) [.Lt (.g<|.k 1000) bh] bp,dW (.Lt bh<|.k 9223372036854775808) [.Lt bh<|.k 1000] ak⟩)<|by simp[XK,c5];exact dW (.bW bh<|.k 16777216) [.Lt bh<|.k 1000] ak) ?_;unfold q1 at X;split
 ·rename_i C;rw[if_pos C] at X;exact pP S .refl X
 ·rename_i C;rw[if_neg C] at X;exact⟨fits_padL 32 (by simp[XK,c5];exact dW (.bW bh<|.k 16777216) [.Lt bh<|.k 1000] ak) C,pP (S.tok _) (.tok _) X⟩
theorem S7:n4 "str" "rjust" "str.rjust":=⟨F.plainAttrs_str,PySem.F.slot_str_rjust,F.type_str_rjust⟩
def sw:List Int->List Int->Prop:=λns g=>g.Perm ns/\g.Pairwise (· <= ·)
theorem F5:∀{ns:List Int} {aj:List bt},cj (ns.map .int) aj->IntsAre aj ns:=by
 intro D;induction D with
 |nil=>
  intro f;cases f with
  |nil=>intro o;exact .nil
  |cons h j=>intro C;exact C.elim
 |cons a ns B=>
  intro f;cases f with
  |nil=>intro C;exact C.elim
  |cons v aj=>intro g;obtain⟨⟨t,e⟩,C⟩:=g;refine J e ?_;exact .cons a t<|B C
variable{A:List Int}
theorem Ee (C:IntsAre bs A):cj (A.map .int) bs:=by
 induction C with
 |nil=>trivial
 |cons a t C B=>exact⟨⟨t,rfl⟩,B⟩
def K6 (us:List V)(ad:V->aI->Prop)(I:aI):Prop:=m2 us λo=>j8 o λl=>∃ns:List Int,I l=Y (.list<|ns.map .int)/\ns.length<64/\∀g,sw ns g->∀a D,dI I D a (.list<|g.map .int)->ad (.ref a) D
theorem Lq:fZ c j (.builtin "sorted") K6:=by
 intro W I s ad E us aj aQ S bb af;refine bA λco aB=>cS (m3 af bb) λo B bh bt aO n=>?_;subst bh;replace aB:=bt▸aB;refine ig (f3 n) λl h ns C aq X=>?_;replace aO:=h▸aO;replace aB:=aO▸aB;refine dT (S.rep _ _ C) λd k e i=>aB ?_;have P:=F5 i;have bL:d.toList.length=ns.length:=by exact bm i.length<|J (fx _) rfl
 refine sorted_ints (vs:=d.toList) (by simpa using fW e) P (bH (.lt aa<|.k 64) [.lt ab<|.k 64,.eq aa ab] aq bL) λg u ak ao bp=>?_;obtain⟨a7,he⟩:=sortedAll_at s.heap d.toList g;have an:∀b o,s.heap.get? b=Y o->(sortedAll s.heap d.toList g).get? b=Y o:=λb o x=>sortedAll_old x;have aX:s.heap.get? (s.heap.objs.size+1)=am:=md _<|g5 _;have H:bz c I {s with heap:=sortedAll s.heap d.toList g}:=S.grow (t:=s.toks) an;exact lF (plain_at H (jd S aX) ⟨_,he⟩<|Ee ak) ((bO.grow (t:=s.toks) an).named _ aX)<|X u ⟨ao,bp⟩ _ _ ⟨q6 S aX,rfl⟩
def pb (T:String)(us:List V)(ad:V->aI->Prop)(I:aI):Prop:=l6 us λu w=>w=.ext (.type T)/\match u with
 |.int _=>ad (.bool<|T=="int") I
 |.str _=>T="str"/\ad (.bool true) I
 |_=>False
theorem Lg:fZ c b (.builtin "isinstance") (pb "int"):=by
 intro W I s ad E us aj aQ S bb af;refine bA λco aB=>?_;obtain⟨o,w,B,jq,rfl,rfl,aO,aR,rfl,n⟩:=l7 af bb;refine aB<|J aR ?_;cases o<;>first|exact n.elim|skip
 ·exact gC (aO) λt a7=>J a7<|PyProof.Rows.call_isinstance_yes (Tx:="int") (typeIs_int s _ t) (by rfl) (by refine J (isSubtype_type _ _) ?_;kernel_rfl)<|fX S .refl n
 ·exact absurd n.1 (by decide)
theorem Lh:fZ c b (.builtin "isinstance") (pb "str"):=by
 intro W I s ad E us aj aQ S bb af;refine bA λco aB=>?_;obtain⟨o,w,B,jq,rfl,rfl,aO,aR,rfl,n⟩:=l7 af bb;refine aB<|J aR ?_;cases o<;>first|exact n.elim|skip
 ·exact gC (aO) λt a7=>J a7<|call_isinstance (isinstance_false_int (by rfl) (by rfl)<|by refine J (isSubtype_type _ _) ?_;kernel_rfl)<|fX (S.tok _) (.tok _) n
 ·exact gC (aO) λt a7=>J a7<|PyProof.Rows.call_isinstance_yes (Tx:="str") (typeIs_str s _ t) (by rfl) (by refine J (isSubtype_type _ _) ?_;kernel_rfl)<|fX S .refl n.2
abbrev mm (R:aP):aP:=λk ai S I=>∀a D,dI I D a (.cP [])->R k ai (.ref a::S) D
theorem PC:bP c b aw nm (.Dict [] [] pos) mm:=by refine⟨λW ag ai I s R j T E aQ h F S af=>?_⟩;exact wpAny_Dict_empty<|lF (S.alloc _ (.cP [])<|bj ([]) (.new _) trivial) (.alloc _ _)<|af _ _ ⟨S.kU,rfl⟩
def wl:List (bt×bt)->List (Str×V)->Prop
 |[],[]=>True
 |(k,v)::aj,(x,u)::al=>(∃t,k=.str x t)/\u.is v/\wl aj al
 |_,_=>False
structure rG (c:cG)(n:Nat)(sc:cC)(nm:List Str)(Q:List Str)(keys:List (Option Expr))(values:List Expr)(ae:bq):Prop where
 r:∀(W:eO) (ag:Env) (pos:Pos) (ai:List V) (I:aI) (s:bZ) (R:aP) (j:ja) (T:List V) (E:bt->bZ->Prop),fz W n->fy c ag sc nm->cH ag nm ai I s.heap->bz c I s->ae R ⟨c,n,j⟩ ai T I->
  b7 c.M W (evalPairs (pairTrees keys values ag pos)) (fun aj aH=>∃us Z,wl aj (Q.zip us)/\bz c Z aH/\bO cX I s Z aH/\us.length=Q.length/\R ⟨c,n,j⟩ ai (us.reverse++T) Z) E s
theorem Pr:rG c b aw nm [] [] [] λR=>R:=⟨λq q q q q q q q q q q q q S af=>evalPairs_nil<|gd ([]) _ trivial S .refl ⟨rfl,af⟩⟩
variable{keys:List (Option Expr)}
theorem Pq (C:bP c l aw nm aM aY)(aG:rG c l aw nm sn keys al c7):rG c l aw nm (w::sn) (Y (.Constant (.str w) b dl)::keys) (aM::al) λR=>aY (c7 R):=by refine⟨λW ag pos ai I s R j T E aQ h F S af=>?_⟩;refine(?_:b7 c.M W (evalPairs<|(eval (.Constant (.str w) b dl) ag,(do let w<-eval aM ag;lP pos;pure w))::pairTrees keys al ag pos) _ E s);refine evalPairs_cons<|wpAny_Constant_str ?_;have X:=S.tok<|s.toks+1;have f:bO cX I s I {s with toks:=s.toks+1}:=.tok _;refine cc<|b0 (C.r W ag ai I _ _ _ _ E aQ h (F.cy f) X af) (λv be A=>cS A λu ay aU H av aZ=>?_) λq q aM=>aM;refine cc<|qe<|dD ?_;refine b0 (aG.r W ag pos ai ay be _ _ _ E aQ h ((F.cy f).cy av) H aZ) (λaj n A=>gZ A λus aN g p a3 ap O=>?_) λq q aM=>aM;exact(gd (u::us) aN ⟨⟨_,rfl⟩,aU,g⟩ p ((f.trans av).trans a3) ⟨congrArg (· +1) ap,by refine J rB<|J (en _ _ _) ?_;exact O⟩)
theorem UD:∀{aj:List (bt×bt)} {al:List (Str×V)},wl aj al->allStrKeys aj=true/\iO al (strPairs aj)/\(strPairs aj).map (·.1)=al.map (·.1):=by
 intro D;induction D with
 |nil=>
  intro f;cases f with
  |nil=>intro o;exact⟨rfl,trivial,rfl⟩
  |cons h j=>intro C;exact C.elim
 |cons c aj B=>
  intro f;obtain⟨_,v⟩:=c;cases f with
  |nil=>intro C;exact C.elim
  |cons i al=>intro g;obtain⟨x,u⟩:=i;obtain⟨⟨t,e⟩,aU,C⟩:=g;exact J e<|fT (B C) λa b d=>⟨a,⟨rfl,aU,b⟩,by refine(?_:x::_=x::_);exact J d rfl⟩
abbrev uA (Q:List Str)(b:jb)(R:aP):aP:=λk ai S I=>b S λus S=>Q.Nodup/\∀a D,dI I D a (.fQ<|Q.zip us)->R k ai (.ref a::S) D
theorem PB (C:rG c l aw nm sn keys al c7)(i:keys.all (·.isSome)=true)(ap:keys.length=al.length)(h0:keys≠[])(bL:keys.length<=15):bP c l aw nm (.Dict keys al pos) λR=>c7 (uA sn (gm sn.length []) R):=by
 refine⟨λW ag ai I s R j T E aQ h F S af=>?_⟩;refine wpAny_Dict_walk (knd:=PySem.strKind c.prog c.w) i ap h0 bL ?_;have f:bO cX I s I {s with heap:=s.heap.push {cls:=.type "dict",data:=.dict #[]}}:=.push _;refine b0 (C.r W ag pos ai I _ _ _ _ E aQ h (F.cy f) (S.push _) af) (λaj be A=>gZ A λus ay g H av hm aZ=>dF (nz (P:=λus S=>sn.Nodup/\∀a D,dI ay D a (.fQ<|sn.zip us)->R ⟨c,l,j⟩ ai (.ref a::S) D) hm aZ) λaX aZ=>?_) λq q e=>e;refine bA λco aB=>fT (UD g) λa b d=>?_;have Q:(s.heap.push {cls:=.type "dict",data:=.dict #[]}).DictOf (PySem.strKind c.prog c.w) s.heap.objs.size []:=.new _;have ax:=s.heap.objs.size;refine fi Q λo os cv e r=>?_;clear Q;refine aB ?_;have m:I s.heap.objs.size=am:=S.kU;have n:ay s.heap.objs.size=am:=av.fresh _ o e m;have u:be.heap.DictOf (PySem.strKind c.prog c.w) s.heap.objs.size []:=(i4 o os cv (av.ea _ o id m e) r);refine display_done_str (P:=λaG=>dV c I s (oI ⟨c,l,j⟩ R ai T) (.ref s.heap.objs.size) {be with heap:=aG,toks:=be.toks+aj.length}) a (by refine J d<|J (List.map_fst_zip<|Ao hm.symm) ?_;exact aX) u λaG hm U=>?_;have G:s.heap.get? s.heap.objs.size=am:=md _<|c1 _;have L:=jd S G;have p:bz c ay {be with heap:=aG,toks:=be.toks+aj.length}:=H.own (t:=be.toks+aj.length) U n L;have aq:bO cX I s ay {be with heap:=aG,toks:=be.toks+aj.length}:=(f.trans av).ext (t:=be.toks+aj.length) U.extBut G;refine lF (Z:=ay.set s.heap.objs.size<|.fQ<|sn.zip us) ⟨p.keep,λa9 q X=>?_,λa9 q X=>?_,p.gens,p.os⟩ (aq.named _ G)<|aZ _ _ ⟨n,rfl⟩
 ·by_cases z:a9=s.heap.objs.size
  ·subst z;replace X:=(aI.set_same _ _ _)▸X;cases X;exact bj _ hm b
  ·replace X:=(aI.hl _ _ _ z)▸X;exact p.rep a9 q X
 ·by_cases z:a9=s.heap.objs.size
  ·refine J z ?_;exact L
  ·replace X:=(aI.hl _ _ _ z)▸X;exact p.new a9 q X
def wZ (us:List V)(ad:V->aI->Prop)(I:aI):Prop:=m2 us λo=>j8 o λl=>∃ns:List Int,I l=Y (.list<|ns.map .int)/\ad (.int ns.sum) I
theorem Ls:fZ c b (.builtin "sum") wZ:=by
 intro W I s ad E us aj aQ S bb af;refine bA λco aB=>cS (m3 af bb) λo B bh bt aO n=>?_;replace bb:=bh▸bb;replace af:=bh▸af;replace aB:=bt▸aB;replace bb:=bt▸bb;refine kq (f3 n) λl h ns C X=>?_;clear n af bb;replace aO:=h▸aO;replace aB:=aO▸aB;refine dT (S.rep _ _ C) λd k e i=>?_;have P:=F5 i;obtain⟨Q,aL⟩:=P.allInts.items;refine aB ?_;have m:d=intItems Q:=by simpa using aL
 clear i aL;replace e:=m▸e;replace P:=m▸P;refine PySem.sum_intListG aQ.handled (fW e) λaG cr F an=>?_;have aX:=P.numsOf;rw[nums_intItems] at aX;exact J (preSum_eq _ _)<|J (ik<|by simp)<|J aX<|g2 (S.grow (t:=cr) an) (.grow (t:=cr) an) X
theorem Zf:lJ (.type "dict") "__len__"=pure (Y<|.builtin "dict.__len__"):=by refine J (typeLookup_type _ _)<|J builtinLookup_eq_fast ?_;kernel_rfl
variable{U:List (Int×bt)}
theorem Ob {f:List bt->bZ->Prop}(G:b5.handled=am)(d:(a==sysModules)=false)(hm:s.heap.DictAt (intKind c.prog c.w) a U e)(aX:U.length<=c5) (y:∀aH N,aH.gens=s.gens->aH.os=s.os->(∀b o,s.heap.get? b=Y o->aH.heap.get? b=Y o)->ItemsOf (λi v=>∃k x,U[i]?=Y (k,x)/\(intKind c.prog c.w).is k v=true) N U.length->f N.toList aH): b7 c.M b5 (collect<|.ref a) f E s:= kdu_collect (kdl_dict d) G hm aX λaG cr N an F=>y {s with heap:=aG,toks:=cr} N rfl rfl an F
theorem Rv:∀{N:Array bt},ItemsOf (λi v=>∃k x,U[i]?=Y (k,x)/\(intKind c.prog c.w).is k v=true) N U.length->IntsAre N.toList (U.map (·.1)):=λ{N} C=>by
 obtain⟨ak,ao⟩:=C;have g:∀(aj:List bt) (U:List (Int×bt)),aj.length=U.length->(∀(j:Nat) (v:bt),aj[j]?=Y v->∃k x,U[j]?=Y (k,x)/\(intKind c.prog c.w).is k v=true)->IntsAre aj (U.map (·.1)):=by
  intro aj;induction aj with
  |nil=>intro U ap q;cases U with
   |nil=>exact .nil
   |cons _ _=>cases ap
  |cons v aj B=>intro U ap bu;cases U with
   |nil=>cases ap
   |cons p U=>refine dT (bu 0 v rfl) λk x e X=>?_;simp at e;exact J e<|gC (Value.isInt_shape (X:Ja k v=true)) λt a7=>J a7<|.cons k t (B U (by simpa using ap) λj Q a6=>by simpa using bu (j+1) Q (by simpa using a6))
 exact g N.toList U (by simpa using ak) λj v a6=>ao j v (by simpa using a6)
def rT (us:List V)(ad:V->aI->Prop)(I:aI):Prop:=m2 us λo=>j8 o λl=>∃ns:List Int,(I l=Y (.list<|ns.map .int)\/∃al,I l=Y (.cP al)/\ns=al.map (·.1))/\ns.length<64/\∀g,sw ns g->∀a D,dI I D a (.list<|g.map .int)->ad (.ref a) D
theorem Rz:∀{al:List (av×V)} {au:List (av×bt)},iO al au->al.map (·.1)=au.map (·.1):=by
 intro D;induction D with
 |nil=>
  intro f;cases f with
  |nil=>intro o;exact rfl
  |cons h j=>intro C;exact C.elim
 |cons e i B=>
  intro f;cases f with
  |nil=>intro C;exact C.elim
  |cons h j=>intro C;exact J hQ<|J hQ<|J C.1<|J (B C.2.2) rfl
theorem Lp (a1:c.Ok):fZ c i (.builtin "sorted") rT:=by
 intro W I s ad E us aj aQ S bb af;refine cS (m3 af bb) λo B bh bt aO n=>?_;clear bb af;subst bh;refine J bt ?_;refine ig (f3 n) λl h ns C aq X=>?_;replace aO:=h▸aO;refine J aO ?_;rcases C with C|bo
 ·exact Lq W I s ad E [.ref l] _ aQ S ⟨rfl,trivial⟩<|dj ns C aq X
 ·refine a9 bo λal C bh=>?_;clear bo;replace aq:=bh▸aq;replace X:=bh▸X;refine a9 (S.rep _ _ C) λau D f=>?_;obtain⟨cv,hm⟩:=D.dictAt;rw[Rz f] at aq X;replace aq:=(fx _)▸aq;refine Calls.call_function_entry kind_sorted plain_sorted entry_sorted (args_sorted1 _) ?_;unfold Builtin.«sorted»;refine cc (m:=PySem.checkCount "sorted" 1 1 _)<|dD ?_;refine cc<|Ob aQ.handled (oA a1 S C) hm (by refine J eI ?_;exact cK (.le aa<|.k 16777216) [.lt aa<|.k 64] aq) λaH N bJ aO an F=>?_;have P:=Rv F;have bL:N.toList.length=au.length:=by simpa using F.1
  have H:bz c I aH:=⟨λb o e=>an b o<|S.keep b o e,λb o e=>(S.rep b o e).mono λcm X=>an b cm X,S.new,bJ.trans S.gens,aO.trans S.os⟩;have d:bO cX I s I aH:=⟨λb o q q e=>an b o e,λb o e=>⟨o,an b o e⟩,λq q q e=>e⟩;have aX:aH.heap.get? aH.heap.objs.size=am:=md _<|c1 _;refine cc<|wpAny_newList ?_;have a:(aH.heap.push<|seqObj "list" N.toList.toArray 0).get? aH.heap.objs.size=Y (seqObj "list" N.toList.toArray 0):=kY _ rfl;refine(?_:b7 _ _ _ _ _ {aH with heap:=aH.heap.push (seqObj "list" N.toList.toArray 0)});refine cc<|wb<|wpAny_call_entry slot_list_sort (bj _ a rfl) entry_list_sort (list_sort_tree a P (bH (.lt aa<|.k 64) [.lt ab<|.k 64,.eq aa ab] aq bL) λg u aS bl bP=>(bj _ rfl ?_))<|args_list_sort _;refine dD<|bj _ rfl ?_;have bp:∀b o,aH.heap.get? b=Y o->(sortedHeap (aH.heap.push<|seqObj "list" N.toList.toArray 0) aH.heap.objs.size N.toList g).get? b=Y o:=λb o e=>by have aA:=im e;exact J (sortedHeap_old (lQ aA)<|by rw[size_push'];exact tg aA)<|iJ _ e
  obtain⟨a7,he⟩:=sortedHeap_at (out:=g) a;have p:bz c I {aH with heap:=sortedHeap (aH.heap.push<|seqObj "list" N.toList.toArray 0) aH.heap.objs.size N.toList g}:=H.grow (t:=aH.toks) bp;exact lF (plain_at p (jd H aX) ⟨_,he⟩<|Ee aS) ((d.trans<|bO.grow (t:=aH.toks) bp).named _<|r9 d aX)<|X u ⟨bl,bP⟩ _ _ ⟨q6 H aX,rfl⟩
def wX (c:cG)(us:List V)(ad:V->aI->Prop)(I:aI):Prop:=l6 us λu w=>iT u λq=>j8 w λae=>yz c.K ae=true/\ad (.bool false) I
theorem Lf (a1:c.Ok):fZ c b (.builtin "isinstance") (wX c):=by intro W I s ad E us aj aQ S bb af;refine bA λco aB=>oD (l7 af bb) λo w B jq aD O aO aR n=>?_;replace bb:=aD▸bb;replace af:=aD▸af;replace aB:=O▸aB;replace bb:=O▸bb;refine a9 (jE n) λa h A=>?_;clear n af bb;replace aO:=h▸aO;refine d8 (f3 A) λae h C X=>?_;replace aR:=h▸aR;obtain⟨t,rfl⟩:=aO;replace aB:=aR▸aB;exact aB<|isn_call (P:=λq=>True) (a1.gL.keeps S.keep) (λq=>Xl rfl) C (λe=>by cases e) trivial int_cls<|fX (S.tok _) (.tok _) X
def tx (a b:Addr)(C aG:Heap):Prop:=∀x o,x≠a->x≠b->C.get? x=Y o->aG.get? x=Y o
theorem bz.ext2 (S:bz c I s)(U:tx a ae s.heap aG)(aK:I a=am)(aA:I ae=am)(b:c.base.get? a=am)(d:c.base.get? ae=am):bz c I {s with heap:=aG,toks:=t}:=by refine⟨λx o e=>U x o (λX=>by replace e:=b▸X▸e;exact bX e) (λX=>by replace e:=d▸X▸e;exact bX e)<|S.keep x o e,λx o e=>(S.rep x o e).mono λcm X=>U x cm (λz=>by replace e:=aK▸z▸e;exact bX e) (λz=>by replace e:=aA▸z▸e;exact bX e) X,S.new,S.gens,S.os⟩
theorem bO.ext2 (x:bO aJ I s ay be)(U:tx a ae be.heap aG)(na:s.heap.get? a=am)(au:s.heap.get? ae=am):bO aJ I s ay {be with heap:=aG,toks:=t}:=by refine⟨λy o z e g=>U y o (λX=>by replace g:=na▸X▸g;exact bX g) (λX=>by replace g:=au▸X▸g;exact bX g)<|x.ea y o z e g,λy o e=>?_,x.fresh⟩;obtain⟨q,a7⟩:=x.live y o e;exact⟨q,U y q (λX=>by replace e:=na▸X▸e;exact bX e) (λX=>by replace e:=au▸X▸e;exact bX e) a7⟩
theorem cH.ext2 (F:cH ag nm ai I C)(U:tx a ae C aG)(aK:a∉addrs ag)(aA:ae∉addrs ag):cH ag nm ai I aG:=by
 have g:∀x∈addrs ag,∀o,C.get? x=Y o->aG.get? x=Y o:=λx aL o e=>U x o (λX=>aK<|X▸aL) (λX=>aA<|X▸aL) e;obtain⟨⟨m,d,aX,a1,a6⟩,ap,aO,aq⟩:=F;refine⟨(eV m d ?_ (λz k e=>?_) a6),ap,aO,λp aP=>?_⟩
 ·refine fi aX λo al cv e r=>?_;clear aX;exact(i4 o al cv (g _ (.head _) o e) r)
 ·exact a9 (a1 z k e) λo a7 r=>(bj o (g k (.tail _<|eF.mpr<|bj ((z,k)) (mem_of_lookup e) rfl) o a7) r)
 ·obtain⟨o,e⟩:=aq p aP;exact⟨o,g _ (.tail _<|eF.mpr<|bj p aP rfl) o e⟩
def tz (r:Addr)(i j:Nat)(B:tE)(ad:kx->List V->aI->Prop)(ai:List V)(I:aI):Prop:= ∃(a8:Nat->List V->aI->Prop) (len:Nat),a8 0 ai I/\∀k ai I,a8 k ai I->∃us,I r=Y (.list us)/\us.length=len/\k<=len/\(k=len->ad .next ai I)/\(∀u,us[k]?=Y u->B (pN [i,j] [.int k,u] ai) (λb d aN=>match b with
  |.next|.cont=>a8 (k+1) d aN
  |.brk=>ad .next d aN
  |.ret u=>ad (.ret u) d aN) I)
abbrev xG (i j:Nat)(B R:aP):aP:=λk ai S I=>dC S λu S=>gT u λr=>tz r i j (yb k B) (mv k R S) ai I
variable{dy:Pos}{dO:Str}
theorem Qf (i j:Nat)(a4:nm[i]?=Y name)(bu:nm[j]?=Y dO)(hf:bP c bf aw nm (.Name "enumerate" hk) (aR<|.ext<|.type "enumerate"))(he:bP c bf aw nm aM aY)(aP:mF [aM])
 (bU:∀ag,hC [aM] ag=(false,eval aM ag)::hC [] ag)(aA:FB c bf aw nm body c7)(U:∀ag v,vW (.Call (.Name "enumerate" hk) [aM] [] dl) ag v=pure v):
 fo c bf aw nm (.For (.Tuple [.Name name fp,.Name dO fC] l dy) (.Call (.Name "enumerate" hk) [aM] [] dl) body [] pos) λR=>aY (xG i j (c7 bM) R):=by
 refine⟨λW ag ai y s R b6 E aQ bJ h F S af=>?_⟩
 refine wpAny_For (tb<|xt hf aQ h F S λL X aB=>?_)<|U ag
 clear S
 have aJ:=F.cy aB
 refine callWith_of (P:=λq=>True) (by rw[aP];rfl) (λC q=>uY λq aM=>by cases aM)<|t4 (aP _ _)<|b0 ((Fl he Fm bU).r W ag ai y L _ _ [] _ _ aQ h aJ X af) (λaj be A=>gZ A λus ay bb H av ap cd=>⟨trivial,?_⟩) λq q aM=>aM
 refine cS (m3 (P:=λu=>gT u λr=>tz r i j (yb ⟨c,bf,b6⟩<|c7 bM) (mv ⟨c,bf,b6⟩ R []) ai ay) (by rcases us with _|⟨a,_|_⟩<;>first|exact cd|cases ap) bb) λu cr q ev aU C=>?_
 refine a9 (f3 C) λr aX C=>dT C λa8 len bI a7=>?_
 subst ev
 rw[aX] at aU
 cases aU
 clear cd bb C
 have bC:=aJ.cy av
 refine q0 (a7 0 ai ay bI) λus ax bL q q q=>dT (uJ H ax) λd a3 bJ T=>(?_:b7 c.M W (call (.type "enumerate") [.ref r]) _ _ be)
 refine call_enumerate_list (fW bJ) λO b4 ck ar an=>wpAny_pyIter_enum b4 ?_
 have p:bz c ay {be with heap:=O}:=H.grow (t:=be.toks) an
 have aq:bO cX y s ay {be with heap:=O}:=(aB.trans av).trans<|.grow (t:=be.toks) an
 have bg:cH ag nm ai ay O:=bC.cy (aH:={be with heap:=O})<|.grow (t:=be.toks) an
 have bH:be.heap.get? be.heap.objs.size=am:=md _<|c1 _
 have ad:be.heap.get? (be.heap.objs.size+1)=am:=md _<|g5 _
 generalize cp:be.heap.objs.size=g at*
 have bY:=r9 (aB.trans av) bH
 have b8:=r9 (aB.trans av) ad
 have aK:=jd H bH
 have bB:=jd H ad
 have fV:=q6 H bH
 have ga:=q6 H ad
 have aS:g∉addrs ag:=λz=>by obtain⟨o,aM⟩:=F.live _ z;replace aM:=bY▸aM;exact bX aM
 have bl:g+1∉addrs ag:=λz=>by obtain⟨o,aM⟩:=F.live _ z;replace aM:=b8▸aM;exact bX aM
 generalize ce:g+1=e at*
 have bw:e≠g:=by refine bm ce ?_;exact XA _
 refine codeAny_forLoop_any (λm aH=>∃k B Z dA,m=len -k/\k<=len/\cH ag nm B Z aH.heap/\bz c Z aH/\bO (Own ag) y s Z aH/\Z g=am/\Z e=am/\IsEnum aH.heap e g ((k:Nat):Int) dA/\aH.heap.IsListIter g r k/\a8 k B Z) ?_ len ⟨0,ai,ay,.none,rfl,dU _,bg,p,aq.g1,fV,ga,b4,ck,bI⟩
 intro m aH bo
 refine hh bo λk B Z dA bG=>yN bG λaD x ak au K D bh bV N bk=>?_;clear bo;subst aD
 refine q0 (a7 k B Z bk) λus ax bL q bR bS=>dT (uJ au ax) λd a3 bJ T=>?_
 cases aL:us[k]? with
 |none=>
  have bp:k=len:=by replace aL:=(propext ro)▸aL;exact ch (.eq aa ab) [.le aa ab,.eq ah ab,.le ah aa] x bL aL
  have a0:d[k]?=am:=by exact bm kv<|ro.mpr (by refine bm T.length ?_;exact ro.mp aL)
  exact wpAny_pyNext_enum_end aQ.handled bV N (fW bJ) a0 λaG n=>qd<|gr (k:=.next) (aH:={aH with heap:=aG}) rfl (ak.ext n aS) (au.ext (t:=aH.toks) n D aK) (K.ext (t:=aH.toks) n bY)<|bR bp
 |some u=>
  refine a9 (T.get aL) λv a6 aI=>?_;have aW:d[k]?=Y v:=by refine bm kv ?_;exact a6
  have G:k<len:=by have:=(e8.mp aL).1;exact ch (.lt aa ab) [.eq ah ab,.lt aa ah] bL this
  refine wpAny_pyNext_enum_item bV N (fW bJ) aW bw λaV cg b5 cl cq cj=>wpAny_letOwnedTupleGo_enum cg λbc cf ae=>?_;replace ae:qc e aV bc:=ae;have bA:tx e g aH.heap bc:=λbody o bH ad aM=>ae.extBut body o bH<|cj body o bH ad aM;have aT:bz c Z {aH with heap:=bc,toks:=aH.toks+1}:=au.ext2 (t:=aH.toks+1) bA bh D bB aK;have bd:bO (Own ag) y s Z {aH with heap:=bc,toks:=aH.toks+1}:=K.ext2 (t:=aH.toks+1) bA b8 bY;have a2:cH ag nm B Z bc:=ak.ext2 bA bl aS;have bD:({aH with heap:=bc,toks:=aH.toks+1}:bZ).heap.get? aH.heap.objs.size=Y {cls:=.type "tuple",data:=.seq #[.int k aH.toks,v]}:=by refine(ae.2 _ λz=>?_).trans cl;have:=im bV;rw[<-z] at this;exact nY _ this
  refine(?_:b7 c.M W (do lP dy;unpack (.ref aH.heap.objs.size) [(false,assign (.Name name fp) ag),(false,assign (.Name dO fC) ag)]) _ _ {aH with heap:=bc,toks:=aH.toks+1});refine cc<|qe<|unpack_tuple (items:=#[.int k aH.toks,v]) aQ.handled (kV _ bD rfl (0) rfl) rfl rfl λao ci=>?_;have I:=r6 ci;have bv:cH ag nm B Z ao:=a2.cy (s:={aH with heap:=bc,toks:=aH.toks+1}) (aH:={aH with heap:=ao,toks:=aH.toks+1})<|.grow (t:=aH.toks+1) I;have a5:bz c Z {aH with heap:=ao,toks:=aH.toks+1}:=aT.grow (t:=aH.toks+1) I;have cb:bO (Own ag) y s Z {aH with heap:=ao,toks:=aH.toks+1}:=bd.trans<|.grow (t:=aH.toks+1) I;have b3:∀(name:Str) (fp:Pos) (W:eO) (E:bt->bZ->Prop) (s:bZ) (v:bt) (P:Unit->bZ->Prop),b7 c.M W (storeName ag name v) P E s->b7 c.M W (assign (.Name name fp) ag v) P E s:=λname fp W E s v P C=>assign_Name C;refine zo (s:={aH with heap:=ao,toks:=aH.toks+1}) (is:=[i,j]) (Q:=[name,dO]) (us:=[.int k,u]) h bv a5 ⟨b3 name fp,b3 dO fC,trivial⟩ ⟨a4,bu,trivial⟩ rfl ⟨⟨_,rfl⟩,aI,trivial⟩ λb9 a1 bN bE=>b0 (aA.r W ag _ Z b9 _ _ _ aQ trivial h a1 bN<|bS u aL) (λf aE A=>mB A λb ca bQ a bK ba bi bq=>?_) λq q aM=>aM;have aF:=(cb.trans bE).trans bi;have bT:∀w:a8 (k+1) ca bQ,∃m,m<len -k/\∃k B Z dA,m=len -k/\k<=len/\cH ag nm B Z aE.heap/\bz c Z aE/\bO (Own ag) y s Z aE/\Z g=am/\Z e=am/\IsEnum aE.heap e g ((k:Nat):Int) dA/\aE.heap.IsListIter g r k/\a8 k B Z:=λw=>by
   have aO:IsEnum ao e g ((k:Int)+1) v:=I _ _ cf;have al:=bE.ea e _ (λz=>bl z) bh aO;have V:=bE.fresh e _ aO bh;have bn:=bi.ea e _ (λz=>bl z) V al;have b2:=bi.fresh e _ al V;refine d8 b5 λbW aZ bx bF=>?_;clear b5;have aN:ao.get? g=Y bW:=I _ _<|ae.extBut _ _ (hT bw) aZ;have br:=bE.ea g _ (λz=>aS z) D aN;have b1:=bE.fresh g _ aN D;have cm:=bi.ea g _ (λz=>aS z) b1 br;have co:=bi.fresh g _ br b1;have lh:((k+1:Nat):Int)=(k:Int)+1:=by exact gb<|.Eq (.c<|.a aa aC)<|.a (.c aa) aC
   replace bn:=(dp lh)▸bn;exact⟨len -(k+1),by exact cn (.lt aa ab) [.lt ah az,.sub aa az<|.a ah aC,.sub ab az ah] G rfl rfl,k+1,ca,bQ,v,rfl,G,bK,ba,aF,co,b2,bn,(dj bW cm bx bF),w⟩
  cases b with
  |next=>refine J a ?_;exact bT bq
  |cont=>exact bq.elim
  |brk=>exact bq.elim
  |ret u=>obtain⟨v,rfl,a6⟩:=a;exact gr (k:=.ret u) (bj v rfl a6) bK ba aF bq
def n2 (c:cG)(x:Str)(u:V):Prop:=∃v,nsIn c.K iI x=Y (Y v)/\u.is v
def qk (c:cG)(x:Str):Prop:=nsIn c.K iI x=Y am
theorem HS (a1:c.Ok)(C:n2 c w u)(aL:aw.names.lookup w=Y .globalImplicit)(hd:(w==("__debug__":Str))=false):bP c b aw nm (.Name w pos) (aR u):=by refine a9 C λv ak ao=>?_;clear C;exact VZ a1 ak ao aL hd
theorem VW (a1:c.Ok)(C:qk c w)(a6:p9 w=Y v)(aX:w≠"__name__")(aL:aw.names.lookup w=Y .globalImplicit)(hd:(w==("__debug__":Str))=false): bP c b aw nm (.Name w pos) (aR<|.ext v):=VX a1 C a6 aX aL hd
theorem V1:bP c e aw nm (.UnaryOp .USub (.Constant (.int 1) b dl) pos) (aR<|.int (-1)):=⟨(Ft HT).r⟩
noncomputable def oe (sc:cC):Env:={scope:=sc,locals:=0,globals:=0,cells:=[]}
theorem FF (i:Nat)(a4:nm[i]?=Y w)(C:bP c b aw nm aM aY)(U:∀ag,ag.scope=aw->j3 aM (Y<|.Name w dl) pos.line ag=pure false):fo c b aw nm (.Assign [.Name w dl] aM pos) λR=>aY (b2 i R):=by refine⟨λW ag ai I s R j E aQ bJ h F S af=>?_⟩;refine wpAny_Assign_Name (b0 (C.r W ag ai I s _ _ [] E aQ h F S af) (λv be A=>cS A λu ay aU H av aZ=>?_) λq q aM=>aM)<|U ag h.dv;exact q7 h (F.cy av) H a4 aU λaH ak au D=>gr (k:=.next) rfl ak au (av.g1.trans D) aZ
variable{g2:Option (List Str)}
theorem Wx (C:ag.scope=aw)(aA:nM al aM (oe aw)=pure g2):nM al aM ag=pure g2:=by replace aA:=(dp C)▸aA;exact(rfl:nM al aM ag=nM al aM (oe ag.scope)).trans aA
noncomputable def tI (nm:List Str):List Nat->List Str->Bool
 |[],[]=>true
 |i::is,x::Q=>decide (nm[i]?=Y x)&&tI nm is Q
 |_,_=>false
theorem Ku:∀{is:List Nat} {Q:List Str},tI nm is Q=true->mU nm is Q:=by
 intro D;induction D with
 |nil=>
  intro f;cases f with
  |nil=>intro o;exact trivial
  |cons h j=>intro C;exact kc C
 |cons i is B=>
  intro f;cases f with
  |nil=>intro C;exact kc C
  |cons x Q=>intro C;replace C:=(d9 _ _)▸(C:(decide (nm[i]?=Y x)&&tI nm is Q)=true);exact⟨of_decide_eq_true C.1,B C.2⟩
noncomputable def xa (sc aw:cC)(nm:List Str)(x:Str)(fr:List Str)(is:List Nat):Bool:= decide (aw.kind=.function)&&decide (∀y∈aw.names,y.2≠.cell)&&decide (∀y∈aw.names,y.2=.local->aw.names.lookup y.1=Y .local)&&decide (aw.names.lookup x=Y .local)&& decide ((kS sc aw).names.lookup x=Y .local)&&decide (∀y∈aw.names,y.2=.free->y.1∈fr)&&decide (∀y∈fr,sc.names.lookup y=Y .cell/\(y,pZ)∈aw.names/\(kS sc aw).names.lookup y=Y .cell)&& tI nm is fr&&decide ((x::fr).Nodup)&&decide ((aw.names.map (·.1)).Nodup)
theorem Oe (C:xa a3 aw nm w sn aW=true):o4 a3 aw nm w sn aW:=by unfold xa at C;simp only[d9,decide_eq_true_eq] at C;refine bA λco aB=>?_;obtain⟨⟨⟨⟨⟨⟨⟨⟨⟨a,b⟩,d⟩,e⟩,f⟩,g⟩,i⟩,j⟩,k⟩,l⟩:=C;exact aB<|⟨a,b,d,e,f,g,i,Ku j,k,l⟩
noncomputable def vr (sc:cC)(names nm:List Str):Bool:= decide (sc.kind=.function)&& !sc.isCoroutine&& !sc.isGenerator&&decide ((sc.names.map (·.1)).Nodup)&&decide nm.Nodup&&decide (names<+:nm)&&decide (∀x∈nm,sc.names.lookup x=Y .local\/sc.names.lookup x=Y .cell)
theorem vt (C:vr aw names nm=true):m1 aw names nm:=by unfold vr at C;simp only[d9,decide_eq_true_eq,oW] at C;refine bA λco aB=>?_;obtain⟨⟨⟨⟨⟨⟨a,b⟩,d⟩,e⟩,f⟩,g⟩,i⟩:=C;exact aB<|⟨a,b,d,e,f,g,i⟩
def wY (us:List V)(ad:V->aI->Prop)(I:aI):Prop:=l6 us λo u=>j8 o λl=>iT u λk=>∃ns:List Int,I l=Y (.list<|(k::ns).map .int)/\ns.length<1000/\∀D,Upd I D l (.list<|ns.map .int)->ad .none D
theorem ints_get:∀{ns:List Int} {aj:List bt},cj (ns.map .int) aj->∀v∈aj,∃i t,v=.int i t:=by
 intro D;induction D with
 |nil=>
  intro f;cases f with
  |nil=>intro o v C;cases C
  |cons h j=>intro C K c;exact C.elim
 |cons a ns B=>
  intro f;cases f with
  |nil=>intro d l b;first|exact d.elim|exact l.elim|exact b.elim|cases d|cases l|cases b
  |cons x aj=>
   intro g v a6;obtain⟨⟨t,e⟩,C⟩:=g;rcases fF.mp a6 with rfl|a6
   ·exact lG a t e
   ·exact B C v a6
theorem Ln:fZ c j (.builtin "list.remove") wY:=by
 intro W I s ad E us aj aQ S bb af;refine bA λco aB=>oD (l7 af bb) λo u B w aD O aO aU n=>?_;replace bb:=aD▸bb;replace af:=aD▸af;replace aB:=O▸aB;replace bb:=O▸bb;refine a9 (f3 n) λl h A=>?_;clear n af bb;replace aO:=h▸aO;refine ig (jE A) λk h ns C aq X=>?_;replace aU:=h▸aU;replace aB:=aO▸aB;obtain⟨t,rfl⟩:=aU;refine dT (S.rep _ _ C) λd a3 e i=>?_;have ap:d.size=ns.length+1:=by refine bm eN<|bm i.length ?_;simp
 obtain⟨⟨D,N⟩,T⟩:∃p:bt×List bt,d.toList=p.1::p.2:=by
  cases G:d.toList with
  |nil=>rw[G] at i;exact i.elim
  |cons a b=>exact⟨(a,b),rfl⟩
 have f:=i;rw[T] at f;obtain⟨⟨M,g⟩,H⟩:=f;refine aB ?_;let x:bt->Bool:=λv=>match v with|.int a _=>a==k|_=>false
 dsimp only at T H g;have he:∀y,y∈d->PySem.MeetsSeq.EqGives y (.int k t) (x y):=λy L=>by refine fc (ints_get i y<|by simpa using L) λa u bh=>?_;refine J bh ?_;exact PySem.MeetsSeq.EqGives.int a k u t
 have K:d[0]'(bH (.lt b1 aa) [.eq aa<|.a ab aC] ap)=D:=by
  have:d.toList[0]?=Y D:=by refine J T ?_;rfl
  rw[kv] at this;exact(lI.mp this).2
 refine td PySem.F.slot_list_remove (bj _ e rfl) PySem.F.entry_list_remove (PySem.F.args_list_remove_2 _ _) (PySem.MeetsSeq.list_remove l d a3 (.int k t) x he 0 (bH (.lt b1 aa) [.eq aa<|.a ab aC] ap) (by refine J K<|J (g:D=XM k M) ?_;simp[x]) (λm q hm=>absurd hm<|Nat.not_lt_zero _)<|by refine J ap<|J eI ?_;exact cK (.le (.a aa aC)<|.k 16777216) [.lt aa<|.k 1000] aq) ⟨e,vC S .refl C e ?_ X⟩;have:(d.eraseIdxIfInBounds 0).toList=N:=by simp[Array.eraseIdxIfInBounds,show 0<d.size by exact bH (.lt b1 aa) [.eq aa<|.a ab aC] ap,T]
 refine J this ?_;exact H
theorem S6:n4 "list" "remove" "list.remove":=⟨Ai,PySem.F.slot_list_remove,F.type_list_remove⟩
noncomputable abbrev dt (l:List Env):List Addr:=l.filterMap (·.frame)
structure Ent (S:List Addr)(e:Addr)(c:Obj)(aj:Array bt)(T:Addr)(C aG:Heap):Prop where
 exc:aG.get? e=Y {c with data:=.fields (aj.setIfInBounds 1 (.ref T))}
 Ik:∃t g,aG.get? T=Y t/\t.data=.fields g/\g[3]?=Y .none
 new:C.get? T=am
 same:∀b o,b≠e->b∉S->C.get? b=Y o->aG.get? b=Y o
 slots:∀b o,b≠e->C.get? b=Y o->∃dZ,aG.get? b=Y {o with slots:=dZ}
theorem E9 {M:Model}{E:bt->bZ->Prop}{W:eO}{s:bZ}{base:Heap}{ag:Env}{aW:List Env}{L e:Addr}{c:Obj}{aj:Array bt}{head:bt}{v:Bool}{ad:Unit->bZ->Prop} (aE:W.frames=Y (ag::aW))(ap:s.heap.FunFrames base (ag::aW))(hf:ag.frame=Y L)(he:s.heap.get? e=Y c)(hd:c.data=.fields aj)(ar:1<aj.size) (C:∀aG T,Ent (dt<|ag::aW) e c aj T s.heap aG->ad () {s with heap:=aG}): b7 M W (do let a<-frameOf ag;let cY<-entryPlaceOf L v;let b<-XN head a .none (rawInt L) .none cY;setField (.ref e) 1 b) (λq aH=>b7 M W (p0 (.ref e) am) ad E aH) E s:=by
 have A:e∉dt (ag::aW):=λhm=>by refine dF (ap.mem hm) λq bG=>dr bG λo ax=>dF ax λaO d=>?_;replace aO:=he▸aO;injection aO with aO;subst aO;exact d aj hd
 refine cc<|wpAny_frameOf_fun aE ap hf λaZ g=>?_;refine cc<|wpAny_entryPlaceOf λcY bR=>?_;unfold XN newFields;refine cc<|wpAny_newObj_type ?_<|bR.sizeOk5 _ _ _ _ _;have n:aZ.get? e=Y c:=(g.2.1 e A).trans he;have u:s.heap.get? aZ.objs.size=am:=by
  cases X:s.heap.get? aZ.objs.size with
  |none=>rfl
  |some o=>obtain⟨dZ,e⟩:=g.2.2 _ o X;replace e:=(md _<|c1 _)▸e;exact bX e
 generalize H:({cls:=.type "traceback",dict:=am,data:=.fields ([head,.ref L,.none,rawInt L,.none]++(if cY.isEmpty then eb 6 nO else cY)).toArray}:Obj)=cm;have i:cm.data=.fields ([head,.ref L,.none,rawInt L,.none]++(if cY.isEmpty then eb 6 nO else cY)).toArray:=by exact bm H rfl
 have B:cm.isFreed=false:=by refine bm H ?_;rfl
 have aC:=iJ (h:=aZ) cm n;refine wpAny_setField aC hd ar ?_;have aa:aZ.objs.size≠e:=Ji<|im n;have m:=th hd (·.setIfInBounds 1 (mO aZ.objs.size));have a3:=rj (rp (·.setIfInBounds 1 (mO aZ.objs.size))) aC<|Ap m;have l:=(Aq (aZ.push cm) (rp (·.setIfInBounds 1 (mO aZ.objs.size)))<|hT aa).trans<|kY aZ B;unfold p0;refine cc<|oV a3 m (x:=.ref aZ.objs.size) (by simp[ar]) ?_;refine J (if_pos (by simp:(mO aZ.objs.size !=nO)=true)) ?_;refine wpAny_setField l i (by simp only[Xx,bK,fe,ju]<;>omega)<|C _ aZ.objs.size ?_;have keep:∀b o,b≠e->aZ.get? b=Y o-> (((aZ.push cm).update e (rp (·.setIfInBounds 1 (mO aZ.objs.size)))).update aZ.objs.size (rp (·.setIfInBounds 3 ((am:Option Addr).elim nO λf=>rawInt f)))).get? b=Y o:=λb o y aA=>by have w:aZ.objs.size≠b:=Ji<|im aA;exact J (Aq _ _ w)<|J (Aq _ _<|hT y)<|iJ _ aA
 refine⟨?_,?_,u,λb o aA t af=>keep b o aA<|(g.2.1 b t).trans af,λb o aA af=>?_⟩
 ·refine J (Aq _ _ aa)<|J a3 ?_;obtain⟨ab,p,j,D⟩:=c;change j=_ at hd;refine J hd ?_;rfl
 ·exact(eV _ _ (rj _ l<|Ap<|th i _) (th i _)<|by first|(simp;done)|(rcases bR with rfl|⟨_,_,_,_,_,_,_,rfl⟩<;>simp))
 ·obtain⟨dZ,e⟩:=g.2.2 b o af;exact⟨dZ,keep b _ aA e⟩
theorem TJ {M:Model}{E:bt->bZ->Prop}{W:eO}{s:bZ}{base:Heap}{ag:Env}{aW:List Env}{L e:Addr}{c:Obj}{aj:Array bt}{ad:Unit->bZ->Prop} (aE:W.frames=Y (ag::aW))(ap:s.heap.FunFrames base (ag::aW))(hf:ag.frame=Y L)(he:s.heap.get? e=Y c)(hd:c.data=.fields aj)(ak:aj[1]?=Y .none) (C:∀aG T,Ent (dt<|ag::aW) e c aj T s.heap aG->ad () {s with heap:=aG}):b7 M W (noteFrame (.ref e) ag) (λq aH=>b7 M W (p0 (.ref e) am) ad E aH) E s:=by unfold noteFrame;simp only[hf];refine cc<|oV he hd ak ?_;exact J (if_neg<|by decide)<|E9 aE ap hf he hd (lI.mp ak).1 C
theorem TK {M:Model}{E:bt->bZ->Prop}{W:eO}{s:bZ}{base:Heap}{ag:Env}{aW:List Env}{L e T:Addr}{c t:Obj}{aj g:Array bt}{ad:Unit->bZ->Prop} (aE:W.frames=Y (ag::aW))(ap:s.heap.FunFrames base (ag::aW))(hf:ag.frame=Y L)(he:s.heap.get? e=Y c)(hd:c.data=.fields aj)(ak:aj[1]?=Y (.ref T)) (aa:T≠e)(bD:s.heap.get? T=Y t)(l:t.data=.fields g)(bp:g[3]?=Y .none) (C:∀n aG aw,qc T s.heap n->(∃cm,n.get? T=Y cm)->Ent (dt<|ag::aW) e c aj aw n aG->ad () {s with heap:=aG}):b7 M W (noteFrame (.ref e) ag) (λq aH=>b7 M W (p0 (.ref e) am) ad E aH) E s:=by unfold noteFrame;simp only[hf];refine cc<|oV he hd ak ?_;refine J (if_pos (by simp:(mO T !=nO)=true)) ?_;refine cc<|oV bD l bp ?_;refine J (if_neg (by simp[rawInt]:¬ ((nO==rawInt L)=true))) ?_;refine cc<|wpAny_setField bD l (lI.mp bp).1 ?_;have h:qc T s.heap (s.heap.update T (rp (·.setIfInBounds 3 nO))):=⟨Xw _ _ _,λb aA=>vQ _ _ _ _ aA⟩;refine E9 aE (ap.of_keeps λb o aA d=>(bj o ((h.2 b λX=>?_).trans aA) rfl)) hf ((h.2 e<|hT aa).trans he) hd (lI.mp ak).1 λaG aw aF=>C _ aG aw h ⟨_,rj _ bD<|Ap<|th l _⟩ aF;replace aA:=bD▸X▸aA;injection aA with aA;subst aA;exact d g l
theorem RX (C:b7 ld b5 (noteFrame v ag) (λq aH=>b7 ld b5 (p0 v am) gs E aH) E s):b7 ld b5 (leaving ag v) gs E s:=by unfold leaving;exact cc C
structure Frs (c:cG)(aW:List Env)(I:aI)(C:Heap):Prop where
 oh:C.FunFrames c.base aW
 off:∀a∈dt aW,I a=am
def AR (as:List (Str×V))(m:Str->Option bt):Prop:=∀x u,as.lookup x=Y u->∃v,m x=Y v/\u.is v
structure Exc (c:cG)(ae:Addr)(C:Heap)(I:aI)(e d:Addr)(as:List (Str×V)):Prop where
 exc:∃aj dZ,C.get? e=Y ⟨.ref ae,Y d,.fields aj,dZ⟩/\
  (aj[1]?=Y .none\/∃T t g,aj[1]?=Y (.ref T)/\T≠e/\C.get? T=Y t/\t.data=.fields g/\g[3]?=Y .none/\I T=am/\c.base.get? T=am)
 dict:∃m,C.Ns1 d m/\AR as m
 ny:I e=am
 oE:I d=am
 m4:c.base.get? e=am
 based:c.base.get? d=am
structure iM (c:cG)(ae:Addr)(aW:List Env)(ex:Addr->Prop)(y:aI)(L:bZ)(I:aI)(s:bZ)(e d:Addr)(as:List (Str×V)):Prop where
 sim:bz c I s
 exc:Exc c ae s.heap I e d as
 dt:Frs c aW I s.heap
 qS:L.heap.get? e=am
 pA:L.heap.get? d=am
 pz:∀aj o T,s.heap.get? e=Y o->o.data=.fields aj->aj[1]?=Y (.ref T)->L.heap.get? T=am
 ea:∀a o,¬ ex a->a∉Mine.dt aW->y a=am->L.heap.get? a=Y o->s.heap.get? a=Y o
 slots:∀a o,a∈Mine.dt aW->L.heap.get? a=Y o->∃dZ,s.heap.get? a=Y {o with slots:=dZ}
 live:∀a o,L.heap.get? a=Y o->∃q,s.heap.get? a=Y q
 fresh:∀a o,L.heap.get? a=Y o->y a=am->I a=am
abbrev tF:=List (Str×V)->aI->Prop
def JU (c:cG)(ae:Addr)(aW:List Env)(I:aI)(s:bZ)(aF:tF):bt->bZ->Prop:=λv aH=>∃e d as Z,v=.ref e/\iM c ae aW cX I s Z aH e d as/\aF as Z
abbrev h1:=List (Str×V)->List V->aI->Prop
def mW (c:cG)(ae:Addr)(ag:Env)(nm:List Str)(aW:List Env)(I:aI)(s:bZ)(aF:h1):bt->bZ->Prop:=λv aH=>∃e d as B Z,v=.ref e/\iM c ae aW (Own ag) I s Z aH e d as/\cH ag nm B Z aH.heap/\aF as B Z
abbrev i8:=h1->bq
def lT (c:cG)(ae:Addr)(n:Nat)(f:V)(args:List V)(ad:V->aI->Prop)(aF:tF)(I:aI):Prop:= ∀(W:eO) (aW:List Env) (s:bZ) (ee:bt) (aj:List bt) (R:Result->bZ->Prop),fz W n->W.frames=Y aW->Frs c aW I s.heap->bz c I s->f.is ee->cj args aj->(∀v aH,dV c I s ad v aH->R (.ok<|.ret v) aH)-> (∀v aH,JU c ae aW I s aF v aH->R (.error v) aH)->jX c.M W (.call ee ⟨aj,[]⟩) R s
structure k7 (ag:Env)(aW:List Env):Prop where
 own:ag.frame=Y ag.locals
 apart:∀a∈dt aW,¬ Own ag a
structure ky (c:cG)(ae:Addr)(n:Nat)(sc:cC)(nm:List Str)(st:Stmt)(K:i8):Prop where
 r:∀(W:eO) (ag:Env) (aW:List Env) (ai:List V) (I:aI) (s:bZ) (R:aP) (j:ja) (aF:h1),fz W n->k7 ag aW->W.frames=Y (ag::aW)->Frs c aW I s.heap->fy c ag sc nm->cH ag nm ai I s.heap->bz c I s->K aF R ⟨c,n,j⟩ ai [] I->
  b7 c.M W (exec st ag) (iL c ag nm I s (mv ⟨c,n,j⟩ R [])) (mW c ae ag nm aW I s aF) s
structure mZ (c:cG)(ae:Addr)(n:Nat)(sc:cC)(nm:List Str)(st:List Stmt)(K:i8):Prop where
 r:∀(W:eO) (ag:Env) (aW:List Env) (ai:List V) (I:aI) (s:bZ) (R:aP) (j:ja) (aF:h1),fz W n->k7 ag aW->W.frames=Y (ag::aW)->Frs c aW I s.heap->fy c ag sc nm->cH ag nm ai I s.heap->bz c I s->K aF R ⟨c,n,j⟩ ai [] I->
  b7 c.M W (execs st ag) (iL c ag nm I s (mv ⟨c,n,j⟩ R [])) (mW c ae ag nm aW I s aF) s
variable{aW:List Env}
theorem Frs.mem (F:Frs c aW I C)(aK:a∈dt aW):c.base.get? a=am/\∃o,C.get? a=Y o/\∀aj,o.data≠.fields aj:=F.oh.mem aK
theorem Frs.keep:∀{C aG:Heap},C.FunFrames c.base aW->(∀a o,a∈dt aW->C.get? a=Y o->∃dZ,aG.get? a=Y {o with slots:=dZ})->aG.FunFrames c.base aW:=by
 induction aW with
 |nil=>intro C aG q q;trivial
 |cons ag d B=>
  rintro C aG ⟨an,⟨L,o,hf,aX,aO,hd⟩,ax⟩ k;have e:dt (ag::d)=L::dt d:=by unfold dt;exact J pV<|J hf rfl
  obtain⟨dZ,U⟩:=k L o (by refine J e ?_;exact .head _) aO;exact⟨an,(gd L _ hf aX U hd),B ax λa o aK=>k a o<|by refine J e ?_;exact .tail _ aK⟩
theorem Frs.cy (F:Frs c aW I s.heap)(aX:∀a∈dt aW,¬ aJ a)(x:bO aJ I s Z aH):Frs c aW Z aH.heap:=by refine⟨Frs.keep F.oh λa o aK e=>⟨o.slots,x.ea a o (aX a aK) (F.off a aK) e⟩,λa aK=>?_⟩;exact dF (F.mem aK) λq bG=>dr bG λo ax=>dF ax λe q=>x.fresh a o e<|F.off a aK
theorem iM.trans {d:Addr}(x:bO aJ Z aH ay be)(F:Frs c aW Z aH.heap)(aX:∀a∈Mine.dt aW,¬ aJ a)(y:iM c ae aW aJ ay be I s cl d ce):iM c ae aW aJ Z aH I s cl d ce:=by
 obtain⟨l,e,w,B,v,f,V,b2,g,h⟩:=y;have u:∀a,be.heap.get? a=am->aH.heap.get? a=am:=λa C=>by
  cases X:aH.heap.get? a with
  |none=>rfl
  |some o=>obtain⟨q,a7⟩:=x.live a o X;replace a7:=C▸a7;exact bX a7
 refine⟨l,e,w,u _ B,u _ v,λaj o T a b d=>u _<|f aj o T a b d,λa o C aG z cl=>V a o C aG (x.fresh a o cl z)<|x.ea a o C z cl,λa o C cl=>b2 a o C<|x.ea a o (aX a C) (F.off a C) cl,λa o cl=>?_,λa o cl z=>?_⟩
 ·obtain⟨q,a7⟩:=x.live a o cl;exact g a q a7
 ·obtain⟨q,a7⟩:=x.live a o cl;exact h a q a7<|x.fresh a o cl z
theorem mW.trans {c:cG}{nm:List Str}{ae:Addr}{ag:Env}{aW:List Env}{y ay:aI}{L be:bZ}{aF:h1}(x:bO (Own ag) y L ay be)(F:Frs c aW y L.heap)(ok:k7 ag aW):∀v aH,mW c ae ag nm aW ay be aF v aH->mW c ae ag nm aW y L aF v aH:= λq q A=>kP A λe d as B Z bG=>gM bG λa b f X=>(⟨e,d,as,B,Z,a,(b.trans x F ok.apart),f,X⟩)
theorem Frs.push (G:Frs c aW I s.heap)(ok:k7 ag aW)(h:fy c ag aw nm)(F:cH ag nm ai I s.heap):Frs c (ag::aW) I s.heap:=by
 obtain⟨m,d,⟨o,al,cv,aO,hd,_⟩,_⟩:=F.ex;refine⟨⟨by refine J h.dv<|J h.kind ?_;exact(λX=>by cases X),(gd ag.locals o ok.own (h.new _<|.head _) aO λaj=>by refine J hd ?_;exact(λX=>by cases X)),G.oh⟩,λa aK=>?_⟩;unfold dt at aK;replace aK:=ok.own▸pV▸aK;rcases fF.mp aK with rfl|aK
 ·exact F.off _<|.head _
 ·exact G.off a aK
theorem cH.xu (ok:k7 ag aW)(h:fy c ag aw nm)(F:cH ag nm ai I s.heap)(y:iM c ae (ag::aW) cX I s Z aH cl N ce):cH ag nm ai Z aH.heap:=by
 have G:=F.live;obtain⟨⟨m,d,aX,a1,a6⟩,ap,aO,aq⟩:=F;have aE:dt (ag::aW)=ag.locals::dt aW:=by unfold dt;exact J pV<|J ok.own rfl
 refine⟨(eV m d ?_ (λz k cl=>?_) a6),ap,λa aK=>dr (G a aK) λo cl=>y.fresh a o cl<|aO a aK,λp aP=>dr (aq p aP) λo cl=>y.live _ o cl⟩
 ·refine fi aX λo al cv cl r=>?_;clear aX;obtain⟨dZ,U⟩:=y.slots _ o (by refine J aE ?_;exact .head _) cl;exact i4 _ al cv U r
 ·refine a9 (a1 z k cl) λo a7 r=>?_;have hm:k∈addrs ag:=.tail _<|eF.mpr<|bj ((z,k)) (mem_of_lookup cl) rfl;refine(bj o (y.ea k o id (λX=>?_) (aO k hm) a7) r);replace X:=aE▸X;rcases fF.mp X with X|X
  ·exact h.above z k (mem_of_lookup cl) X.symm
  ·exact ok.apart k X hm
theorem iM.inner (ok:k7 ag aW)(y:iM c ae (ag::aW) cX Z aH I s cl N ce):iM c ae aW (Own ag) Z aH I s cl N ce:=by
 have aE:Mine.dt (ag::aW)=ag.locals::Mine.dt aW:=by unfold Mine.dt;exact J pV<|J ok.own rfl
 refine{y with dt:=⟨y.dt.oh.2.2,λa aK=>y.dt.off a<|by refine J aE ?_;exact .tail _ aK⟩,ea:=λa o C aG=>y.ea a o id λX=>?_,slots:=λa o C=>y.slots a o (by refine J aE ?_;exact .tail _ C)};replace X:=aE▸X;rcases fF.mp X with rfl|X
 ·exact C<|.head _
 ·exact aG X
theorem sb (C:fo c b aw nm aL aY):ky c ae b aw nm aL λq R=>aY R:= ⟨λW ag aW ai I s R j aF aQ q q q h F S af=>C.r W ag ai I s _ _ _ aQ trivial h F S af⟩
variable{iO eR:i8}
theorem Qu (C:ky c ae l aw nm aL iO)(aG:mZ c ae l aw nm body eR):mZ c ae l aw nm (aL::body) λaF R=>iO aF (eR aF R):=by
 refine⟨λW ag aW ai I s R j aF aQ ok aE G h F S af=>?_⟩;refine v9<|b0 (C.r W ag aW ai I s _ _ aF aQ ok aE G h F S af) (λf be A=>mB A λk B ay a bC H av i=>?_) λq q e=>e;cases k with
 |next=>refine J a ?_;exact b0 (aG.r W ag aW B ay be R j aF aQ ok aE (G.cy ok.apart av) h bC H i) (iL.trans av)<|mW.trans av G ok
 |brk=>exact i.elim
 |cont=>exact i.elim
 |ret u=>obtain⟨v,rfl,a6⟩:=a;exact gr (k:=.ret u) (bj v rfl a6) bC H av i
theorem Qw:mZ c ae b aw nm [] λq R=>R:=⟨λq q q q q q q q q q q q q q F S af=>qd<|gr (k:=.next) rfl F S .refl af⟩
theorem Qv (bd:ir c l aw nm aM hW)(aA:mZ c ae l aw nm body eR)(aO:mZ c ae l aw nm iz iO):ky c ae l aw nm (.If aM body iz pos) λaF R=>hW (eR aF R) (iO aF R):=by
 refine⟨λW ag aW ai I s R j aF aQ ok aE G h F S af=>?_⟩;refine wpAny_If<|b0 (bd.r W ag ai I s _ _ _ [] _ aQ h F S af) (λv be A=>d8 A λay H av aZ=>?_) λq q e=>e;have f:=G.cy (λq q=>id) av;clear A;cases v with
 |true=>refine J (if_pos rfl) ?_;exact b0 (aA.r W ag aW ai ay be R j aF aQ ok aE f h (F.cy av) H aZ) (iL.trans av.g1)<|mW.trans av.g1 G ok
 |false=>refine J (if_neg<|by decide) ?_;exact b0 (aO.r W ag aW ai ay be R j aF aQ ok aE f h (F.cy av) H aZ) (iL.trans av.g1)<|mW.trans av.g1 G ok
abbrev ux (ae:Addr)(aF:h1)(b:jb)(R:aP):aP:=λk ai S I=>b S λus S=>dC S λu S=>gT u λf=>lT k.c ae k.d (.ref f) us (λq Z=>R k ai S Z) (λas Z=>aF as ai Z) I
theorem Qt (a1:c.Ok)(hf:bP c b aw nm (.Name w fp) aY)(aK:i9 c b aw nm al c7)(aP:mF al)(U:∀ag,j3 (.Call (.Name w fp) al [] dl) am pos.line ag=pure false): ky c ae b aw nm (.Expr (.Call (.Name w fp) al [] dl) pos) λaF R=>aY (cJ<|c7<|ux ae aF (gm al.length []) R):=by
 refine⟨λW ag aW ai I s R j aF aQ ok aE G h F S af=>?_⟩;have a4:interactive ag=false:=by obtain⟨dv,an,-,-,-,-,-,-,-⟩:=h;unfold interactive;refine J dv<|J an ?_;rfl
 refine J (exec_Expr ag _ pos a4<|U ag)<|cc<|qe<|cc<|b0 (?_:b7 c.M W _ (dV c I s λq Z=>R ⟨c,b,j⟩ ai [] Z) _ s) (λv be A=>cS A λu ay aU H av aZ=>?_) λq q e=>e
 ·refine tb<|b0 (hf.r W ag ai I s _ _ [] _ aQ h F S af) (λv be A=>cS A λu ay aU H av g=>?_) λq q e=>e;refine d8 (f3 g) λf L an aZ=>?_;clear g;replace aU:=L▸aU;refine J aU<|b0 (rU (P:=λC=>c.K.In C) aK aQ h (F.cy av) H aZ (aP _ _) (λZ aH au q=>a1.gL.keeps au.keep) (keeps_K an) λus aj Z aH bb au D ap aG=>?_) (dV.trans av) λq q e=>e;replace aG:=nz (P:=λus S=>dC S λu S=>gT u λf=>lT c ae b (.ref f) us (λq Z=>R ⟨c,b,j⟩ ai S Z) (λas Z=>aF as ai Z) Z) ap aG;have a3:=av.trans D;have bg:=F.cy a3;refine wpAny_call<|aG W (ag::aW) aH (.ref f) aj _ aQ aE ((G.cy (λq q=>id) a3).push ok h bg) au rfl bb (λv n C=>dV.trans D v n C) λv n A=>hh A λe d as aN bG=>fT bG λev y bJ=>?_;have bF:=bg.xu ok h y;exact(⟨e,d,as,ai,aN,ev,((y.inner ok).trans a3.g1 G ok.apart),bF,bJ⟩)
 ·exact wpAny_dropValue<|gr (k:=.next) rfl (F.cy av) H av.g1 aZ
def kC (C:Heap)(e T:Addr):Prop:=∃aj o,C.get? e=Y o/\o.data=.fields aj/\aj[1]?=Y (.ref T)
structure wk (c:cG)(ae:Addr)(fr:List Addr)(I:aI)(e d:Addr)(as:List (Str×V))(C aG:Heap):Prop where
 exc:Exc c ae aG I e d as
 same:∀b o,b≠e->b∉fr->¬ kC C e b->C.get? b=Y o->aG.get? b=Y o
 slots:∀b o,b∈fr->C.get? b=Y o->∃dZ,aG.get? b=Y {o with slots:=dZ}
 live:∀b o,C.get? b=Y o->∃q,aG.get? b=Y q
 pz:∀T,kC aG e T->C.get? T=am
theorem Fi (aE:b5.frames=Y (ag::aW))(F:Frs c (ag::aW) I s.heap)(S:bz c I s)(hf:ag.frame=Y a)(aF:Exc c ae s.heap I cl N ce)(hd:N∉dt (ag::aW)) (C:∀aG,wk c ae (dt<|ag::aW) I cl N ce s.heap aG->gs () {s with heap:=aG}):b7 c.M b5 (noteFrame (.ref cl) ag) (λq aH=>b7 c.M b5 (p0 (.ref cl) am) gs E aH) E s:=by
 refine bA λco aB=>?_;obtain⟨⟨aj,dZ,he,bD⟩,⟨m,⟨p,al,cv,j,e,P⟩,has⟩,ny,oE,m4,based⟩:=aF;refine aB ?_;have aN:N≠cl:=λX=>by replace j:=he▸X▸j;cases j;cases e
 have u:∀T,s.heap.get? T=am->I T=am/\c.base.get? T=am:=λT bD=>by
  constructor
  ·cases X:I T with
   |none=>rfl
   |some o=>obtain⟨cm,a7⟩:=(S.rep T o X).there;replace a7:=bD▸a7;exact bX a7
  ·cases X:c.base.get? T with
   |none=>rfl
   |some o=>replace bD:=(S.keep T o X)▸bD;exact gB bD
 have W:∀b∈dt (ag::aW),b≠cl/\∀aj o,s.heap.get? b=Y o->o.data≠.fields aj:=λb aA=>by refine dF (F.mem aA) λq bG=>dr bG λo ax=>dF ax λaO aX=>⟨λX=>?_,λaj q aC=>by replace aC:=aO▸aC;cases aC;exact aX aj⟩;replace aO:=he▸X▸aO;cases aO;exact aX aj rfl
 rcases bD with ak|bo
 ·refine TJ aE F.oh hf he rfl ak λaG T E=>C aG<|bA λco aB=>?_;obtain⟨D,⟨t,g,v,h,i⟩,d,O,K⟩:=E;refine aB ?_;have ar:=(lI.mp ak).1;have aa:T≠cl:=λX=>by replace d:=he▸X▸d;exact gB d
  refine⟨⟨(fv _ _ D<|.inr<|zG T t g (by simp[ar]) aa v h i (u T d).1 (u T d).2),(bj m (vE p al cv (O _ _ aN hd j) e P) has),ny,oE,m4,based⟩,λb o x y q z=>O b o x y z,λb o x z=>K b o (W b x).1 z,λb o z=>?_,λaw A=>hg A λab q aS bl bP=>?_⟩
  ·by_cases X:b=cl
   ·refine J X ?_;exact⟨_,D⟩
   ·obtain⟨dZ,U⟩:=K b o X z;exact⟨_,U⟩
  ·replace aS:=D▸aS;cases aS;cases bl;simp[ar] at bP;refine bm bP ?_;exact d
 ·refine sR bo λT t g ak aa G l bp Z Q=>?_;clear bo;refine TK aE F.oh hf he rfl ak aa G l bp λn aG aw B A E=>dr A λcm H=>C aG<|bA λco aB=>?_;obtain⟨D,⟨af,ah,v,h,i⟩,d,O,K⟩:=E;refine aB ?_;have ar:=(lI.mp ak).1;have L:s.heap.get? aw=am:=by
   by_cases X:aw=T
   ·replace d:=H▸X▸d;exact gB d
   ·refine bm (B.2 aw X) ?_;exact d
  have ad:aw≠cl:=λX=>by replace L:=he▸X▸L;exact gB L
  have f:∀b o,b≠T->s.heap.get? b=Y o->n.get? b=Y o:=λb o aA z=>(B.2 b aA).trans z;have R:N≠T:=λX=>by replace j:=G▸X▸j;cases j;replace e:=l▸e;cases e
  refine⟨⟨⟨_,_,D,.inr ⟨aw,af,ah,by simp[ar],ad,v,h,i,(u aw L).1,(u aw L).2⟩⟩,⟨m,⟨p,al,cv,O _ _ aN hd<|f _ _ R j,e,P⟩,has⟩,ny,oE,m4,based⟩,λb o x y z w=>O b o x y<|f _ _ (λX=>z ⟨aj,_,he,rfl,by refine J X ?_;exact ak⟩) w,λb o x z=>K b o (W b x).1<|f _ _ (λX=>(W b x).2 g t (by refine J X ?_;exact G) l) z,λb o z=>?_,λai A=>hg A λab q aS bl bP=>?_⟩
  ·by_cases X:b=cl
   ·refine J X ?_;exact⟨_,D⟩
   ·by_cases bB:b=T
    ·obtain⟨dZ,U⟩:=K T cm aa H;refine J bB ?_;exact⟨_,U⟩
    ·obtain⟨dZ,U⟩:=K b o X<|f _ _ bB z;exact⟨_,U⟩
  ·replace aS:=D▸aS;cases aS;cases bl;simp[ar] at bP;refine bm bP ?_;exact L
theorem ub (ok:k7 ag aW):dt (ag::aW)=ag.locals::dt aW:=by unfold dt;exact J pV<|J ok.own rfl
variable{bT:Addr}
theorem iM.note (ok:k7 ag aW)(y:iM c ae aW (Own ag) I s Z aH cl bT ce)(G:Frs c (ag::aW) Z aH.heap)(N:wk c ae (Mine.dt<|ag::aW) Z cl bT ce aH.heap aG): iM c ae aW (Own ag) I s Z {aH with heap:=aG} cl bT ce:=by
 have g:=ub ok;refine dT (y.exc.exc) λaj dZ he bD=>?_;have Ik:∀T,kC aH.heap cl T->s.heap.get? T=am:=λT A=>hg A λaj o a b bT=>y.pz aj o T a b bT;have lA:∀b o,b≠cl->b∉Mine.dt (ag::aW)->(kC aH.heap cl b->False)->aH.heap.get? b=Y o->aG.get? b=Y o:=N.same;have d:∀T,kC aH.heap cl T->Z T=am/\c.base.get? T=am:=λT A=>hg A λab o a b bT=>by
  replace a:=he▸a;cases a;cases b;rcases bD with C|bo
  ·replace bT:=C▸bT;cases bT
  ·refine sR bo λaw q q C q q q q ak ao=>?_;clear bo;replace bT:=C▸bT;cases bT;exact⟨ak,ao⟩
 refine⟨⟨λb o aA=>lA b o (λX=>?_) (λX=>?_) (λX=>?_)<|y.sim.keep b o aA,λb o aA=>(y.sim.rep b o aA).mono λcm H=>lA b cm (λX=>?_) (λX=>?_) (λX=>?_) H,y.sim.new,y.sim.gens,y.sim.os⟩,N.exc,⟨(Frs.keep G.oh N.slots).2.2,y.dt.off⟩,y.qS,y.pA,λaj o T a b bT=>?_,λa o ak ao bp bI=>lA a o (λX=>?_) (λX=>?_) (λX=>?_)<|y.ea a o ak ao bp bI,λa o aK bI=>?_,λa o bI=>?_,y.fresh⟩
 ·replace aA:=y.exc.m4▸X▸aA;exact bX aA
 ·replace aA:=(G.mem X).1▸aA;exact bX aA
 ·replace aA:=(d b X).2▸aA;exact bX aA
 ·replace aA:=y.exc.ny▸X▸aA;exact bX aA
 ·replace aA:=(G.off b X)▸aA;exact bX aA
 ·replace aA:=(d b X).1▸aA;exact bX aA
 ·have:=N.pz T<|eV aj o a b bT;cases X:s.heap.get? T with
  |none=>rfl
  |some o=>obtain⟨q,a7⟩:=y.live T o X;replace a7:=this▸a7;exact bX a7
 ·replace bI:=y.qS▸X▸bI;exact bX bI
 ·replace X:=g▸X;rcases fF.mp X with X|X
  ·exact ak (by refine J X ?_;exact .head _)
  ·exact ao X
 ·replace bI:=(Ik a X)▸bI;exact bX bI
 ·obtain⟨dZ,c9⟩:=y.slots a o aK bI;obtain⟨e,er⟩:=N.slots a _ (by refine J g ?_;exact .tail _ aK) c9;exact⟨e,er⟩
 ·obtain⟨q,c9⟩:=y.live a o bI;exact N.live a q c9
theorem iM.pop (a3:∀a∈addrs ag,s.heap.get? a=am)(L:∀b o,s.heap.get? b=Y o->be.heap.get? b=Y o)(y:iM c ae aW (Own ag) I be Z aH cl N ce):iM c ae aW cX I s Z aH cl N ce:=by
 have u:∀a,be.heap.get? a=am->s.heap.get? a=am:=λa C=>by
  cases X:s.heap.get? a with
  |none=>rfl
  |some o=>replace C:=(L a o X)▸C;exact gB C
 exact⟨y.sim,y.exc,y.dt,u _ y.qS,u _ y.pA,λaj o T a b N=>u _<|y.pz aj o T a b N,λa o q C z g=>y.ea a o (λX=>by replace g:=(a3 a X)▸g;exact bX g) C z<|L a o g,λa o C g=>y.slots a o C<|L a o g,λa o g=>y.live a o<|L a o g,λa o g z=>y.fresh a o (L a o g) z⟩
variable{fW:tF}
theorem NM {g8:List V}(a1:c.Ok)(hf:kz c cl names cR body aw)(U:m1 aw names nm)(aA:mZ c ae b aw nm body eR) (P:cj g8 cR)(ap:us.length+g8.length=names.length)(bf:eR (λas q Z=>fW as Z) bM (d5 c b ad) (us++g8++eb (nm.length -names.length) .aD) [] I):lT c ae (b+1) (.ref cl) us ad fW I:=by
 intro W aW s ee aj R aQ aE G S O bb cd bJ;refine tS a1 hf U P ap aQ S O bb λag aZ cr h F H a9 a3 L T=>codeAny_func ?_;have ok:k7 ag aW:=⟨a9,λa aK X=>by obtain⟨_,o,e,_⟩:=G.mem aK;replace e:=(a3 a X)▸e;exact bX e⟩;have i:(W.deeper ag).frames=Y (ag::aW):=by refine(?_:W.frames.map (ag:: ·)=_);refine J aE ?_;rfl
 have f:Frs c aW I aZ:=⟨Frs.keep G.oh λa o q e=>⟨o.slots,L a o e⟩,G.off⟩;refine b0 (aA.r (W.deeper ag) ag aW _ I _ _ _ _ T ok i f h F H bf) (λhz aH A=>mB A λk B Z an ak au D X=>?_) λv aH A=>kP A λe d as B Z bG=>gM bG λa6 y ak X=>?_
 ·have K:bO cX I s Z aH:=by refine⟨λa o q e g=>D.ea a o (λX=>?_) e<|L a o g,λa o e=>D.live a o<|L a o e,λa o g e=>D.fresh a o (L a o g) e⟩;replace g:=(a3 a X)▸g;exact bX g
  cases k with
  |next=>refine J an ?_;exact cd _ _<|s6 au K X
  |brk=>exact X.elim
  |cont=>exact X.elim
  |ret u=>obtain⟨v,rfl,a6⟩:=an;exact cd _ _<|jp a6 au K X
 ·refine J a6 ?_;have ax:=y.dt.push ok h ak;have hd:d∉dt (ag::aW):=λhm=>by
   replace hm:=(ub ok)▸hm;rcases fF.mp hm with hm|hm
   ·obtain⟨o,e⟩:=F.live _<|.head _;have:=y.pA;rw[hm] at this;rw[show(({s with heap:=aZ,toks:=cr}:bZ).heap.get? ag.locals)=Y o from e] at this;exact gB this
   ·obtain⟨_,o,e,_⟩:=f.mem hm;have:=y.pA;rw[show(({s with heap:=aZ,toks:=cr}:bZ).heap.get? d)=Y o from e] at this;exact gB this
  exact RX<|Fi i ax y.sim ok.own y.exc hd λaG N=>bJ _ _ ⟨e,d,as,Z,rfl,(y.note ok ax N).pop a3 L,X⟩
noncomputable abbrev hy:List bt:=[.type "Exception",.type "BaseException",.type "object"]
variable{os:OsState}{dw dh a0 cM cz:Option bt}{prog:Program}{gT:Fin->bZ->Prop}{ev:Array GenState}{au:Option Bool}{bL:Option Addr}{dC:Drawn}{f3:World}
theorem O4 (bi:C.get? ae=Y (mP name dO ae N bs hy true sn sub cL au bL a0 cz cM dh dw "Exception.__new__"))(aX:C.Ns N f1)(g:f1 "__init__"=Y (.ref a))
 (aA:∀self,Looks (model prog f3) C (bindSpecial (.ref a) self) (.ref a,[self]))(c:cR.length<=c5)
 (af:jX (model prog f3) b5 (.call (.ref a) ⟨.ref (C.objs.size+1)::cR,[]⟩) (λr aH=>match r with
  |.ok (.ret v)=>v=.none/\gT (.done<|.ret<|.ref<|C.objs.size+1) aH
  |.ok _=>False
  |.error e=>E e aH) ⟨((C.push {cls:=.type "tuple",data:=.seq cR.toArray}).push {cls:=.ref ae,data:=.fields #[.ref C.objs.size,.none,.none,.none,.bool false,.none]}),ev,dC,t,os⟩):b7 (model prog f3) b5 (Builtin.«type.__call__» ⟨.ref ae::cR,[]⟩) gT E ⟨C,ev,dC,t,os⟩:=by
 have jy:=PySem.F.excBase_Exception
 repeat(first|with_reducible refine lK bi ?_|with_reducible refine wpAny_madeBy_exc bi ?_|wp_step)
 refine codeAny_call_builtin_code (XO _ jy.quiet)<|wpAny_check_new_sub jy bi ?_
 refine codeAny_exc_new_sub jy bi ?_ c
 refine(?_:b7 _ _ _ _ _ _)
 have f:∀b o,C.get? b=Y o->((C.push {cls:=.type "tuple",data:=.seq cR.toArray}).push {cls:=.ref ae,data:=.fields #[.ref C.objs.size,.none,.none,.none,.bool false,.none]}).get? b=Y o:=λb o e=>iJ _<|iJ _ e
 have d:=f _ _ bi
 have j:((C.push {cls:=.type "tuple",data:=.seq cR.toArray}).push {cls:=.ref ae,data:=.fields #[.ref C.objs.size,.none,.none,.none,.bool false,.none]}).Ns N f1:=fi aX λo al cv e r=>⟨o,al,cv,f _ _ e,r⟩
 have i:((C.push {cls:=.type "tuple",data:=.seq cR.toArray}).push {cls:=.ref ae,data:=.fields #[.ref C.objs.size,.none,.none,.none,.bool false,.none]}).get? (C.objs.size+1)=Y {cls:=.ref ae,data:=.fields #[.ref C.objs.size,.none,.none,.none,.bool false,.none]}:=by heap_get
 have h:(mO ae::hy).contains (.ref ae)=true:=by simp
 unfold isInstance
 repeat(first|with_reducible refine lK i ?_|(with_reducible refine wpAny_isSubtype_exc d ?_;refine J h ?_)|wp_step)
 refine(?_:b7 _ _ (lJ (.ref ae) _) _ _ _)
 refine ti d j jy.mroIs jy.init.lookup<|J g ?_
 have aK:=(aA<|.ref<|C.objs.size+1).keeps f
 repeat(first|with_reducible refine wpAny_call ?_|lk|wp_step)
 refine codeAny_mono af λr aH z=>?_
 rcases r with e|(v|_|_|_)<;>first|exact z|exact z.elim|skip
 obtain⟨rfl,z⟩:=z
 exact dD<|dD z
theorem O7 (bi:C.get? ae=Y (mP name dO ae N bs hy true sn sub cL au bL a0 cz cM dh dw "Exception.__new__"))(aX:C.Ns N f1)(g:f1 "__init__"=Y (.ref a)) (aA:∀self,Looks (model prog f3) C (bindSpecial (.ref a) self) (.ref a,[self]))(c:cR.length<=c5) (af:jX (model prog f3) (b5.under<|.builtin "type.__call__" ⟨.ref ae::cR,[]⟩) (.call (.ref a) ⟨.ref (C.objs.size+1)::cR,[]⟩) (InitBack (C.objs.size+1) R) ⟨((C.push {cls:=.type "tuple",data:=.seq cR.toArray}).push {cls:=.ref ae,data:=.fields #[.ref C.objs.size,.none,.none,.none,.bool false,.none]}),ev,dC,t,os⟩):jX (model prog f3) b5 (.call (.ref ae) ⟨cR,[]⟩) R ⟨C,ev,dC,t,os⟩:=by
 have w:=tc_lookup;have l:=tc_bind<|.ref ae;have bD:(⟨C,ev,dC,t,os⟩:bZ).TypeIs (.ref ae) "type":=(bj _ bi rfl);refine codeAny_of_tree<|(?_:b7 _ _ (callAny (.ref ae) _) _ _ _);repeat(any_goals(first|assumption|with_reducible refine lK bi ?_|wp_step))
 refine⟨rfl,?_⟩;refine codeAny_call_builtin_at (XO _<|by decide+kernel) entry_typeCall<|wpAny_check_type_call_sub bi<|O4 bi aX g aA c<|codeAny_mono af λr aH z=>?_;rcases r with e|(v|_|_|_)<;>first|exact z|exact z.elim|skip
structure o5 (c:cG)(ae N ej:Addr):Prop where
 obj:∃nm X bs sn sub hu bf aM a0 cz cM dh dw,c.K.lookup ae=Y (mP nm X ae N bs hy true sn sub hu bf aM a0 cz cM dh dw "Exception.__new__")
 ns:∃m,c.base.Ns N m/\m "__init__"=Y (.ref ej)/\m "__setattr__"=am/\m "__getattribute__"=am/\m "__getattr__"=am/\m "symbol"=am/\m "data"=am
 typ:typeIn c.K (.ref ej)=Y (.type "function")
 keep:k2 c.K (.ref ae)=true
theorem cH.but (F:cH ag nm ai I C)(an:∀a∈addrs ag,∀o,C.get? a=Y o->aG.get? a=Y o):cH ag nm ai I aG:=by
 refine bA λco aB=>?_;obtain⟨⟨m,d,aX,a1,a6⟩,ap,aO,aq⟩:=F;refine aB<|⟨(eV m d ?_ (λz k e=>?_) a6),ap,aO,λp aP=>?_⟩
 ·refine fi aX λo al cv e r=>?_;clear aX;exact(i4 o al cv (an _ (.head _) o e) r)
 ·exact a9 (a1 z k e) λo a7 r=>(bj o (an k (.tail _<|eF.mpr<|bj ((z,k)) (mem_of_lookup e) rfl) o a7) r)
 ·obtain⟨o,e⟩:=aq p aP;exact⟨o,an _ (.tail _<|eF.mpr<|bj p aP rfl) o e⟩
theorem bz.but {P:Addr->Prop}(S:bz c I s)(an:∀a o,¬ P a->s.heap.get? a=Y o->aH.heap.get? a=Y o)(b:∀a,P a->I a=am)(aA:∀a,P a->c.base.get? a=am)(bJ:aH.gens=s.gens)(aO:aH.os=s.os):bz c I aH:= ⟨λa o e=>an a o (λX=>by replace e:=(aA a X)▸e;exact bX e)<|S.keep a o e,λa o e=>(S.rep a o e).mono λcm X=>an a cm (λp=>by replace e:=(b a p)▸e;exact bX e) X,S.new,bJ.trans S.gens,aO.trans S.os⟩
theorem uX (aQ:fz b5 b)(h:fy c ag aw nm)(F:cH ag nm ai I s.heap)(S:bz c I s)(a4:nm[i]?=Y name)(hd:(name==("__debug__":Str))=false)(aU:hK ai i=u)(a:u=.aD->False) (C:∀v be,u.is v->bz c I be->bO cX I s I be->hG v be):b7 c.M b5 (eval (.Name name pos) ag) hG E s:= b0 ((Fs i a4 hd).r b5 ag ai I s (λq q au Z=>au=[u]/\Z=I) ⟨λq q=>True,λq q=>True,λq q=>True⟩ [] E aQ h F S<|TS (by refine J aU ?_;exact a) ⟨congrArg (λname=>[name]) aU,rfl⟩) (λv be A=>gZ A λw Z aR au D e a7=>by replace e:=(rm.inj e).1;replace C:=(dp e)▸C;replace D:=(dp a7)▸D;replace C:=(dp a7)▸C;exact C v be aR au D) λq q e=>e
variable{fX:Str->Option bt}
theorem Pe {ns:List Str}(a1:c.Ok)(aI:o5 c ae N ej)(S:bz c I s)(aL:∀m:Str->Option bt,m "symbol"=am->m "data"=am->m w=am)(Q:lJ (.type "Exception") w=pure am) (he:I a=am)(aA:c.base.get? a=am)(a8:s.heap.Inst a ae fX)(aR:Within fX ns)(ar:ns.length<=c5) (C:∀aH,aH.heap.Inst a ae (λy=>if y=w then Y v else fX y)->(∀b o,b≠a->(∀aF ap,s.heap.get? a=Y aF->aF.dict=Y ap->b≠ap)->s.heap.get? b=Y o->aH.heap.get? b=Y o)-> (∀aF,s.heap.get? a=Y aF->∃e,aH.heap.get? a=Y e/\e.cls=aF.cls/\e.data=aF.data/\e.slots=aF.slots/\∀ap,aF.dict=Y ap->e.dict=Y ap)->aH.gens=s.gens->aH.os=s.os->gs () aH):b7 c.M b5 (setAttr (.ref a) w v) gs E s:=by refine bA λco aB=>?_;obtain⟨⟨bH,X,bs,sn,sub,hu,bf,aM,a0,cz,cM,dh,dw,aO⟩,⟨m,B,d7,bV,W,bQ,aN,br⟩,bd,-⟩:=aI;have bi:=a1.gL.keeps S.keep _ _ aO;have a7:s.heap.Ns N m:=B.keeps S.keep;obtain⟨G,g,d,t,os⟩:=s;refine aB<|store_attr PySem.F.store_Exception bi a7 bV (aL m aN br) Q (λX=>?_) a8 (λaG f h an Z=>C ⟨aG,g,d,f,os⟩ h an Z rfl rfl) aR ar;replace aA:=(a1.gL _ _ aO)▸X▸aA;exact gB aA
def wA (C:Heap)(x:Addr)(o:Obj)(name:Str)(v:bt)(aG:Heap):Prop:=∃D,C.get? D=am/\aG.get? x=Y {o with dict:=Y D}/\aG.Ns1 D (λy=>if y=name then Y v else am)/\(∀b cm,b≠x->C.get? b=Y cm->aG.get? b=Y cm)
variable{o:Obj}{bo:String}
theorem O8 {h:Str}(c:StoreFacts "Exception" hy mw bo)(bi:C.get? ae=Y (mP dO h ae N bs hy true sn sub cL au bL a0 cz cM dh dw iZ))(aX:C.Ns N f1)(d:f1 name=am)(Q:lJ (.type "Exception") name=pure am) (aL:C.get? a=Y o)(a1:o.cls=.ref ae)(y:o.dict=am)(g:o.data=.fields aj) (af:∀aG f,wA C a o name v aG->gT (.done<|.ret .none) ⟨aG,ev,dC,f,os⟩): b7 (model prog f3) b5 (Builtin.«object.__setattr__» ⟨[.ref a,.str name kd,v],[]⟩) gT E ⟨C,ev,dC,t,os⟩:=by
 have l:=c.passes<|.ref a;unfold Builtin.«object.__setattr__»;repeat(first|rw[refuse_eq]|(rw[refuseLoop_ref,l])|(with_reducible refine lK aL ?_;refine J a1 ?_)|with_reducible refine wpAny_mroOf_exc bi ?_|(with_reducible refine ti bi aX c.mro Q ?_;refine J d ?_)|wp_step)
 refine J y<|J (if_neg<|by simp[typeHasDict]) ?_;split
 ·rename_i A;exact bX A
 split
 ·rename_i k A;rw[g] at A;cases A
 have i:(C.push {cls:=.type "dict",data:=.dict #[]}).get? a=Y o:=iJ _ aL;have m:a≠C.objs.size:=lQ<|im aL;refine cc<|wpAny_alloc' ?_;refine cc<|wpAny_update' i ?_;refine dD ?_;have B:((C.push {cls:=.type "dict",data:=.dict #[]}).update a λo=>{cls:=o.cls,dict:=Y C.objs.size,data:=o.data,slots:=o.slots}).Ns C.objs.size (λq=>am):= (⟨_,(#[]),_,((vQ _ _ _ _ m.symm).trans<|Heap.get?_push_at rfl rfl),rfl,(λe he=>absurd he<|by simp),(λq=>rfl)⟩);refine(?_:b7 _ _ (XQ C.objs.size (.str name kd) name v) _ _ _);unfold XQ Builtin.ObjectAttr.newKeyGuard;refine cc<|dD<|cc<|wpAny_nsSet1 (Heap.Ns1.of_empty B) λaG V U=>?_;refine bA λco aB=>ve (V.count<|XR name v XS) λa4 x w bB u s=>aB<|cc<|wpAny_lookBehind bB (by refine J u ?_;exact pastItsLine_dict<|a5 s<|by refine J fe<|J ju<|J eI ?_;exact kN<|.le (.a b1 aC)<|.a (.k 16777216) aC) ?_;have aE:=(Heap.get?_some_iff.mp aL).2;have fin:aG.get? a=Y {o with dict:=Y C.objs.size}:=by refine(U.2 a m).trans<|rj _ i ?_;clear af l;obtain⟨ab,p,j,D⟩:=o;clear aL a1 y g i;cases j<;>first|rfl|exact aE
 wp_walk;exact af aG _<|mM C.objs.size (Heap.get?_none_of_le<|c1 _) fin V λb cm n aA=>(U.2 b<|lQ<|im aA).trans<|(vQ _ _ _ _ n).trans<|iJ _ aA
theorem O5 {h:Str}(c:StoreFacts "Exception" hy mw bo)(bi:C.get? ae=Y (mP dO h ae N bs hy true sn sub cL au bL a0 cz cM dh dw iZ))(aX:C.Ns N f1)(d:f1 name=am)(Q:lJ (.type "Exception") name=pure am) (aL:C.get? a=Y o)(a1:o.cls=.ref ae)(y:o.dict=am)(g:o.data=.fields aj) (af:∀aG f,wA C a o name v aG->R (.ok<|.ret .none) ⟨aG,ev,dC,f,os⟩): jX (model prog f3) b5 (.call (.builtin mw) ⟨[.ref a,.str name kd,v],[]⟩) R ⟨C,ev,dC,t,os⟩:= codeAny_call_builtin c.slot.plain c.entry<|wpAny_check_sa c bi aL a1<|O8 c bi aX d Q aL a1 y g af
theorem Pf {h:Str}(c:StoreFacts "Exception" hy mw bo)(bi:C.get? ae=Y (mP dO h ae N bs hy true sn sub cL au bL a0 cz cM dh dw iZ))(aX:C.Ns N f1)(l:f1 "__setattr__"=am)(d:f1 name=am)(Q:lJ (.type "Exception") name=pure am) (aL:C.get? a=Y o)(a1:o.cls=.ref ae)(y:o.dict=am)(g:o.data=.fields aj) (af:∀aG f,wA C a o name v aG->gs () ⟨aG,ev,dC,f,os⟩): b7 (model prog f3) b5 (setAttr (.ref a) name v) gs E ⟨C,ev,dC,t,os⟩:=by
 have j:=c.slot.bind<|.ref a;unfold setAttr callSpecial? specialOf;repeat(any_goals(first|assumption|(with_reducible refine lK aL ?_;refine J a1 ?_)|(with_reducible refine ti bi aX c.mro c.slot.lookup ?_;refine J l ?_)|wp_step))
 refine O5 c bi aX d Q aL a1 y g λaG f an=>?_;repeat(any_goals(first|assumption|wp_step))
 exact af aG f an
structure wj (c:cG)(ae:Addr)(I:aI)(s aH:bZ)(e d:Addr)(as:List (Str×V)):Prop where
 sim:bz c I aH
 cy:bO cX I s I aH
 exc:∃t dZ,aH.heap.get? e=Y ⟨.ref ae,Y d,.fields #[t,.none,.none,.none,.bool false,.none],dZ⟩
 dict:∃m,aH.heap.Ns1 d m/\AR as m
 qS:s.heap.get? e=am
 pA:s.heap.get? d=am
noncomputable abbrev nG:List Str:=["self","symbol","data"]
theorem vw (S:bz c I s)(C:s.heap.get? a=am):I a=am:=by
 cases X:I a with
 |none=>rfl
 |some o=>obtain⟨cm,e⟩:=(S.rep a o X).there;rw[C] at e;exact bX e
variable{bo:V}
theorem Pd (a1:c.Ok)(aI:o5 c ae N ej)(hf:kz c ej nG [] body aw)(U:m1 aw nG nG) (aA:body=[.Assign [.Attribute (.Name "self" pos) "symbol" dl] (.Name "symbol" fp) fC,.Assign [.Attribute (.Name "self" fK) "data" ij] (.Name "data" hk) dy]) (bk:∀ag,j3 (.Name "symbol" fp) (Y<|.Attribute (.Name "self" pos) "symbol" dl) fC.line ag=pure false)(bS:∀ag,j3 (.Name "data" hk) (Y<|.Attribute (.Name "self" fK) "data" ij) dy.line ag=pure false) (aQ:fz b5 (l+2))(S:bz c I s)(bb:cj [ar,bo] cR) (C:∀e d aH,wj c ae I s aH e d [("symbol",ar),("data",bo)]->R (.ok<|.ret<|.ref e) aH):jX c.M b5 (.call (.ref ae) ⟨cR,[]⟩) R s:=by
 obtain⟨G,g,O,t,os⟩:=s;have bp:=aI;obtain⟨⟨bH,X,bs,sn,sub,hu,bf,aM,a0,cz,cM,dh,dw,aO⟩,⟨f1,B,d7,bV,W,bQ,aN,br⟩,bd,cq⟩:=aI;have bU:=a1.gL.keeps S.keep;have bR:ar≠.aD:=λe=>by replace bb:=e▸bb;replace C:=e▸C;cases cR with|nil=>exact bb|cons _ _=>exact bb.1
 have b8:bo≠.aD:=λe=>by replace bb:=e▸bb;replace C:=e▸C;refine hg (uF bb) λx r bh q ao=>?_;replace bb:=bh▸bb;cases r with|nil=>exact ao|cons _ _=>exact ao.1
 have bL:cR.length=2:=bb.length.symm;obtain⟨av,aG,aV⟩:=aQ;have a7:G.Ns N f1:=B.keeps S.keep;refine O7 (bU _ _ aO) a7 d7 (λself=>bind_fn bU self bd) (by refine J bL<|J eI ?_;decide) ?_;have bC:=S.push {cls:=.type "tuple",data:=.seq cR.toArray};have aq:=bC.push {cls:=.ref ae,data:=.fields #[.ref G.objs.size,.none,.none,.none,.bool false,.none]};have a8:bO cX I ⟨G,g,O,t,os⟩ I ⟨G.push {cls:=.type "tuple",data:=.seq cR.toArray},g,O,t,os⟩:=bO.push _;have bZ:bO cX I ⟨G,g,O,t,os⟩ I ⟨(G.push {cls:=.type "tuple",data:=.seq cR.toArray}).push {cls:=.ref ae,data:=.fields #[.ref G.objs.size,.none,.none,.none,.bool false,.none]},g,O,t,os⟩:=a8.trans<|bO.push _;generalize cb:(G.push {cls:=.type "tuple",data:=.seq cR.toArray}).push {cls:=.ref ae,data:=.fields #[.ref G.objs.size,.none,.none,.none,.bool false,.none]}=ao at aq bZ⊢;have ge:ao.get? (G.objs.size+1)=Y {cls:=.ref ae,data:=.fields #[.ref G.objs.size,.none,.none,.none,.bool false,.none]}:=by refine bm cb ?_;heap_get
 have ne:G.get? (G.objs.size+1)=am:=md _<|g5 _;generalize G.objs.size+1=e at ge ne⊢;generalize G.objs.size=b4 at ge⊢;have af:I e=am:=vw S ne;have ay:c.base.get? e=am:=jd S ne;refine tS (n:=l) (us:=[.ref e,ar,bo]) (g8:=[]) a1 hf U trivial rfl ⟨?_,?_,aV⟩ aq rfl ⟨rfl,bb⟩ λag aZ cr h F H a9 a3 L T=>codeAny_func ?_
 ·have:Ad (.builtin "type.__call__" ⟨.ref ae::cR,[]⟩)=1:=by kernel_rfl
  refine(?_:b5.depth+Ad _+2*(l+1)+4<=_);exact cn (.le (.a (.a (.a aa ab)<|.m 2<|.a ah aC)<|.k 4) az) [.le (.a (.a aa<|.m 2<|.a ah j6)<|.k 4) az,.eq ab aC] av this
 ·have:Ae (.builtin "type.__call__" ⟨.ref ae::cR,[]⟩)=1:=by kernel_rfl
  refine(?_:b5.units+Ae _+20*(l+1)+100<=_);exact cn (.le (.a (.a (.a aa ab)<|.m 20<|.a ah aC)<|.k 100) az) [.le (.a (.a aa<|.m 20<|.a ah j6)<|.k 100) az,.eq ab aC] aG this
 change cH ag nG [.ref e,ar,bo] I aZ at F;have b7:=L _ _ ge;have bJ:∀ar∈addrs ag,ar≠e:=λar aK X=>by have:=a3 ar aK;rw[X] at this;rw[show ao.get? e=am from this] at ge;exact bX ge
 refine J aA<|v9<|I5 (uX (i:=1) T h F H rfl (by decide) rfl bR λv aP a6 aJ K=>uX (i:=0) T h (F.cy K) aJ rfl (by decide) rfl (λX=>by cases X) λQ ad aW aT bn=>?_)<|bk ag;refine J aW ?_;have a2:=(F.cy K).cy bn;have bD:bO cX I ⟨G,g,O,t,os⟩ I ad:=by refine bZ.trans<|(⟨λbo o q q X=>L bo o X,λbo o X=>⟨o,L bo o X⟩,λq q q X=>X⟩:bO cX I _ I ⟨aZ,g,O,cr,os⟩).trans<|K.trans bn
 have bK:ad.heap.get? e=Y {cls:=.ref ae,data:=.fields #[.ref b4,.none,.none,.none,.bool false,.none]}:=bn.ea e _ id af<|K.ea e _ id af b7;obtain⟨bI,bx,r2,cu,ci⟩:=ad;refine Pf PySem.F.store_Exception (a1.gL.keeps aT.keep _ _ aO) (B.keeps aT.keep) bV aN (by kernel_rfl) bK rfl rfl rfl λc9 cl A=>mA A λD f E bT Z=>?_;have be:D≠e:=λX=>by rw[X] at f;rw[f] at bK;exact bX bK
 have a5:bz c I ⟨c9,bx,r2,cl,ci⟩:=aT.but (P:=λx=>x=e) (λbo o aA X=>Z bo o aA X) (λq X=>X▸af) (λq X=>X▸ay) rfl rfl;have bv:cH ag nG [.ref e,ar,bo] I c9:=a2.but λx aL o X=>Z x o (bJ x aL) X;refine v9<|I5 (uX (i:=2) T h bv a5 rfl (by decide) rfl b8 λw b9 aR bN bE=>uX (i:=0) T h (bv.cy bE) bN rfl (by decide) rfl (λX=>by cases X) λQ aE aW ba bi=>?_)<|bS ag;refine J aW ?_;have bw:=bE.trans bi;have bq:I D=am:=vw aT f;have an:=bw.ea e _ id af E;have b2:aE.heap.Ns1 D (λy=>if y="symbol" then Y v else am):=by refine ve bT λa4 al cv aS bl bP=>?_;clear bT;exact(vE a4 al cv (bw.ea D _ id bq aS) bl bP)
 refine Pe (fX:=λy=>if y="symbol" then Y v else am) (ns:=["symbol"]) a1 bp ba (λm q z=>z) (by kernel_rfl) af ay (mM _ an rfl (λq X=>by cases X)<|.inr<|dj D rfl be b2) (XR _ _ XS) (by refine J eI ?_;decide) λaY bA cd ch ca cc=>?_;refine q0 (ch _ an) λb3 ai p bG ck b0=>?_;have aB:=b0 D rfl;refine mA bA λcs b1 q q bA=>?_;rw[ai] at b1;cases b1;rcases bA with⟨X,_⟩|⟨aj,X,_,bt⟩
 ·rw[aB] at X;exact gB X
 rw[aB] at X;cases X;have au:∀x o,aE.heap.get? x=Y o->x≠e->x≠D->aY.heap.get? x=Y o:=λx o X b j=>cd x o b (λaF ap bu bY=>by rw[an] at bu;cases bu;cases bY;exact j) X;have bg:G.get? D=am:=by
  cases X:G.get? D with
  |none=>rfl
  |some o=>obtain⟨q,bB⟩:=bD.live D o X;rw[show bI.get? D=Y q from bB] at f;exact gB f
 have bF:c.base.get? D=am:=jd S bg;have ce:∀x o,aE.heap.get? x=Y o->∃q,aY.heap.get? x=Y q:=λx o X=>by
  by_cases b:x=e
  ·replace ne:=(dp b)▸ne;replace af:=(dp b)▸af;replace ay:=(dp b)▸ay;replace a6:=(dp b)▸a6;replace E:=(dp b)▸E;replace Z:=(dp b)▸Z;replace be:=(dp b)▸be;replace aR:=(dp b)▸aR;replace an:=(dp b)▸an;replace ai:=(dp b)▸ai;replace au:=(dp b)▸au;exact⟨_,ai⟩
  ·by_cases j:x=D
   ·clear bT be an b2 ck b0;replace f:=(dp j)▸f;replace E:=(dp j)▸E;replace bq:=(dp j)▸bq;replace p:=(dp j)▸p;replace bG:=(dp j)▸bG;replace aB:=(dp j)▸aB;replace bt:=(dp j)▸bt;replace au:=(dp j)▸au;replace bg:=(dp j)▸bg;replace bF:=(dp j)▸bF;obtain⟨a4,_,_,aS,_⟩:=bt;exact⟨a4,aS⟩
   ·exact⟨o,au x o X b j⟩
 have bM:bz c I aY:=ba.but (P:=λx=>x=e\/x=D) (λbo o aA X=>au bo o X (λz=>aA<|.inl z) λz=>aA<|.inr z) (λq X=>X.elim (λX=>X▸af) λX=>X▸bq) (λq X=>X.elim (λX=>X▸ay) λX=>X▸bF) ca cc;have b6:bO cX I ⟨G,g,O,t,os⟩ I aY:=by
  refine⟨λx o q z X=>?_,λx o X=>?_,λq q q z=>z⟩
  ·have ax:=bD.ea x o id z X;have b:x≠e:=λw=>by rw[w] at X;rw[show G.get? e=Y o from X] at ne;exact gB ne
   have j:x≠D:=λw=>by rw[w] at ax;rw[show bI.get? D=Y o from ax] at f;exact gB f
   exact au x o (bw.ea x o id z<|Z x o b ax) b j
  ·obtain⟨cf,ax⟩:=bD.live x o X;obtain⟨bW,aX⟩:∃bW,c9.get? x=Y bW:=by
    by_cases b:x=e
    ·replace ne:=(dp b)▸ne;replace a6:=(dp b)▸a6;replace E:=(dp b)▸E;replace Z:=(dp b)▸Z;replace aR:=(dp b)▸aR;replace ai:=(dp b)▸ai;exact⟨_,E⟩
    ·exact⟨_,Z x _ b ax⟩
   obtain⟨cg,bc⟩:=bw.live x bW aX;exact ce x cg bc
 refine qd ⟨rfl,C e D aY ⟨bM,b6,(lG (.ref b4) b3.slots ?_),(bj _ bt λx u aU=>?_),ne,bg⟩⟩
 ·refine J ai ?_;obtain⟨cm,co,cp,ct⟩:=b3;cases p;cases aB;cases bG;rfl
 ·rw[g4] at aU;by_cases ak:x="symbol"
  ·subst ak;simp at aU;subst aU;exact(bj v (by exact J (if_neg<|by decide)<|J (if_pos rfl) rfl) a6)
  ·rw[show(x=="symbol")=false by simpa using ak] at aU;dsimp only at aU;rw[g4] at aU;by_cases ao:x="data"
   ·clear ak;subst ao;simp at aU;subst aU;exact(bj w (by exact J (if_pos rfl) rfl) aR)
   ·rw[show(x=="data")=false by simpa using ao] at aU;exact bX aU
set_option tactic.hygienic true
theorem Pc {h:Str}(bi:C.get? ae=Y (mP dO h ae N bs hy true sn sub cL au bL a0 cz cM dh dw iZ))(aX:C.Ns N f1)(d:f1 name=am) (Q:lJ (.type "Exception") name=pure am)(aL:C.get? cl=Y o)(a1:o.cls=.ref ae)(hd:o.data=.fields aj)(b:o.dict=Y a)(l:C.Ns1 a fX)(a6:fX name=Y v)(af:gT (.done<|.ret v) ⟨C,ev,dC,t,os⟩): b7 (model prog f3) b5 (Builtin.«object.__getattribute__» ⟨[.ref cl,.str name kd],[]⟩) gT E ⟨C,ev,dC,t,os⟩:=by
 have c:=PySem.F.attrBase_Exception.mro;unfold Builtin.«object.__getattribute__»;repeat(first|(with_reducible refine lK aL ?_;rw[a1])|(with_reducible refine ti bi aX c Q ?_;refine J d ?_)|wp_step)
 split
 ·rename_i e A;rw[hd] at A;cases A
 unfold instanceDict;repeat(first|(with_reducible refine lK aL ?_;refine J a1 ?_)|with_reducible refine lK bi ?_|wp_step)
 refine J b ?_;repeat(first|(with_reducible refine wpAny_nsGet l.ns ?_;refine J a6 ?_)|wp_step)
 exact af
theorem O6 (bi:C.get? ae=Y (mP w name ae N bs hy true sn sub cL au bL a0 cz cM dh dw iZ))(aL:C.get? a=Y o)(a1:o.cls=.ref ae)(af:gs () ⟨C,ev,dC,t,os⟩): b7 ld b5 (checkBuiltinCall "BaseException.__getattribute__" ⟨[.ref a,v],[]⟩) gs E ⟨C,ev,dC,t,os⟩:=by
 have an:builtinKind "BaseException.__getattribute__"=Y .slot:=by decide+kernel
 have c:splitId "BaseException.__getattribute__"=Y ("BaseException","__getattribute__"):=by decide+kernel
 have b:(mO ae::hy).contains (.type "BaseException")=true:=by refine J Jk ?_;simp[hy]
 have aK:=PySem.F.args_bexc_ga (.ref a) v;simp only[checkBuiltinCall,an,c];refine cc ?_
 ·unfold isInstance;repeat(first|(with_reducible refine lK aL ?_;refine J a1 ?_)|(with_reducible refine wpAny_isSubtype_exc bi ?_;refine J b ?_)|wp_step)
  exact af
theorem Pb {h:Str}(FB:ExcAttrFacts "Exception")(bi:C.get? ae=Y (mP dO h ae N bs hy true sn sub cL au bL a0 cz cM dh dw iZ))(aX:C.Ns N f1)(d:f1 name=am) (Q:lJ (.type "Exception") name=pure am)(aL:C.get? cl=Y o)(a1:o.cls=.ref ae)(hd:o.data=.fields aj)(b:o.dict=Y a)(l:C.Ns1 a fX)(a6:fX name=Y v)(af:R (.ok<|.ret v) ⟨C,ev,dC,t,os⟩): jX (model prog f3) b5 (.call (.builtin "BaseException.__getattribute__") ⟨[.ref cl,.str name kd],[]⟩) R ⟨C,ev,dC,t,os⟩:= codeAny_call_builtin FB.ga.plain PySem.F.entry_bexc_ga<|O6 bi aL a1<|Pc bi aX d Q aL a1 hd b l a6 af
theorem Pa {h:Str}(bi:C.get? ae=Y (mP dO h ae N bs hy true sn sub gk au bL a0 cz cM dh dw iZ))(aX:C.Ns N f1)(c:f1 "__getattribute__"=am)(e:f1 "__getattr__"=am)(d:f1 name=am) (Q:lJ (.type "Exception") name=pure am)(aL:C.get? cl=Y o)(a1:o.cls=.ref ae)(hd:o.data=.fields aj)(b:o.dict=Y a)(l:C.Ns1 a fX)(a6:fX name=Y v)(G:handedOut v=pure v)(af:hG v ⟨C,ev,dC,t+1,os⟩): b7 (model prog f3) b5 (pW (.ref cl) name cL) hG E ⟨C,ev,dC,t,os⟩:=by
 have FB:=PySem.F.attrBase_Exception;have j:=FB.ga.bind<|.ref cl;have g:(cL&&onTheHeap (vY "BaseException.__getattribute__"))=false:=by cases cL<;>rfl
 have f:(vY "BaseException.__getattribute__"==vY "object.__getattribute__")=false:=by decide+kernel
 have i:(onTheHeap (mO ae)&&vY "BaseException.__getattribute__"==vY "object.__getattribute__")=false:=by refine J f ?_;rfl
 unfold pW getAttrBy;repeat(any_goals(first|assumption|(with_reducible refine lK aL ?_;refine J a1 ?_)|(with_reducible refine ti bi aX FB.mro FB.ga.lookup ?_;refine J c ?_)|(with_reducible refine ti bi aX FB.mro FB.noGetattr ?_;refine J e ?_)|wp_step))
 refine Pb FB.toExcAttrFacts bi aX d Q aL a1 hd b l a6 ?_;repeat(any_goals(first|assumption|wp_step))
set_option tactic.hygienic false
theorem wj.xu (aX:∀a∈Mine.dt aW,¬ aJ a)(G:Frs c aW I s.heap)(p:bz c aN be)(x:bO cX I s aN be)(y:wj c ae aN be aH cl N ce):iM c ae aW aJ I s aN aH cl N ce:=by
 refine bA λco aB=>?_;obtain⟨l,e,⟨t,dZ,w⟩,B,v,V⟩:=y;refine aB ?_;have u:∀a,be.heap.get? a=am->s.heap.get? a=am:=λa C=>by
  cases X:s.heap.get? a with
  |none=>rfl
  |some o=>obtain⟨q,a7⟩:=x.live a o X;replace a7:=C▸a7;exact bX a7
 have aF:=x.trans e;refine⟨l,⟨(fv _ dZ w<|.inl rfl),B,vw p v,vw p V,jd p v,jd p V⟩,G.cy (λq q=>id) aF,u _ v,u _ V,λaj o T a b X=>?_,λa o q q z X=>aF.ea a o id z X,λa o aK X=>⟨o.slots,aF.ea a o id (G.off a aK) X⟩,aF.live,aF.fresh⟩;replace a:=w▸a;cases a;cases b;cases X
variable{dC:Sem bt}
theorem Ve {f:Flow->bZ->Prop}(a1:c.Ok)(aI:o5 c ae N ej)(G:b5.handled=am) (C:b7 ld b5 dC (λv be=>∃e d t dZ,v=.ref e/\c.base.StaysIn be.heap/\be.heap.get? e=Y ⟨.ref ae,Y d,.fields #[t,.none,.none,.none,.bool false,.none],dZ⟩/\E (.ref e) be) E s):b7 ld b5 (raiseStmt ag (Y dC) am) f E s:=by
 refine bA λco aB=>?_;obtain⟨⟨bH,X,bs,sn,sub,hu,bf,aM,a0,cz,cM,dh,dw,aO⟩,-,-,-⟩:=aI;refine aB ?_;have b:(mO ae::hy).contains (.type "BaseException")=true:=by refine J Jk ?_;simp[hy]
 unfold raiseStmt;refine cc<|b0 C (λv be aZ=>?_) λq q dC=>dC;refine bA λco aB=>sS aZ λe d t dZ aD bU he a=>?_;clear aZ;replace aB:=aD▸aB;have bi:=a1.gL.keeps bU _ _ aO;obtain⟨aP,g,O,cr,os⟩:=be;refine aB ?_;repeat(first|with_reducible refine lK he ?_|with_reducible refine lK bi ?_|(with_reducible refine wpAny_isSubtype_exc bi ?_;refine J b ?_)|wp_step)
 exact wpAny_raiseNew_none G a
structure l4 (c:cG)(ae N ej:Addr):Prop where
 ok:c.Ok
 cls:o5 c ae N ej
 body:∃body E ah o f g B m fV D,kz c ej nG [] body E/\m1 E nG nG/\body=[.Assign [.Attribute (.Name "self" ah) "symbol" o] (.Name "symbol" f) g,.Assign [.Attribute (.Name "self" B) "data" m] (.Name "data" fV) D]/\
  (∀ag,j3 (.Name "symbol" f) (Y (.Attribute (.Name "self" ah) "symbol" o)) g.line ag=pure false)/\(∀ag,j3 (.Name "data" fV) (Y (.Attribute (.Name "self" B) "data" m)) D.line ag=pure false)
theorem RY (C:pre.length=2):∃a b,pre=[a,b]:=by
 cases pre with
 |nil=>cases C
 |cons a pre=>
  cases pre with
  |nil=>cases C
  |cons b pre=>cases kZ.mp (rq.inj<|rq.inj C);exact lG a b rfl
abbrev xH (aF:h1):aP:=λk ai S I=>pG S λb a S=>aF [("symbol",a),("data",b)] ai I
theorem Qx (a8:l4 c ae N ej)(hf:bP c (l+2) aw nm (.Name w fp) (aR<|.ref ae))(aK:i9 c (l+2) aw nm al aY)(aP:mF al)(ao:al.length=2): ky c ae (l+2) aw nm (.Raise (Y<|.Call (.Name w fp) al [] dl) am pos) λaF R=>aY (xH aF):=by refine⟨λW ag aW ai I s R j aF aQ ok aE G h F S af=>?_⟩;obtain⟨a1,aI,body,E,ah,o,f,g,B,m,fV,D,x,U,aA,bk,bS⟩:=a8;refine J (arm_exec_Raise _ _ _ _)<|cc<|qe<|Ve (s:=s) (c:=c) a1 aI aQ.handled<|cc<|b0 (Q:=λv be=>∃e d t dZ,v=.ref e/\c.base.StaysIn be.heap/\be.heap.get? e=Y ⟨.ref ae,Y d,.fields #[t,.none,.none,.none,.bool false,.none],dZ⟩/\mW c ae ag nm aW I s aF (.ref e) be) ?_ (λv be aZ=>cc<|qe<|dD aZ) λq q e=>e;refine tb<|b0 (hf.r W ag ai I s (λq q au Z=>au=[.ref ae]/\Z=I) j [] _ aQ h F S ⟨rfl,rfl⟩) (λv be A=>gZ A λu ay aU H av bv bE=>?_) λq q e=>e;replace aU:=(rm.inj bv).1▸aU;clear S;subst bE;cases aU;refine callWith_of (P:=λC=>c.K.In C) (by refine J (aP _ _) ?_;rfl) (keeps_K aI.keep)<|t4 (aP _ _)<|b0 (aK.r W ag ai _ be _ _ [] _ dl aQ h (F.cy av) H af) (λaj n A=>gZ A λus aN bb p a3 ap i=>⟨a1.gL.keeps p.keep,?_⟩) λq q e=>e;refine bA λco aB=>oD (l7 (lj:=λa b=>aF [("symbol",a),("data",b)] ai aN) (by refine fc (RY<|ap.trans ao) λa b e=>?_;rw[e] at i⊢;exact i) bb) λa b M T aD O fB L bJ=>?_;clear i;replace bb:=aD▸bb;clear A;replace aB:=O▸aB;replace bb:=O▸bb;refine aB<|wpAny_call<|Pd a1 aI x U aA bk bS aQ p bb λe d aH y=>?_;have cX:=av.trans a3;exact fc (y.exc) λt dZ he=>⟨e,d,t,dZ,rfl,y.sim.keep,he,e,d,_,ai,aN,rfl,y.xu ok.apart G p cX,(F.cy cX).cy y.cy,bJ⟩
theorem bk.mK (C:bk c b ar us ad I)(an:b<=e:=by lia):lT c ae e ar us ad fW I:=by intro W aW s ee aj R aQ aE G S hf aK cd bJ;exact C W s ee aj R ⟨by have:=aQ.depth;exact cn (.le (.a (.a aa<|.m 2 ab)<|.k 4) ah) [.le ab az,.le (.a (.a aa<|.m 2 az)<|.k 4) ah] an this,by have:=aQ.units;exact cn (.le (.a (.a aa<|.m 20 ab)<|.k 100) ah) [.le ab az,.le (.a (.a aa<|.m 20 az)<|.k 100) ah] an this,aQ.handled⟩ S hf aK cd
theorem lT.up {k:Nat}(C:lT c ae k ar us ad fW I)(an:k<=b:=by lia):lT c ae b ar us ad fW I:=by intro W aW s ee aj R aQ aE G S hf aK cd bJ;exact C W aW s ee aj R ⟨by have:=aQ.depth;exact cn (.le (.a (.a aa<|.m 2 ab)<|.k 4) ah) [.le ab az,.le (.a (.a aa<|.m 2 az)<|.k 4) ah] an this,by have:=aQ.units;exact cn (.le (.a (.a aa<|.m 20 ab)<|.k 100) ah) [.le ab az,.le (.a (.a aa<|.m 20 az)<|.k 100) ah] an this,aQ.handled⟩ aE G S hf aK cd bJ
theorem O9 {d:Addr}{as:List (Str×V)}(aF:Exc c ae s.heap I cl d as) (C:∀aG,Exc c ae aG I cl d as->(∀b o,¬ kC s.heap cl b->s.heap.get? b=Y o->aG.get? b=Y o)->(∀b o,s.heap.get? b=Y o->∃q,aG.get? b=Y q)->(∀b,kC s.heap cl b->I b=am/\c.base.get? b=am)->gs () {s with heap:=aG}):b7 ld b5 (p0 (.ref cl) am) gs E s:=by
 have K:=aF;refine bA λco aB=>?_;obtain⟨⟨aj,dZ,he,bD⟩,⟨m,⟨p,al,cv,j,e,P⟩,has⟩,ny,oE,m4,based⟩:=aF;refine aB ?_;unfold p0;rcases bD with ak|bo
 ·refine cc<|oV he rfl ak ?_;exact J (if_neg<|by decide)<|dD (C s.heap K (λq q q X=>X) (λq o X=>⟨o,X⟩) λb A=>hg A λab o a b d=>by replace a:=he▸a;cases a;cases b;replace d:=ak▸d;cases d)
 ·refine sR bo λT t g ak aa G l bp Z Q=>?_;clear bo;refine cc<|oV he rfl ak ?_;refine J (if_pos (by simp:(mO T !=nO)=true)) ?_;refine wpAny_setField G l (lI.mp bp).1 ?_;have h:∀b,b≠T->(s.heap.update T (rp (·.setIfInBounds 3 ((am:Option Addr).elim nO λf=>rawInt f)))).get? b=s.heap.get? b:=λb aA=>vQ _ _ _ _ aA;have n:=rj (rp (·.setIfInBounds 3 ((am:Option Addr).elim nO λf=>rawInt f))) G<|Ap<|th l _;have R:d≠T:=λX=>by replace j:=G▸X▸j;cases j;replace e:=l▸e;cases e
  refine C _ ⟨(fv aj dZ ((h _ aa.symm).trans he)<|.inr<|zG T _ _ ak aa n (th l _) (by simp[(lI.mp bp).1]) Z Q),(bj m (vE p al cv ((h _ R).trans j) e P) has),ny,oE,m4,based⟩ (λb o au X=>(h b λz=>au<|eV aj _ he rfl<|by refine J z ?_;exact ak).trans X) (λb o X=>?_) λb A=>hg A λab o a a9 d=>by replace a:=he▸a;cases a;cases a9;replace d:=ak▸d;cases d;exact⟨Z,Q⟩
  by_cases z:b=T
  ·refine J z ?_;exact⟨_,n⟩
  ·exact⟨o,(h b z).trans X⟩
theorem Wh (h:fy c ag aw nm)(F:cH ag nm ai I s.heap)(S:bz c I s)(a4:nm[i]?=Y name)(ap:aw.names.lookup name=Y .local) (C:∀aH,cH ag nm (ai.set i .aD) I aH.heap->bz c I aH->bO (Own ag) I s I aH->gs () aH):b7 c.M b5 (do bindName ag name .none;unbindBehindTheSuite ag name pos) gs E s:=by
 have fo:=h;refine bA λco aB=>?_;obtain⟨dv,an,D,B,l,T,al,A,t⟩:=h;have ak:=F;obtain⟨⟨m,d,aX,a1,a6⟩,bL,n,aY⟩:=F;refine aB ?_;have g:ag.scope.kind=.function:=by refine J dv ?_;exact an
 refine wpAny_nameGoes_keeps (by refine J (lv dv _) ?_;exact ap) aX (by refine J g ?_;rfl) λaG v V U=>?_;have f:∀b o,b≠ag.locals->s.heap.get? b=Y o->aG.get? b=Y o:=λb o X e=>(U.2 b X).trans e;have lo:∃o,aG.get? ag.locals=Y o:=fi V λo q q e q=>⟨o,e⟩;refine C {s with heap:=aG,toks:=s.toks+1} ⟨(eV _ d V (λz k e=>?_) λj y u bu aU=>?_),by refine J JM ?_;exact bL,n,λp aP=>?_⟩ ?_ ?_
 ·exact a9 (a1 z k e) λo a7 r=>(bj o (f k o (λX=>fo.above z k (mem_of_lookup e) X.symm) a7) r)
 ·by_cases x:j=i
  ·clear C;subst x;replace aU:=(Jl<|by refine J bL ?_;exact(e8.mp bu).1)▸aU;exact .inl (Y.inj aU).symm
  ·replace aU:=(JK<|hT x)▸aU;refine(a6 j y u bu aU).imp id λ⟨w,aR,O⟩=>⟨w,?_,O⟩;have G:y≠name:=λX=>by clear ap aB V;subst X;exact x ((JL (e8.mp bu).1 B).mp<|bu.trans a4.symm)
   by_cases kK:ag.scope.names.lookup y=Y .local
   ·rw[if_pos kK] at aR⊢;exact(if_neg G).trans aR
   ·rw[if_neg kK] at aR⊢;exact aR
 ·obtain⟨o,e⟩:=aY p aP;exact⟨o,f _ o (λX=>fo.above p.1 p.2 aP X.symm) e⟩
 ·have au:=S.tok<|s.toks+1;exact bz.but (P:=λa=>a=ag.locals) S (λa o X e=>f a o X e) (λa X=>X▸n _ (.head _)) (λa X=>X▸t _ (.head _)) rfl rfl
 ·refine⟨λa o X q e=>f a o (λz=>X<|z▸.head _) e,λa o e=>?_,λq q q e=>e⟩;by_cases X:a=ag.locals
  ·refine J X ?_;exact lo
  ·exact⟨o,f a o X e⟩
abbrev ni:eO->Env->Prop:=λW ag=>k7 ag []/\W.frames=Y [ag]
theorem nj (C:fo c b aw nm aL aY):j5 c b aw nm ni aL aY:=⟨λW ag ai I s R j E aQ q h F S af=>C.r W ag ai I s R j E aQ trivial h F S af⟩
theorem GH (h:fy c ag aw nm)(F:cH ag nm ai I s.heap)(a4:nm[i]?=Y w)(hd:(w==("__debug__":Str))=false)(aU:ai[i]?=Y u)(a:u≠.aD) (C:∀v,u.is v->hG v s):b7 c.M b5 (eval (.Name w pos) ag) hG E s:=by
 refine bA λco aB=>?_;obtain⟨dv,an,D,-,-,-,-,-,-⟩:=h;obtain⟨⟨m,d,aX,a1,a6⟩,-,-,-⟩:=F;refine aB ?_;have q:w∈nm:=d1 a4;refine wpAny_Name ?_ hd;rcases a6 i w u a4 aU with rfl|⟨v,hm,f⟩
 ·exact(a rfl).elim
 replace hm:=dv▸hm;have g:ag.scope.kind=.function:=by refine J dv ?_;exact an
 rcases D w q with ap|⟨ap,x⟩
 ·replace hm:=(if_pos ap)▸hm;exact wpAny_loadName_local g (by refine J (lv dv _) ?_;exact ap) aX hm<|C v f
 ·have bw:¬ (aw.names.lookup w=Y .local):=by refine J ap ?_;exact λe=>by cases e
  replace hm:=(if_neg bw)▸hm;obtain⟨k,G⟩:=qa.mp x;exact wpAny_loadName_cell g (by refine J (lv dv _) ?_;exact ap) G (hm▸a1 w k G)<|C v f
theorem QH (a1:c.Ok)(bJ:n2 c w (.ref a))(h:fy c ag aw nm)(S:bz c I s)(aL:aw.names.lookup w=Y .globalImplicit)(hd:(w==("__debug__":Str))=false) (C:hG (.ref a) s):b7 c.M b5 (eval (.Name w pos) ag) hG E s:=by
 refine bA λco aB=>?_;obtain⟨dv,an,-,-,-,-,al,-,-⟩:=h;obtain⟨i,d⟩:=a1.glob;refine a9 bJ λv a6 aU=>?_;clear bJ;refine aB ?_;replace a6:=aU▸a6;have g:ag.scope.kind=.function:=by refine J dv ?_;exact an
 refine Name_function_global g (by refine J (lv dv _) ?_;exact aL) (loadGlobal_global (mg:=i) (v:=.ref a) ?_ (mg_of a1.gL d a6) C) hd;refine J al ?_;exact d.keeps S.keep
theorem cH.note (aJ:cH ag nm ai Z s.heap)(h:fy c ag aw nm)(ok:k7 ag [])(F:cH ag nm us I C)(N:wk c ae (dt [ag]) I a cl ce C aG)(he:s.heap.get? a=am)(bD:∀T,kC C a T->s.heap.get? T=am):cH ag nm us I aG:=by
 refine bA λco aB=>?_;obtain⟨⟨m,d,aX,a1,a6⟩,ap,aO,aq⟩:=F;refine aB ?_;have aE:dt [ag]=[ag.locals]:=ub ok;refine⟨(eV m d ?_ (λz k X=>?_) a6),ap,aO,λp aP=>?_⟩
 ·refine fi aX λo al cv bv r=>?_;clear aX;obtain⟨dZ,U⟩:=N.slots _ o (by refine J aE ?_;exact .head _) bv;exact i4 _ al cv U r
 ·refine a9 (a1 z k X) λo a7 r=>?_;have hm:k∈addrs ag:=.tail _<|eF.mpr<|bj ((z,k)) (mem_of_lookup X) rfl;obtain⟨aF,n⟩:=aJ.live k hm;refine(bj o (N.same k o (λw=>?_) (λw=>?_) (λw=>?_) a7) r)
  ·replace n:=he▸w▸n;exact bX n
  ·replace w:=aE▸w;exact h.above z k (mem_of_lookup X) (gD.mp w).symm
  ·replace n:=(bD k w)▸n;exact bX n
 ·obtain⟨o,a⟩:=aq p aP;exact N.live _ o a
theorem QL (C:u.is v)(p:u.plain):handedOut v=pure v:=handedOut_of<|FS C p
theorem Fj (a1:c.Ok)(aI:o5 c ae N ej)(hm:∀m:Str->Option bt,m "symbol"=am->m "data"=am->m w=am)(Q:lJ (.type "Exception") w=pure am) (aF:Exc c ae s.heap I a cl ce)(S:bz c I s)(aL:ce.lookup w=Y u)(aP:u.plain)(C:∀v t,u.is v->hG v {s with toks:=t}):b7 c.M b5 (pW (.ref a) w true) hG E s:=by refine bA λco aB=>?_;obtain⟨⟨bH,X,bs,sn,sub,hu,bf,aM,a0,cz,cM,dh,dw,aO⟩,⟨m,B,d7,bV,W,bQ,aN,br⟩,bd,-⟩:=aI;have bi:=a1.gL.keeps S.keep _ _ aO;have a7:=B.keeps S.keep;obtain⟨⟨aj,dZ,he,bD⟩,⟨fX,l,has⟩,-,-,-,-⟩:=aF;refine a9 (has w u aL) λv a6 aU=>?_;obtain⟨G,g,O,t,os⟩:=s;exact aB<|Pa bi a7 W bQ (hm m aN br) Q he rfl rfl rfl l a6 (QL aU aP)<|C v (t+1) aU
theorem Exc.keep {d:Addr}{as:List (Str×V)}(aF:Exc c ae C I a d as)(an:∀b o,I b=am->c.base.get? b=am->(b=a\/b=d\/kC C a b)->C.get? b=Y o->aG.get? b=Y o):Exc c ae aG I a d as:=by refine bA λco aB=>?_;obtain⟨⟨aj,dZ,he,bD⟩,⟨m,⟨p,al,cv,j,r⟩,has⟩,ny,oE,m4,based⟩:=aF;refine aB<|⟨⟨aj,dZ,an a _ ny m4 (.inl rfl) he,bD.imp id λA=>sR A λT t g ak ao bp bI c9 er D=>⟨T,t,g,ak,ao,an T _ er D (.inr<|.inr ⟨aj,_,he,rfl,ak⟩) bp,bI,c9,er,D⟩⟩,⟨m,⟨p,al,cv,an d _ oE based (.inr<|.inl rfl) j,r⟩,has⟩,ny,oE,m4,based⟩
abbrev xI (V x:Nat)(K:i8)(R:aP):aP:=λk ai S I=>K (λas B Z=>∃u v,as.lookup ("symbol":Str)=Y u/\as.lookup ("data":Str)=Y v/\u.plain/\v.plain/\∀l aN,dI Z aN l (.list [u,v])->R k ((B.set V<|.ref l).set x .aD) [] aN) R k ai [] I
theorem QG (V x:Nat){y:Str}{fV dA:Pos}(a8:l4 c ae N ej)(L:nm[V]?=Y y)(a4:nm[x]?=Y dO)(ap:aw.names.lookup dO=Y .local)(bw:V≠x) (bJ:n2 c name (.ref ae))(aL:aw.names.lookup name=Y .globalImplicit)(hd:(name==("__debug__":Str))=false)(D:(dO==("__debug__":Str))=false) (U:∀ag,j3 (.List [.Attribute (.Name dO fC) "symbol" fK,.Attribute (.Name dO ij) "data" hk] dy) (Y<|.Name y fp) fV.line ag=pure false) (bU:∀ag,eval (.Attribute (.Name dO fC) "symbol" fK) ag=(do let o<-eval (.Name dO fC) ag;lP fK.atName;let r<-o2 [o] (pW o "symbol" true);vP (.Name dO fC) o r;pure r)) (bL:∀ag,eval (.Attribute (.Name dO ij) "data" hk) ag=(do let o<-eval (.Name dO ij) ag;lP hk.atName;let r<-o2 [o] (pW o "data" true);vP (.Name dO ij) o r;pure r)) (bT:∀ag,hC [.Attribute (.Name dO fC) "symbol" fK,.Attribute (.Name dO ij) "data" hk] ag=(false,eval (.Attribute (.Name dO fC) "symbol" fK) ag)::hC [.Attribute (.Name dO ij) "data" hk] ag) (bV:∀ag,hC [.Attribute (.Name dO ij) "data" hk] ag=(false,eval (.Attribute (.Name dO ij) "data" hk) ag)::hC [] ag) (aA:mZ c ae l aw nm body eR): j5 c l aw nm ni (.Try body [.ExceptHandler (Y<|.Name name dl) (Y dO) [.Assign [.Name y fp] (.List [.Attribute (.Name dO fC) "symbol" fK,.Attribute (.Name dO ij) "data" hk] dy) fV] dA] [] [] pos) (xI V x eR):=by
 have a1:=a8.ok;have aI:=a8.cls;refine⟨λW ag ai I s R j E aQ al h F S af=>dF al λok aE=>?_⟩;have G:Frs c [] I s.heap:=⟨trivial,jR⟩;have bR:dt [ag]=[ag.locals]:=ub ok;refine wpAny_Try_except<|b0 (aA.r W ag [] ai I s _ _ _ aQ ok aE G h F S af) (λf be A=>mB A λk B ay an bC H av i=>?_) λv be A=>kP A λe d as B ay bG=>gM bG λa6 ah bC i=>?_
 ·cases k with
  |next=>refine J an ?_;exact qd<|gr (k:=.next) rfl bC H av i
  |brk=>exact i.elim
  |cont=>exact i.elim
  |ret u=>obtain⟨v,rfl,a6⟩:=an;exact gr (k:=.ret u) (bj v rfl a6) bC H av i
 refine J a6 ?_;have ax:=ah.dt.push ok h bC;have nc:∀z∈addrs ag,∃o,s.heap.get? z=Y o:=F.live;have aN:d∉dt [ag]:=λhm=>by replace hm:=bR▸hm;obtain⟨o,a7⟩:=nc _<|.head _;have:=ah.pA;rw[gD.mp hm] at this;replace a7:=this▸a7;exact bX a7
 refine Fi aE ax ah.sim ok.own ah.exc aN λO bc=>?_;have m:=ah.note ok ax bc;have b2:∀T,kC be.heap e T->s.heap.get? T=am:=λT A=>hg A λaj o a b d=>ah.pz aj o T a b d;have bg:cH ag nm B ay O:=cH.note F h ok bC bc ah.qS b2;refine bA λco aB=>gZ i λaX aZ aU a6 ak b1 bQ=>?_;clear i;refine dT (m.exc.exc) λca b6 aC q=>?_;have bp:=aI;obtain⟨⟨bH,X,bs,sn,sub,hu,bf,aM,a0,cz,cM,dh,dw,aO⟩,-,-,-⟩:=aI;refine aB ?_;have bi:=a1.gL.keeps m.sim.keep _ _ aO;refine wpAny_handleBy_cons (codeAny_handlers_test<|QH a1 bJ h m.sim aL hd ?_) (by intro X;cases X);refine wpAny_excMatches_sub_self bi aC rfl (by simp[hy])<|codeAny_handlers_suite_as ?_;refine O9 (I:=ay) (d:=d) (as:=as) m.exc λaV ao aP bY bt=>?_;have br:∀z∈addrs ag,z≠e/\z≠d/\¬ kC O e z:=λz aq=>by
  obtain⟨o,a7⟩:=nc z aq;refine⟨λX=>?_,λX=>?_,λA=>hg A λaj q a b d=>?_⟩
  ·replace a7:=m.qS▸X▸a7;exact bX a7
  ·replace a7:=m.pA▸X▸a7;exact bX a7
  ·replace a7:=(m.pz aj q z a b d)▸a7;exact bX a7
 have bF:cH ag nm B ay aV:=bg.but λz aq o X=>aP z o (br z aq).2.2 X;have aJ:bz c ay {be with heap:=aV}:=bz.but (P:=kC O e) m.sim (λb o au X=>aP b o au X) (λb p=>(bt b p).1) (λb p=>(bt b p).2) rfl rfl;have K:bO (Own ag) I s ay {be with heap:=aV}:=by
  refine⟨λz o aq h0 X=>aP z o (λw=>?_)<|m.ea z o aq (by simp[dt]) h0 X,λz o X=>?_,m.fresh⟩
  ·obtain⟨aj,q,a,b,d⟩:=w;replace X:=(m.pz aj q z a b d)▸X;exact bX X
  ·obtain⟨q,bB⟩:=m.live z o X;exact bY z q bB
 refine q7 (s:={be with heap:=aV}) (u:=.ref e) h bF aJ a4 rfl λad a2 aT bn=>?_;have bd:Exc c ae ad.heap ay e d as:=by
  refine ao.keep λb o h0 aA aR X=>bn.ea b o (λbm=>?_) h0 X;have:=br b bm;rcases aR with aR|aR|bo
  ·exact this.1 aR
  ·exact this.2.1 aR
  ·refine hg bo λaj q bk bS bI=>?_;clear bo;obtain⟨aF,b3⟩:=nc b bm;refine dT (ao.exc) λcb b7 a3 q=>?_;have bx:∀o,O.get? e=Y o->aV.get? e=Y o:=λo X=>aP e o (λA=>hg A λab b4 aG a9 M=>by
    refine dT (m.exc.exc) λb9 b5 n aH=>?_;replace aG:=(n:O.get? e=_)▸aG;cases aG;cases a9;rcases aH with aH|bo
    ·replace M:=aH▸M;cases M
    ·refine ve bo λT t g aH aa q=>?_;clear bo;replace M:=aH▸M;cases M;exact aa rfl) X
   replace bk:=(bx _ aC:({be with heap:=aV}:bZ).heap.get? e=_)▸bk;cases bk;cases bS;exact this.2.2<|eV _ _ aC rfl bI
 have bl:(B.set x<|.ref e)[x]?=Y (.ref e):=Jl (by refine J bF.len ?_;exact(e8.mp a4).1);refine v9<|wpAny_Assign_Name (wpAny_List<|wpAny_items_cons (Attribute_any_ (GH h a2 a4 D bl (λX=>by cases X) λaW a5=>?_)<|bU _)<|bT _)<|U ag;refine J a5<|Fj a1 bp (λq C q=>C) (by kernel_rfl) bd aT aU ak λQ bb aK=>wpAny_items_cons (Attribute_any_ (GH (s:={ad with toks:=bb}) h a2 a4 D bl (λX=>by cases X) λaW a5=>?_)<|bL _)<|bV _;refine J a5<|Fj (s:={ad with toks:=bb}) a1 bp (λq q C=>C) (by kernel_rfl) bd (aT.tok bb) a6 b1 λZ aS bW=>wpAny_items_nil ⟨by refine(?_:2<=c5);refine J eI ?_;decide,?_⟩;have bN:bz c ay {ad with toks:=aS}:=aT.tok aS;have ba:=bN.alloc {cls:=.type "list",data:=.seq #[Q,Z]} (.list [aX,aZ]) ⟨#[Q,Z],0,kY _ rfl,aK,bW,trivial⟩;have bh:bO cX ay ad _ _:=(bO.tok aS).trans<|bO.alloc (s:={ad with toks:=aS}) (own:=cX) (I:=ay) {cls:=.type "list",data:=.seq #[Q,Z]}<|.list [aX,aZ];have bu:dI ay (ay.set ad.heap.objs.size<|.list [aX,aZ]) ad.heap.objs.size (.list [aX,aZ]):=⟨aT.kU,rfl⟩;have bK:=a2.cy bh;refine q7 h bK ba L (u:=.ref ad.heap.objs.size) rfl λaY az bM bD=>qd<|Wh h az bM a4 ap λb8 bP bv ar=>?_;have bE:((B.set x<|.ref e).set V<|.ref ad.heap.objs.size).set x .aD=(B.set V<|.ref ad.heap.objs.size).set x .aD:=by exact J (List.set_comm _ _ bw.symm)<|J (List.set_set _) rfl
 replace bP:=bE▸bP;exact gr (k:=.next) rfl bP bv (((K.trans bn).trans bh.g1).trans<|bD.trans ar)<|bQ _ _ bu
theorem Lu (a1:c.Ok)(hf:kz c ae names [] body aw)(U:m1 aw names nm)(aA:mX c b aw nm ni body aY)
 (ap:us.length=names.length)(bf:aY bM (d5 c b ad) (us++[]++eb (nm.length -names.length) .aD) [] I)(aQ:fz b5 (b+1))(aE:b5.frames=Y [])(S:bz c I s)(O:(V.ref ae).is ee)(bb:cj us bs)
 (cd:∀v aH,dV c I s ad v aH->R (.ok<|.ret v) aH):jX c.M b5 (.call ee ⟨bs,[]⟩) R s:=by
 refine tS a1 hf U (g8:=[]) trivial ap aQ S O bb λag aZ cr h F H a9 a3 L T=>codeAny_func ?_
 have i:(b5.deeper ag).frames=Y [ag]:=by refine(?_:b5.frames.map (ag:: ·)=_);refine J aE ?_;rfl
 refine b0 (aA.r (b5.deeper ag) ag _ I _ _ _ _ T ⟨⟨a9,jR⟩,i⟩ h F H bf) (λhz aH A=>mB A λk B Z an ak au D X=>?_) λq q e=>e
 have K:bO cX I s Z aH:=by refine⟨λa o q e g=>D.ea a o (λX=>?_) e<|L a o g,λa o e=>D.live a o<|L a o e,λa o g e=>D.fresh a o (L a o g) e⟩;replace g:=(a3 a X)▸g;exact bX g
 cases k with
 |next=>refine J an ?_;exact cd _ _<|s6 au K X
 |brk=>exact X.elim
 |cont=>exact X.elim
 |ret u=>obtain⟨v,rfl,a6⟩:=an;exact cd _ _<|jp a6 au K X
set_option tactic.hygienic true
abbrev JR:=(Src->aP)->aP
abbrev c4:bq:=λq=>fI
noncomputable def jW (z:av)(e:Expr)(d:Str->Pos->av:=λq q=>z)(w:Const->Nat->Pos->av:=λq q q=>z)(u:Expr->Operator->Expr->Pos->av:=λq q q q=>z)(o:UnaryOp->Expr->Pos->av:=λq q q=>z)(n:Expr->Expr->Expr->Pos->av:=λq q q q=>z)(m:Expr->List CmpOp->List Expr->Pos->av:=λq q q q=>z)(i:BoolOp->List Expr->Pos->av:=λq q q=>z)(A:List Expr->Pos->av:=λq q=>z)(p:List Expr->Nat->Pos->av:=λq q q=>z)(y:List (Option Expr)->List Expr->Pos->av:=λq q q=>z)(c:Expr->Str->Pos->av:=λq q q=>z)(h:Expr->Expr->Pos->av:=λq q q=>z)(f:Expr->List p1->cC->Pos->av:=λq q q q=>z)(j:Expr->List Expr->List Keyword->Pos->av:=λq q q q=>z)(b:Option Expr->Option Expr->Option Expr->Pos->av:=λq q q q=>z)(s:Expr->Pos->av:=λq q=>z)(l:Expr->List p1->cC->Pos->av:=λq q q q=>z)(a:Expr->Expr->List p1->cC->Pos->av:=λq q q q q=>z)(g:List Expr->Nat->Pos->av:=λq q q=>z):av:=Expr.casesOn (motive_1:=λq=>av) e i (λq q q=>z) u o (λq q q q=>z) n y g f l a (λq q q q=>z) (λq q=>z) (λq q=>z) (λq q=>z) m j (λq q q q=>z) (λq q=>z) w c h s d A p b
theorem iD (C:am=Y aB):False:=nomatch C
noncomputable def ko (e:Expr):Bool:=jW true e (s:=λq q=>false)
noncomputable def yt (e:Expr):Bool:=jW true e (f:=λq q q q=>false) (l:=λq q q q=>false) (a:=λq q q q q=>false)
noncomputable def sK (e:Expr):Bool:=jW true e (g:=λq q q=>false)
inductive eL:Expr->Type
 |name (x:_) (p:_):eL (.Name x p)
 |call (g:_) (al:_) (aO:_) (p:_):eL (.Call g al aO p)
 |attr (o:_) (x:_) (p:_):eL (.Attribute o x p)
 |list (al:_) (p:_):eL (.List al p)
 |tup (al:_) (k:_) (p:_):eL (.Tuple al k p)
 |slice (l:_) (u:_) (st:_) (p:_):eL (.Slice l u st p)
 |const (v:_) (k:_) (p:_):eL (.Constant v k p)
 |unop (bl:_) (e:_) (p:_):eL (.UnaryOp bl e p)
 |hM (e:Expr):eL e
noncomputable def jq (e:Expr):eL e:=Expr.casesOn (motive_1:=eL) e (λq q q=> .hM _) (λq q q=> .hM _) (λq q q q=> .hM _) .unop (λq q q q=> .hM _) (λq q q q=> .hM _) (λq q q=> .hM _) (λq q q=> .hM _) (λq q q q=> .hM _) (λq q q q=> .hM _) (λq q q q q=> .hM _) (λq q q q=> .hM _) (λq q=> .hM _) (λq q=> .hM _) (λq q=> .hM _) (λq q q q=> .hM _) .call (λq q q q=> .hM _) (λq q=> .hM _) .const .attr (λq q q=> .hM _) (λq q=> .hM _) .name .list .tup .slice
noncomputable def G3 (v:eL aM):Option Str:=eL.casesOn (motive:=λq q=>Option Str) v (λx q=>Y x) (λq q q q=>am) (λq q q=>am) (λq q=>am) (λq q q=>am) (λq q q q=>am) (λq q q=>am) (λq q q=>am) λq=>am
noncomputable def nameOf (e:Expr):Option Str:=G3<|jq e
theorem Tl (v:eL aM)(C:G3 v=Y w):∃p,aM=.Name w p:=by
 cases v with
 |name y p=>exact⟨p,congrArg (Expr.Name · p)<|Y.inj C⟩
 |_=>exact(iD C).elim
theorem lx (C:nameOf aM=Y w):∃p,aM=.Name w p:=Tl _ C
theorem dm (C:(cL&&gk)=true):cL=true:=((d9 _ _).mp C).1
theorem gG (C:(cL&&gk)=true):gk=true:=((d9 _ _).mp C).2
noncomputable def idx:List Str->Str->Option Nat
 |[],_=>am
 |y::bG,x=>if y==x then Y 0 else(idx bG x).map (· +1)
noncomputable def idxs (nm:List Str):List Str->Option (List Nat)
 |[]=>Y []
 |x::Q=>(idx nm x).bind λi=>(idxs nm Q).map (i:: ·)
noncomputable def sI:List Expr->Option (List Str)
 |[]=>Y []
 |e::al=>(nameOf e).bind λx=>(sI al).map (x:: ·)
theorem mo:∀{i:Nat},idx nm w=Y i->nm[i]?=Y w:=by
 induction nm with
 |nil=>intro i C;exact bX C
 |cons y bG B=>
  intro i C;unfold idx at C;split at C
  ·rename_i X;cases C;refine J (eq_of_beq X) ?_;rfl
  ·refine a9 (hS.mp C) λj aG e=>?_;refine bm e ?_;exact B aG
theorem FX:∀{Q:List Str} {is:List Nat},idxs nm Q=Y is->mU nm is Q:=by
 intro D;induction D with
 |nil=>intro o C;cases C;trivial
 |cons x Q B=>intro o C;refine a9 (fk.mp C) λi ak ao=>a9 (hS.mp ao) λa bp bh=>?_;refine bm bh ?_;exact⟨mo ak,B bp⟩
structure eW where
 gl:List (Str×V)
 ff:List Str
structure fG (c:cG)(cf:eW):Prop where
 ok:c.Ok
 gl:∀{x u},cf.gl.lookup x=Y u->n2 c x u
 ff:∀{x},cf.ff.contains x=true->qk c x
inductive fY {av:Type}(P:av->Prop):List av->Prop
 |nil:fY P []
 |cons {a:av} {l:List av} (C:P a) (t:fY P l):fY P (a::l)
variable{bO:av->Prop}
theorem fY.mem (C:fY bO pre)(m:aB∈pre):bO aB:=by
 induction C with
 |nil=>cases m
 |cons C t B=>cases m with|head=>exact C|tail _ m=>exact B m
structure rD where
 x:Str
 v:bt
 F:Option o3
noncomputable def tP:List rD:=[⟨"len",.builtin "len",Y qu⟩,⟨"range",.type "range",am⟩,⟨"min",.builtin "min",Y qv⟩,⟨"max",.builtin "max",Y rR⟩,⟨"list",.type "list",Y m8⟩,⟨"isinstance",.builtin "isinstance",am⟩, ⟨"int",.type "int",am⟩,⟨"str",.type "str",Y cStr⟩,⟨"ord",.builtin "ord",Y pc⟩,⟨"abs",.builtin "abs",Y cAbs⟩,⟨"sorted",.builtin "sorted",Y rT⟩,⟨"sum",.builtin "sum",Y wZ⟩,⟨"enumerate",.type "enumerate",am⟩]
noncomputable def isRef:bt->Bool|.ref _=>true|_=>false
noncomputable def tN (b:rD):Bool:= !(b.x=="__name__")&& !isRef b.v
structure tw (c:cG)(n:Nat)(b:rD):Prop where
 v:p9 b.x=Y b.v
 F:∀F,b.F=Y F->fZ c n b.v F
variable{U:rD}
theorem KR (C:tN U=true):U.x≠"__name__"/\∀a,U.v≠.ref a:=by unfold tN at C;replace C:=(oW _)▸(oW _)▸(d9 _ _)▸C;exact⟨ne_of_beq_false C.1,λa e=>by replace C:=e▸C;exact nomatch C.2⟩
theorem m5 (ak:p9 w=Y v)(C:fZ c b v jy):tw c b ⟨w,v,Y jy⟩:=⟨ak,λq e=>by cases e;exact C⟩
theorem tO (ak:p9 w=Y v):tw c b ⟨w,v,am⟩:=⟨ak,nofun⟩
theorem KT {n:Nat}(a1:c.Ok):fY (tw c n) tP:= .cons (m5 (by kernel_rfl) Li)<|.cons (tO<|by kernel_rfl)<|.cons (m5 (by kernel_rfl) Ll)<|.cons (m5 (by kernel_rfl) Lk)<|.cons (m5 (by kernel_rfl) Lj)<|.cons (tO<|by kernel_rfl)<|.cons (tO<|by kernel_rfl)<|.cons (m5 (by kernel_rfl) Lr)<|.cons (m5 (by kernel_rfl) Lm)<|.cons (m5 (by kernel_rfl) K9)<|.cons (m5 (by kernel_rfl)<|Lp a1)<|.cons (m5 (by kernel_rfl) Ls)<|.cons (tO<|by kernel_rfl) .nil
theorem KS (C:U∈tP):tN U=true:=rr.mp (by kernel_rfl:tP.all tN=true) U C
variable{dD:av->Bool}
theorem Fv (C:pre.find? dD=Y aB):aB∈pre/\dD aB=true:=⟨Xu C,Xv C⟩
def xQ (t:Str):cG->o3:=if t=="int" then λq=>pb "int" else if t=="str" then λq=>pb "str" else wX
theorem Rb (a1:c.Ok):fZ c b (.builtin "isinstance") (xQ w c):=by
 unfold xQ;split
 ·exact Lg
 ·split
  ·exact Lh
  ·exact Lf a1
structure rJ where
 x:Str
 T:String
 id:String
 F:o3
noncomputable def GS:List rJ:=[⟨"append","list","list.append",qs⟩,⟨"extend","list","list.extend",qt⟩,⟨"get","dict","dict.get",tQ⟩,⟨"rjust","str","str.rjust",rS⟩,⟨"remove","list","list.remove",wY⟩]
noncomputable def SZ:rJ:=⟨"insert","list","list.insert",tR⟩
structure AW (c:cG)(n:Nat)(m:rJ):Prop where
 oy:n4 m.T m.x m.id
 F:fZ c n (.builtin m.id) m.F
theorem S1 (a1:c.Ok):fY (AW c b) GS:=.cons ⟨S2,Lb⟩<|.cons ⟨S3,Lc⟩<|.cons ⟨S4,Ld a1⟩<|.cons ⟨S7,Lo⟩<|.cons ⟨S6,Ln⟩ .nil
noncomputable def UA (e:Expr):Bool:=jW false e (c:=λq y q=>y=="markers"||y=="order")
noncomputable def yj (e:Expr)(x:Str):Option rJ:=if x=="insert" then(if UA e then Y SZ else am) else GS.find? (·.x==x)
theorem S0 {n:Nat}(a1:c.Ok){m:rJ}(C:yj aM w=Y m):AW c n m/\m.x=w:=by
 unfold yj at C;split at C
 ·rename_i X;split at C
  ·cases C;exact⟨⟨S5,Le⟩,(eq_of_beq X).symm⟩
  ·exact bX C
 ·have:=Fv C;exact⟨(S1 a1).mem this.1,eq_of_beq this.2⟩
noncomputable def rQ (cf:eW)(sc:cC)(nm:List Str)(x:Str):Option rD:= if !(x=="__debug__")&& !(idx nm x).isSome&& !(cf.gl.lookup x).isSome&&sc.names.lookup x==Y .globalImplicit&&cf.ff.contains x then tP.find? (·.x==x) else am
def s9 (cf:eW)(sc:cC)(nm:List Str)(x:Str):bq:= if x=="__debug__" then c4 else
  match idx nm x with
  |some i=>bi i
  |none=>if sc.names.lookup x==Y .globalImplicit then
   match cf.gl.lookup x with
   |some u=>aR u
   |none=>match rQ cf sc nm x with
    |some b=>aR<|.ext b.v
    |none=>c4
   else c4
variable{au:eW}
theorem wW {n:Nat}(an:fG c au)(C:rQ au aw nm w=Y U):tw c n U/\U.x=w/\(∀a,U.v≠.ref a)/\∀pos,bP c n aw nm (.Name w pos) (aR<|.ext U.v):=by
 unfold rQ at C;split at C
 ·rename_i X;replace X:=(oW _)▸(d9 _ _)▸(d9 _ _)▸(d9 _ _)▸(d9 _ _)▸X;have f:=Fv C;have o:=(KT (n:=n) an.ok).mem f.1;have e:U.x=w:=eq_of_beq f.2;have z:=KR<|KS f.1;clear f;subst e;exact⟨o,rfl,z.2,λpos=>VW an.ok (an.ff X.2) o.v z.1 (eq_of_beq X.1.2) X.1.1.1.1⟩
 ·exact bX C
theorem ys (an:fG c au):bP c e aw nm (.Name w pos) (s9 au aw nm w):=by
 unfold s9;split
 ·exact ha
 ·rename_i X;split
  ·rename_i i P;exact Fs i (mo P)<|eq_false_of_ne_true X
  ·split
   ·rename_i ai;split
    ·rename_i u ab;exact HS an.ok (an.gl ab) (eq_of_beq ai)<|eq_false_of_ne_true X
    ·split
     ·rename_i b ax;exact(wW an ax).2.2.2 pos
     ·exact ha
   ·exact ha
def i5 (f:Expr->bq):List Expr->bq
 |[]=>λR=>R
 |e::al=>λR=>f e<|i5 f al R
def rd (bl:BoolOp)(f:Expr->lS):List Expr->lS
 |[]=>match bl with|.And=>λW q=>W|.Or=>λq B=>B
 |e::al=>match bl with|.And=>λW B=>f e (rd bl f al W B) B|.Or=>λW B=>f e W<|rd bl f al W B
def ku (f:Stmt->bq):List Stmt->bq
 |[]=>λR=>R
 |s::r=>λR=>f s<|ku f r R
def nH (f:Expr->bq):Option Expr->bq
 |none=>λR=>R
 |some e=>λR=>f e<|f8 R
theorem vb (C:ko aM=true):hC (aM::al) ag=(false,eval aM ag)::hC al ag:=by cases aM<;>first|rfl|exact kc C
variable{aW:Expr->bq}
theorem l8 (C:∀e,bP c b aw nm e<|aW e):∀{al:List Expr},al.all ko=true->i9 c b aw nm al (i5 aW al):=by
 intro D;induction D with
 |nil=>intro o;exact Fm
 |cons e al B=>intro X;replace X:=(d9 _ _)▸Jm▸X;exact Fl (aY:=aW e) (c7:=i5 aW al) (C e) (B X.2) λag=>vb X.1
theorem mG:∀{al:List Expr},al.all ko=true->mF al
 |[],_,pos,ag=>rfl
 |e::al,C,pos,ag=>by replace C:=(d9 _ _)▸Jm▸C;exact J (vb C.1)<|mG C.2 pos ag
theorem wF {f:Expr->lS}(C:∀e,ir c b aw nm e<|f e):∀bl al,n1 c b aw nm bl al (rd bl f al)
 |.And,[]=>PP
 |.Or,[]=>PR
 |.And,e::al=>PO (lU:=f e) (hW:=rd .And f al) (C e)<|wF C .And al
 |.Or,e::al=>PQ (lU:=f e) (hW:=rd .Or f al) (C e)<|wF C .Or al
variable{b7:Stmt->bq}
theorem l9 (C:∀e,j5 c b aw nm k3 e<|b7 e):∀al,mX c b aw nm k3 al (ku b7 al):=by
 intro D;induction D with
 |nil=>exact Pm
 |cons e al B=>exact Pl (c7:=b7 e) (dk:=ku b7 al) (C e)<|B
theorem q2 (C:∀e,bP c b aw nm e<|aW e):∀e,k6 c b aw nm e (nH aW e)
 |none=>Qa
 |some e=>PZ<|C e
noncomputable def strOf (v:Const):Option Str:=Const.casesOn (motive:=λq=>Option Str) v am (λq=>am) (λq=>am) (λq=>am) (λq q=>am) (λx=>Y x) (λq=>am) am
noncomputable def w6 (v:eL aM):Option Const:=eL.casesOn (motive:=λq q=>Option Const) v (λq q=>am) (λq q q q=>am) (λq q q=>am) (λq q=>am) (λq q q=>am) (λq q q q=>am) (λv q q=>Y v) (λq q q=>am) λq=>am
variable{b0:Const}
theorem EQ (v:eL aM)(C:w6 v=Y b0):∃k p,aM=.Constant b0 k p:=by
 cases v with
 |const v k p=>exact(lG k p (congrArg (Expr.Constant · k p)<|Y.inj C))
 |_=>exact(iD C).elim
noncomputable def keyOf (k:Option Expr):Option Str:=k.bind λe=>(w6<|jq e).bind strOf
noncomputable def keysOf:List (Option Expr)->Option (List Str)
 |[]=>Y []
 |k::aO=>(keyOf k).bind λx=>(keysOf aO).map (x:: ·)
theorem Wn (C:strOf b0=Y w):b0=.str w:=by
 cases b0 with
 |str y=>exact congrArg _<|Y.inj C
 |_=>exact(iD C).elim
theorem Ru (C:keyOf a4=Y w):∃i p,a4=Y (.Constant (.str w) i p):=by refine a9 (fk.mp C) λe h ao=>?_;refine J h ?_;refine a9 (fk.mp ao) λv bp bI=>fc (EQ _ bp) λi p bh=>?_;refine J bh ?_;exact(lG i p<|by exact J (Wn bI) rfl)
theorem On (C:∀e,bP c b aw nm e<|aW e):∀{al:List Expr} {Q:List Str},keysOf keys=Y Q->keys.length=al.length->rG c b aw nm Q keys al (i5 aW al):=by
 induction keys with
 |nil=>intro al Q ak ao;cases al with
  |nil=>cases ak;exact Pr
  |cons=>cases ao
 |cons k keys B=>intro al Q ak ao;cases al with
  |nil=>cases ao
  |cons e al=>refine a9 (fk.mp ak) λx P ai=>a9 (hS.mp ai) λbG ab bh=>?_;refine bm bh ?_;refine fc (Ru P) λi p bh=>?_;refine J bh ?_;exact Pq (aY:=aW e) (c7:=i5 aW al) (C e)<|B ab<|rq.inj ao
def Hh:o6:=λq q q q=>False
def Ex:Operator->o6|.Add=>e5|.Sub=>oC|.Mod=>oMod|.FloorDiv=>oDiv|.Pow=>yL|.Mult=>nx|_=>Hh
def rZ:CmpOp->o6|.Lt=>oLt|.LtE=>oLe|.Gt=>vc|.GtE=>pD|.Is=>sN|.IsNot=>oB|.Eq=>oEq|.NotEq=>i0|.In=>nw false|.NotIn=>nw true
theorem Us:fN c b mb Hh:=λq q q q q q q q q q q q q C=>C.elim
theorem KY (bl:Operator):fN c b (qb bl) (Ex bl):=by cases bl;all_goals first|exact Ue|exact Uv|exact Up|exact Uf|exact Uu|exact Uq|exact Us
theorem tX (a1:c.Ok)(bl:CmpOp):fN c b (j2 bl) (rZ bl):=by
 cases bl
 ·exact Ug
 ·exact Ur
 ·exact Uo
 ·exact Un
 ·exact Ui
 ·exact Uh
 ·exact Uk
 ·exact Ul
 ·exact Uj a1
 ·exact Ut a1
set_option tactic.hygienic false
set_option tactic.hygienic true
structure g6 where
 e:cC->List Str->Expr->bq
 t:cC->List Str->Expr->lS
 s:cC->List Str->Stmt->bq
structure iN (c:cG)(n:Nat)(F:g6):Prop where
 e:∀{sc nm} x,bP c n sc nm x (F.e sc nm x)
 t:∀{sc nm} x,ir c n sc nm x (F.t sc nm x)
 s:∀{sc nm} x,fo c n sc nm x (F.s sc nm x)
def II:Const->bq
 |.int i=>aR<|.int i
 |.none=>aR .none
 |.bool b=>aR<|.bool b
 |.str x=>aR<|.str x
 |_=>c4
theorem Og:bP c e aw nm (.Constant b0 b pos) (II b0):=by cases b0;all_goals first|exact HT|exact V2|exact VY|exact V3|exact ha
theorem qI {X:Bool}(C:X=true->bP c b aw nm aM aY):bP c b aw nm aM (if X=true then aY else c4):=by
 by_cases z:X=true
 ·exact(if_pos z).symm▸C z
 ·exact(if_neg z).symm▸ha
noncomputable def one (l:List av):Option av:=List.casesOn (motive:=λq=>Option av) l am λa m=>List.casesOn (motive:=λq=>Option av) m (Y a) λq q=>am
noncomputable def q9 (l:List av):Option (av×av):=List.casesOn (motive:=λq=>Option<|av×av) l am λa m=>(one m).map (a, ·)
theorem lB (C:one pre=Y aB):pre=[aB]:=by
 cases pre with
 |nil=>exact(iD C).elim
 |cons b m=>cases m with
  |nil=>exact congrArg (λaB=>[aB])<|Y.inj C
  |cons=>exact(iD C).elim
theorem s3 {i:av×av}(C:q9 pre=Y i):pre=[i.1,i.2]:=by
 cases pre with
 |nil=>exact(iD C).elim
 |cons b m=>exact a9 (hS.mp C) λd ak ao=>J (lB ak)<|bm ao rfl
def zN (f:Expr->bq)(l:Expr)(U:List CmpOp)(rs:List Expr):bq:=
 match one U with
 |none=>c4
 |some bl=>match one rs with
  |none=>c4
  |some r=>if AQ bl r then c4 else λR=>f l<|f r<|bV (rZ bl) R
variable{U:List CmpOp}
theorem N5 (a1:c.Ok)(C:∀e,bP c b aw nm e<|aW e):bP c b aw nm (.Compare aM U al pos) (zN aW aM U al):=by
 unfold zN;split
 ·exact ha
 ·rename_i bl P;split
  ·exact ha
  ·rename_i r ai;refine J (lB P)<|J (lB ai) ?_;split
   ·exact ha
   ·rename_i X;exact Px (tX a1 bl) (C aM) (C r)<|eq_false_of_ne_true X
def zZ (f:Expr->bq)(l:Expr)(U:List CmpOp)(rs:List Expr):lS:=
 match one U with
 |some bl=>match one rs with
  |none=>λq q=>fI
  |some r=>if AQ bl r then λq q=>fI else λW B=>f l<|f r<|bV (rZ bl)<|bv W B
 |none=>match q9 U with
  |none=>λq q=>fI
  |some y=>match q9 rs with
   |none=>λq q=>fI
   |some w=>if lastMarks [y.1,y.2] [w.1,w.2] then λq q=>fI else λW B=>f l<|f w.1<|uy (rZ y.1) (f w.2<|bV (rZ y.2)<|bv W B) B
theorem Wz (a1:c.Ok)(C:∀e,bP c b aw nm e<|aW e):ir c b aw nm (.Compare aM U al pos) (zZ aW aM U al):=by
 unfold zZ;split
 ·rename_i bl P;split
  ·exact pk
  ·rename_i r ai;refine J (lB P)<|J (lB ai) ?_;split
   ·exact pk
   ·rename_i X;exact Qr (tX a1 bl) (C aM) (C r)<|eq_false_of_ne_true X
 ·split
  ·exact pk
  ·rename_i y P;split
   ·exact pk
   ·rename_i w ai;refine J (s3 P)<|J (s3 ai) ?_;split
    ·exact pk
    ·rename_i X;have X:=eq_false_of_ne_true X;exact Qq (tX a1 _) (tX a1 _) (C aM) (C _) (C _) X
def zL (f:Expr->bq)(bl:BoolOp)(al:List Expr):bq:=
 match bl with
 |.And=>match q9 al with
  |some p=>λR=>f p.1<|bv (f p.2 R)<|aR (.bool false) R
  |none=>c4
 |.Or=>c4
theorem KX (C:∀e,bP c b aw nm e<|aW e):bP c b aw nm (.BoolOp mt al pos) (zL aW mt al):=by
 cases mt
 ·unfold zL;dsimp only;split
  ·rename_i p X;refine J (s3 X) ?_;exact Ps (C _)<|C _
  ·exact ha
 ·exact ha
def zP (f:Expr->bq)(aO:List (Option Expr))(al:List Expr):bq:= if aO.isEmpty&&al.isEmpty then mm else
  match keysOf aO with
  |none=>c4
  |some Q=>if aO.all (·.isSome)&&aO.length==al.length&& !aO.isEmpty&&i7 aO.length 15 then λR=>i5 f al (uA Q (gm Q.length []) R) else c4
theorem OB (C:∀e,bP c b aw nm e<|aW e):bP c b aw nm (.Dict keys al pos) (zP aW keys al):=by
 unfold zP;split
 ·rename_i X;replace X:=(propext oX)▸(propext oX)▸(d9 _ _)▸X;exact J X.1<|J X.2<|PC
 ·split
  ·exact ha
  ·rename_i Q P;split
   ·rename_i X;replace X:=(d9 _ _)▸(d9 _ _)▸(d9 _ _)▸X;exact PB (On C P<|eq_of_beq X.1.1.2) X.1.1.1 (eq_of_beq X.1.1.2) (λe=>by replace X:=e▸X;exact absurd X.1.2<|by decide)<|mQ X.2
   ·exact ha
noncomputable def sL (e:Expr):Bool:=jW true e (j:=λg as aO q=>jW true g (d:=λq q=>List.casesOn (motive:=λq=>Bool) as (List.casesOn (motive:=λq=>Bool) aO false λq q=>true) λq q=>true))
theorem He (C:sL aM=true):attributeBase aM name ag dC=dC:=by
 cases aM;all_goals first|rfl|skip
 rename_i g as aO _;cases g;all_goals first|rfl|skip
 cases as with
 |nil=>cases aO with
  |nil=>exact kc C
  |cons=>rfl
 |cons=>rfl
theorem Kx (C:sL aM=true)(ag:Env):eval (.Attribute aM w pos) ag=(do
 let o<-eval aM ag;lP pos.atName;let r<-o2 [o] (pW o w true);vP aM o r;pure r):=by
 refine(?_:(do let o<-attributeBase aM w ag (eval aM ag);_)=_);exact J (He C) rfl
theorem qJ (C:(if cL=true then Y aB else am)=Y jI):cL=true/\aB=jI:=by
 by_cases z:cL=true
 ·exact⟨z,Y.inj<|(if_pos z).symm.trans C⟩
 ·exact(iD<|(if_neg z).symm.trans C).elim
noncomputable def Iu (v:eL aM):Option Expr:=eL.casesOn (motive:=λq q=>Option Expr) v (λq q=>am) (λq q q q=>am) (λq q q=>am) (λq q=>am) (λq q q=>am) (λq q q q=>am) (λq q q=>am) (λbl x q=>UnaryOp.casesOn (motive:=λq=>Option Expr) bl am am am<|Y x) λq=>am
theorem WM (v:eL aM)(C:Iu v=Y cI):∃p,aM=.UnaryOp .USub cI p:=by
 cases v with
 |unop bl y p=>
  cases bl with
  |USub=>exact⟨p,congrArg (Expr.UnaryOp .USub · p)<|Y.inj C⟩
  |_=>exact(iD C).elim
 |_=>exact(iD C).elim
noncomputable def d7 (v:Const):Bool:=Const.casesOn (motive:=λq=>Bool) v false (λq=>false) (λi=>i==1) (λq=>false) (λq q=>false) (λq=>false) (λq=>false) false
theorem QP (C:d7 b0=true):b0=.int 1:=by
 cases b0 with
 |int i=>exact congrArg _<|eq_of_beq (C:(i==1)=true)
 |_=>exact kc C
noncomputable def xP (e:Expr):Bool:=((Iu<|jq e).bind λx=>(w6<|jq x).bind λv=>if d7 v=true then Y v else am).isSome
theorem SL (C:xP aM=true):bP c b aw nm aM (aR<|.int (-1)):=by refine bA λco aB=>?_;obtain⟨v,ak⟩:=qa.mp C;refine a9 (fk.mp ak) λx bp bI=>a9 (fk.mp bI) λw c9 er=>?_;obtain⟨p,rfl⟩:=WM _ bp;refine fc (EQ _ c9) λk X bh=>?_;clear bI c9 C ak bp;replace aB:=bh▸aB;obtain rfl:=QP (qJ er).1;exact aB<|V1
def IM (f:Expr->bq)(v:Expr)(s:Expr):bq:= jW (λR=>f v<|f s<|bV hA R) s (b:=λl u st q=>Option.casesOn (motive:=λq=>bq) st (λR=>f v<|nH f l<|nH f u<|oo l.isSome u.isSome R) λst=>if l.isNone&&u.isNone&&xP st then λR=>f v (sv R) else c4)
theorem Ws (C:∀e,bP c b aw nm e<|aW e):bP c b aw nm (.Subscript aM cI pos) (IM aW aM cI):=by
 cases cI;all_goals first|exact PE (C aM) (C _) (λq q=>rfl)|skip
 rename_i l u st p;cases st with
 |none=>exact Pz (C aM) (q2 C l)<|q2 C u
 |some st=>refine qI (X:=l.isNone&&u.isNone&&xP st) λX=>?_;replace X:=(propext XU)▸(propext XU)▸(d9 _ _)▸(d9 _ _)▸X;exact X.1.1▸X.1.2▸PI (C aM) (SL X.2)
def zM (cf:eW)(sc:cC)(nm:List Str)(f:Expr->bq)(al:List Expr)(x:Str):bq:=
 if al.all ko then
  match rQ cf sc nm x with
  |some b=>match b.F with
   |some G=>λR=>i5 f al<|dS G (gm al.length []) R
   |none=>if b.v==.builtin "isinstance" then(match al[1]?.bind nameOf with|some t=>λR=>i5 f al (xF (xQ t) (gm al.length []) R)|none=>c4) else c4
  |none=>λR=>s9 cf sc nm x<|cJ<|i5 f al<|eS (gm al.length []) R
 else c4
def IH (cf:eW)(sc:cC)(nm:List Str)(f:Expr->bq)(pos:Pos)(al:List Expr)(g:Expr):bq:= jW c4 g (d:=λx q=>zM cf sc nm f al x) (c:=λe x fp=>if al.all ko&&i7 (al.length+1) 30&&fp.endLine==pos.line&&sL e then(match yj e x with|some m=>λR=>f e (op m.T<|i5 f al<|dS m.F (gm (al.length+1) []) R)|none=>λR=>f e<|dE x<|i5 f al<|eS (gm (al.length+1) []) R) else c4)
theorem PY:∀{al:List Expr} {ag:Env} {pos:Pos},al.all ko=true->(mT pos<|hC al ag).all (!·.1)=true:=by
 intro D;induction D with
 |nil=>intro o K c;exact rfl
 |cons e al B=>intro ag pos C;replace C:=(d9 _ _)▸Jm▸C;exact J (vb C.1)<|B C.2
theorem GV (C:(al.all ko&&i7 (al.length+1) 30&&fp.endLine==pos.line&&sL aM)=true)(ag:Env):eval (.Call (.Attribute aM w fp) al [] pos) ag=(do
 let Q<-eval aM ag;lP fp.atName;let(aW,first)<-o2 [Q] (Ac Q w<|(λag=>do return (<-importBound aM ag).getD true) ag);z6 pos aW first (mT pos<|hC al ag)<|vR pos<|vS [] ag):=by
 replace C:=(d9 _ _)▸(d9 _ _)▸(d9 _ _)▸C;have hf:methodCallForm (al.length+([]:List Keyword).length) (mT pos<|hC al ag) (vR pos<|vS [] ag)=true:=by refine(?_:((mT pos<|hC al ag).all (!·.1)&&true&&decide (al.length+0+0<30))=true);refine J (PY C.1.1.1)<|J (decide_eq_true (mQ C.1.1.2:al.length+0+0<30)) ?_;rfl
 refine(?_:(do let Q<-attributeBase aM w ag (eval aM ag);lP fp.atName;methodCall aM w fp pos ag Q (al.length+([]:List Keyword).length) (mT pos<|hC al ag)<|vR pos<|vS [] ag)=_);refine J (He C.2) ?_;unfold methodCall methodCallPos;refine J hf<|J C.1.2 ?_;rfl
theorem K8 (an:fG c au)(C:∀e,bP c l aw nm e<|aW e):bP c l aw nm (.Call (.Name w dl) al [] pos) (zM au aw nm aW al w):=by
 unfold zM;split
 ·rename_i X;split
  ·rename_i b P;refine gM (wW (n:=l) an P) λk h ax aX=>?_;clear P;subst h;split
   ·rename_i G ai;exact Pw (aX dl) ax (k.F G ai) (l8 C X)<|mG X
   ·split
    ·rename_i bv;have bv:b.v=.builtin "isinstance":=eq_of_beq bv;have aX:=aX dl;rw[bv] at aX ax;split
     ·exact Fp aX ax (Rb an.ok) (l8 C X)<|mG X
     ·exact ha
    ·exact ha
  ·exact Pv an.ok (ys an) (l8 C X)<|mG X
 ·exact ha
theorem K7 (an:fG c au)(C:∀e,bP c b aw nm e<|aW e):bP c b aw nm (.Call aM al [] pos) (IH au aw nm aW pos al aM):=by
 cases aM;all_goals first|exact ha|exact K8 an C|skip
 refine qI λX=>?_;have aP:=X;replace aP:=(d9 _ _)▸(d9 _ _)▸(d9 _ _)▸aP;split
 ·rename_i m bB;obtain⟨k,rfl⟩:=S0 (n:=b) an.ok bB;exact PH k.oy k.F (C _) (l8 C aP.1.1.1) (mG aP.1.1.1)<|GV X
 ·exact PG an.ok (C _) (l8 C aP.1.1.1) (mG aP.1.1.1)<|GV X
noncomputable def w4 (v:eL aM):Option (Expr×List Expr):=eL.casesOn (motive:=λq q=>Option<|Expr×List Expr) v (λq q=>am) (λg al aO q=>bif aO.isEmpty then Y (g,al) else am) (λq q q=>am) (λq q=>am) (λq q q=>am) (λq q q q=>am) (λq q q=>am) (λq q q=>am) λq=>am
theorem EM (v:eL aM){x:Expr×List Expr}(C:w4 v=Y x):∃p,aM=.Call x.1 x.2 [] p:=by
 cases v with
 |call g al aO p=>
  cases aO with
  |nil=>exact⟨p,(Y.inj C)▸rfl⟩
  |cons=>exact(iD C).elim
 |_=>exact(iD C).elim
noncomputable def za (cf:eW)(sc:cC)(nm:List Str)(w:Str)(e:Expr):Option (List Expr):=(w4<|jq e).bind λp=>if(nameOf p.1==Y w&&(rQ cf sc nm w).isSome&&p.2.all ko)=true then Y p.2 else am
theorem HG {n:Nat}(an:fG c au)(a6:p9 w=Y v)(C:za au aw nm w aM=Y al):∃hk dl,aM=.Call (.Name w hk) al [] dl/\bP c n aw nm (.Name w hk) (aR<|.ext v)/\al.all ko=true:=by refine bA λco aB=>?_;obtain⟨⟨g,ce⟩,ak,ao⟩:=fk.mp C;obtain⟨dl,e⟩:=EM _ ak;obtain⟨r,rfl⟩:=qJ ao;obtain⟨p,bE⟩:=lx<|eq_of_beq<|dm<|dm r;obtain⟨b,aA⟩:=qa.mp<|gG<|dm r;exact gM (wW (n:=n) an aA) λk bv q aX=>aB<|(eV p dl (e.trans (congrArg (XV · ce [] dl) bE)) (Y.inj (k.v.symm.trans<|(congrArg p9 bv).trans a6)▸bv▸aX p)<|gG r)
def re (cf:eW)(sc:cC)(nm:List Str)(f:Expr->bq)(e:Expr):JR:=
 match za cf sc nm "range" e with
 |some al=>λR=>i5 f al<|ki (gm al.length []) R
 |none=>λR=>f e<|fA R
theorem uK (an:fG c au)(C:∀e,bP c b aw nm e<|aW e)(e:Expr):qh c b aw nm e (re au aw nm aW e):=by
 unfold re;split
 ·rename_i al X;refine bA λco aB=>hg (HG (n:=b) an (w:="range") (v:=.type "range") (by kernel_rfl) X) λhk dl bh aX U=>?_;clear X;replace aB:=bh▸aB;exact aB<|PK aX (l8 C U)<|mG U
 ·exact PL<|C e
theorem va (C:sK aM=true):vW aM ag v=pure v:=by cases aM;all_goals first|rfl|exact kc C
noncomputable def r8 (s:cC):List Str:=(s.names.filter (·.2==.free)).map (·.1)
structure we where
 x:Str
 it:Expr
 is:List Nat
noncomputable def w9 (sc:cC)(nm:List Str)(aw:cC)(gens:List p1):Option we:= (one gens).bind λg=>(nameOf g.target).bind λx=>(idxs nm<|r8 aw).bind λis=>if g.ifs.isEmpty&&g.is_async==0&&sK g.iter&&xa sc aw nm x (r8 aw) is then Y ⟨x,g.iter,is⟩ else am
structure JS (sc:cC)(nm:List Str)(aw:cC)(gens:List p1)(p:we):Prop where
 e:∃fC,gens=[⟨.Name p.x fC,p.it,[],0⟩]
 ok:o4 sc aw nm p.x (r8 aw) p.is
 s:sK p.it=true
variable{gens:List p1}
theorem EX {p:we}(C:w9 a3 nm aw gens=Y p):JS a3 nm aw gens p:=by refine bA λco aB=>?_;obtain⟨⟨t,it,b,a⟩,ak,ao⟩:=fk.mp C;refine a9 (fk.mp ao) λx bp bI=>a9 (fk.mp bI) λis c9 er=>?_;obtain⟨X,rfl⟩:=qJ er;obtain⟨fC,e⟩:=lx bp;refine aB ?_;have e:t=_:=e;have P:b=[]:=oX.mp<|dm<|dm<|dm X;have ai:a=0:=eq_of_beq<|gG<|dm<|dm X;exact⟨⟨fC,by exact J (lB ak)<|J e<|J P<|J ai rfl⟩,Oe<|gG X,gG<|dm X⟩
def zO (cf:eW)(sc:cC)(nm:List Str)(F:cC->List Str->Expr->bq)(aM:Expr)(aw:cC)(gens:List p1):bq:=
 match w9 sc nm aw gens with
 |none=>c4
 |some p=>λR=>re cf sc nm (F sc nm) p.it<|hb p.is (F (kS sc aw) (p.x::r8 aw) aM bC) R
theorem Oc (an:fG c au){d:cC->List Str->Expr->bq}(C:∀{a3 nm} e,bP c b a3 nm e<|d a3 nm e):bP c b a3 nm (.ListComp aM gens aw pos) (zO au a3 nm d aM aw gens):=by
 unfold zO;split
 ·exact ha
 ·rename_i p X;obtain⟨⟨fC,e⟩,ok,s⟩:=EX X;exact J e<|Py p.is ok (uK an C p.it) (C aM) λag v=>va s
def s7 (cf:eW)(F:g6)(sc:cC)(nm:List Str)(e:Expr):bq:= jW c4 e (d:=λx q=>s9 cf sc nm x) (w:=λv q q=>II v) (u:=λl bl r q R=>F.e sc nm l<|F.e sc nm r<|bV (Ex bl) R) (o:=λbl x q=>UnaryOp.casesOn (motive:=λq=>bq) bl c4 c4 c4 λR=>F.e sc nm x<|nr R) (n:=λt a b q R=>F.t sc nm t (F.e sc nm a R)<|F.e sc nm b R) (m:=λl U rs q=>zN (F.e sc nm) l U rs) (i:=λbl al q=>zL (F.e sc nm) bl al) (A:=λal q=>if al.all ko then λR=>i5 (F.e sc nm) al (gj (gm al.length []) R) else c4) (p:=λal q q=>if al.all ko then λR=>i5 (F.e sc nm) al (gX (gm al.length []) R) else c4) (y:=λaO al q=>zP (F.e sc nm) aO al) (c:=λe x q=>if sL e then λR=>F.e sc nm e (c0 x R) else c4) (h:=λv s q=>IM (F.e sc nm) v s) (f:=λaM gens aw q=>zO cf sc nm F.e aM aw gens) (j:=λg al aO pos=>if aO.isEmpty then IH cf sc nm (F.e sc nm) pos al g else c4)
variable{F:g6}
theorem xr (an:fG c au)(C:iN c i F)(e:Expr):bP c i a3 nm e (s7 au F a3 nm e):=by
 cases e with
 |Name x pos=>exact ys an
 |Constant v k pos=>exact Og
 |BinOp l bl r pos=>exact Pu (KY bl) (C.e l)<|C.e r
 |UnaryOp bl x pos=>cases bl;all_goals first|exact ha|exact Ft<|C.e x
 |IfExp t a b pos=>exact PD (C.t t) (C.e a)<|C.e b
 |Compare l U rs pos=>exact N5 an.ok C.e
 |BoolOp bl al pos=>exact KX C.e
 |List al pos=>exact qI λX=>PF<|l8 C.e X
 |Tuple al k pos=>exact qI λX=>PJ<|l8 C.e X
 |Dict aO al pos=>exact OB C.e
 |Attribute e x pos=>exact qI λX=>Pt an.ok (C.e e)<|Kx X
 |Subscript v s pos=>exact Ws C.e
 |ListComp aM gens aw pos=>exact Oc an C.e
 |Call g al aO pos=>exact qI λX=>oX.mp X▸K7 an C.e
 |_=>exact ha
def z1 (F:g6)(sc:cC)(nm:List Str)(e:Expr):lS:= jW (λW B=>F.e sc nm e<|bv W B) e (o:=λbl x q=>UnaryOp.casesOn (motive:=λq=>lS) bl (λW B=>F.e sc nm e<|bv W B) (λW B=>F.t sc nm x B W) (λW B=>F.e sc nm e<|bv W B) λW B=>F.e sc nm e<|bv W B) (i:=λbl al q=>rd bl (F.t sc nm) al) (n:=λq q q q q q=>fI) (m:=λl U rs q=>zZ (F.e sc nm) l U rs)
theorem Im (a1:c.Ok)(C:iN c i F)(e:Expr):ir c i aw nm e (z1 F aw nm e):=by
 cases e with
 |UnaryOp bl x pos=>cases bl;all_goals first|exact Qs (C.t x)|exact FG (C.e _) λq q=>rfl
 |BoolOp bl al pos=>exact Qp<|wF C.t bl al
 |IfExp t a b pos=>exact pk
 |Compare l U rs pos=>exact Wz a1 C.e
 |_=>exact FG (C.e _) λq q=>rfl
set_option tactic.hygienic false
set_option tactic.hygienic true
noncomputable def H9 (sc aw:cC)(t:Str)(pos a:Pos):Bool:=(oe sc).blockKind==.function&&(oe sc).kindOf t==Y .local&&pos.line==a.line&& !(aw.names.any λ(b,k)=>b==t&&(k==.local||k==.cell))
theorem Ia (C:ag.scope=a3):j3 (.ListComp aM gens aw pos) (Y<|.Name w dl) b ag=pure (H9 a3 aw w dl pos):=by refine bm C ?_;rfl
theorem GZ (C:yt aM=true):j3 aM a4 b ag=pure false:=by cases aM;all_goals first|rfl|exact kc C
noncomputable def isName (e:Expr):Bool:=(nameOf e).isSome
theorem u7 {t:Expr}{h:Nat}(C:isName t=false):j3 aM (Y t) h ag=pure false:=by
 cases aM;all_goals first|rfl|skip
 all_goals cases t;all_goals first|rfl|exact vy C
noncomputable def zr (sc:cC)(g aj:List Expr):Option (Option<|List Str):=
 if(!(g.length==2||g.length==3)||aj.length !=g.length||(oe sc).blockKind !=.function)=true then Y am else
 if(aj.any λ|.Starred .. =>true|_=>false)=true then Y am else
 let h:=(g.head?.map (·.pos.line)).getD 0
 let names:=g.filterMap λ
  |.Name id pos=>if(oe sc).kindOf id==Y .local&&pos.line==h then Y id else am
  |_=>am
 if(names.length !=g.length||names.eraseDups.length !=names.length)=true then Y am else
 if aj.all (foldedForSure 8)=true then Y am else
 if aj.all (constantsAlone 8)=true then am else Y (Y names)
theorem Ww {h:List Expr}(C:zr aw al h=Y g2):nM [.Tuple al b pos] (.Tuple h e dl) (oe aw)=pure g2:=by
 unfold zr at C;unfold nM;by_cases P:(!(al.length==2||al.length==3)||h.length !=al.length||(oe aw).blockKind !=.function)=true
 ·replace C:=(if_pos P)▸C;cases C;dsimp only;exact if_pos P
 replace C:=(if_neg P)▸C;dsimp only;refine J (if_neg P) ?_;by_cases ai:(h.any λ|.Starred .. =>true|_=>false)=true
 ·replace C:=(if_pos ai)▸C;cases C;exact if_pos ai
 replace C:=(if_neg ai)▸C;refine(if_neg ai).trans ?_;dsimp only at C;split at C
 ·rename_i X;cases C;exact if_pos X
 rename_i ab;refine(if_neg ab).trans ?_;split at C
 ·rename_i X;cases C;exact if_pos X
 rename_i ax;refine(if_neg ax).trans ?_;split at C
 ·exact bX C
 rename_i aX;cases C;exact if_neg aX
theorem Ei:∀{a:List Expr} {Q:List Str},sI a=Y Q->Binds c ag ((rn a ag).map (·.2)) Q/\(rn a ag).findIdx? (·.1)=am:=by
 intro D;induction D with
 |nil=>intro o C;cases C;exact⟨trivial,rfl⟩
 |cons e al B=>intro o C;refine a9 (fk.mp C) λx P ai=>a9 (hS.mp ai) λbG ab bh=>?_;refine bm bh ?_;refine gC (lx P) λp a7=>J a7 ?_;have B:=B ab;refine⟨⟨λq q q q q C=>An C,B.1⟩,?_⟩;refine(?_:(List.findIdx? _<|(false,_)::rn al ag)=am);refine J List.findIdx?_cons<|J B.2 ?_;rfl
noncomputable def Io (v:eL aM):Option (List Expr):=eL.casesOn (motive:=λq q=>Option<|List Expr) v (λq q=>am) (λq q q q=>am) (λq q q=>am) (λq q=>am) (λal q q=>Y al) (λq q q q=>am) (λq q q=>am) (λq q q=>am) λq=>am
theorem WG (v:eL aM){x:List Expr}(C:Io v=Y x):∃k p,aM=.Tuple x k p:=by
 cases v with
 |tup al k p=>exact(lG k p (congrArg (Expr.Tuple · k p)<|Y.inj C))
 |_=>exact(iD C).elim
noncomputable def vz (e:Expr):Option (List Expr):=Io<|jq e
theorem Ip (C:vz aM=Y al):∃k p,aM=.Tuple al k p:=WG _ C
theorem TP (C:vz aM=am):nM [.Tuple al b pos] aM ag=pure am:=by cases aM;all_goals first|rfl|exact gB C
noncomputable def zq (sc:cC)(a:List Expr)(v:Expr):Option (Option<|List Str):=match vz v with|none=>Y am|some aj=>zr sc a aj
theorem Ib (C:zq aw al aM=Y g2)(ag:Env)(he:ag.scope=aw):nM [.Tuple al b pos] aM ag=pure g2:=by
 unfold zq at C;split at C
 ·rename_i X;cases C;exact TP X
 ·rename_i aj X;refine fc (Ip X) λaB N bh=>?_;refine J bh ?_;exact Wx he<|Ww C
def z2 (sc:cC)(nm:List Str)(f:Expr->bq)(a:List Expr)(v:Expr):bq:=
 match sI a with
 |none=>c4
 |some Q=>match zq sc a v with
  |none=>c4
  |some o=>match idxs nm (match o with|none=>Q|some bG=>bG.reverse) with
   |none=>c4
   |some is=>if o.isSome then λR=>f v (kj is R) else λR=>f v<|gw is R
theorem WI (C:∀e,bP c l aw nm e<|aW e):fo c l aw nm (.Assign [.Tuple al b dy] aM pos) (z2 aw nm aW al aM):=by
 have U:∀ag,Jg [.Tuple al b dy] aM pos.line ag=pure false:=λag=>u7 (t:=.Tuple al b dy) (h:=pos.line) (ag:=ag) rfl;unfold z2;split
 ·exact gh
 ·rename_i Q P;split
  ·exact gh
  ·rename_i o ai;split
   ·exact gh
   ·rename_i is ab;cases o with
    |none=>exact Qn is (C aM) U (λag he=>Ib ai ag he) (FX ab) (λag=>(Ei P).1) λag=>(Ei (c:=c) P).2
    |some bG=>exact Qm is (C aM) U (λag he=>Ib ai ag he)<|FX ab
def zW (cf:eW)(sc:cC)(nm:List Str)(F:g6)(i:Nat)(y:Str)(fK:Pos)(aM:Expr)(gens:List p1)(aw:cC)(a:Pos):bq:=
 if H9 sc aw y fK a then
  match w9 sc nm aw gens with
  |none=>c4
  |some p=>λR=>re cf sc nm (F.e sc nm) p.it<|hb p.is (F.e (kS sc aw) (p.x::r8 aw) aM bC)<|b2 i R
 else λR=>F.e sc nm (.ListComp aM gens aw a)<|b2 i R
theorem VK (an:fG c au)(C:iN c b F)(L:nm[i]?=Y w):fo c b a3 nm (.Assign [.Name w fK] (.ListComp aM gens aw dl) pos) (zW au a3 nm F i w fK aM gens aw dl):=by
 unfold zW;split
 ·rename_i X;split
  ·exact gh
  ·rename_i p P;obtain⟨⟨fC,e⟩,ok,s⟩:=EX P;exact J e<|Qk i p.is L ok (uK an C.e p.it) (C.e aM) (λag v=>va s) λag he=>(Ia he).trans (by exact J X rfl)
 ·rename_i X;exact FF i L (C.e _) λag he=>(Ia he).trans (by exact J (eq_false_of_ne_true X) rfl)
def W8 (cf:eW)(sc:cC)(nm:List Str)(F:g6)(y:Str)(fK:Pos)(i:Nat)(v:Expr):bq:= jW (if yt v then λR=>F.e sc nm v (b2 i R) else c4) v (f:=λaM gens aw a=>zW cf sc nm F i y fK aM gens aw a)
def zX (cf:eW)(sc:cC)(nm:List Str)(F:g6)(y:Str)(fK:Pos)(v:Expr):bq:=match idx nm y with
 |none=>c4
 |some i=>W8 cf sc nm F y fK i v
theorem uC (C:cL=true->fo c b aw nm aL aY):fo c b aw nm aL (if cL=true then aY else c4):=by
 by_cases z:cL=true
 ·exact(if_pos z).symm▸C z
 ·exact(if_neg z).symm▸gh
theorem VP (an:fG c au)(C:iN c b F):fo c b a3 nm (.Assign [.Name w fK] cI pos) (zX au a3 nm F w fK cI):=by
 unfold zX;split
 ·exact gh
 ·rename_i i X;cases cI with
  |ListComp aM gens aw a=>exact VK an C<|mo X
  |_=>exact uC λbB=>FF i (mo X) (C.e _) λag q=>GZ bB
def ID (sc:cC)(nm:List Str)(cf:eW)(F:g6)(v:Expr)(t:Expr):bq:= jW c4 t (d:=λy fK=>zX cf sc nm F y fK v) (c:=λo x q R=>F.e sc nm v<|F.e sc nm o<|bQ x R) (h:=λo i q=>jW (λR=>F.e sc nm v<|F.e sc nm o<|F.e sc nm i<|kL R) i (b:=λl u st q=>Option.casesOn (motive:=λq=>bq) st (λR=>F.e sc nm v<|F.e sc nm o<|nH (F.e sc nm) l<|nH (F.e sc nm) u<|qH l.isSome u.isSome R) λq=>c4)) (p:=λa q q=>z2 sc nm (F.e sc nm) a v)
theorem Kh (an:fG c au)(C:iN c b F):fo c b aw nm (.Assign [cI] aM pos) (ID aw nm au F aM cI):=by
 cases cI with
 |Name y fK=>exact VP an C
 |Attribute o x p=>exact Qj an.ok (C.e aM) (C.e o) λag=>u7 rfl
 |Subscript o i p=>
  cases i with
  |Slice l u st X=>cases st with
   |none=>exact Qg (C.e aM) (C.e o) (q2 C.e l) (q2 C.e u) λag=>u7 rfl
   |some st=>exact gh
  |_=>exact Ql (C.e aM) (C.e o) (C.e _) λag=>u7 rfl
 |Tuple a k p=>exact WI C.e
 |_=>exact gh
def zK (sc:cC)(nm:List Str)(cf:eW)(F:g6)(v:Expr)(g:List Expr):bq:=match one g with|some t=>ID sc nm cf F v t|none=>c4
theorem Kj (an:fG c au)(C:iN c b F):fo c b aw nm (.Assign al aM pos) (zK aw nm au F aM al):=by
 unfold zK;split
 ·rename_i t X;refine J (lB X) ?_;exact Kh an C
 ·exact gh
def zR (cf:eW)(sc:cC)(nm:List Str)(F:g6)(it:Expr)(b:List Stmt)(t:Expr):bq:=
 match nameOf t with
 |some x=>match idx nm x with
  |some i=>if sK it then λR=>re cf sc nm (F.e sc nm) it (gv i (ku (F.s sc nm) b bM) R) else c4
  |none=>c4
 |none=>match(vz t).bind sI with
  |none=>c4
  |some Q=>match q9 Q with
   |none=>c4
   |some a=>match idx nm a.1,idx nm a.2 with
    |some i,Y j=>match(za cf sc nm "enumerate" it).bind one with
     |some e=>λR=>F.e sc nm e<|xG i j (ku (F.s sc nm) b bM) R
     |none=>c4
    |_,_=>c4
theorem Tm (C:sI al=Y [w,name]):∃p X,al=[.Name w p,.Name name X]:=by
 cases al with
 |nil=>cases C
 |cons a al=>
  refine a9 (fk.mp C) λD P ai=>a9 (hS.mp ai) λbG ab e=>?_;cases e;refine gC (lx P) λp a7=>J a7 ?_;clear ai C;cases al with
  |nil=>cases ab
  |cons b al=>
   refine a9 (fk.mp ab) λf ax aX=>a9 (hS.mp aX) λzs bD e=>?_;cases e;refine gC (lx ax) λX a7=>J a7 ?_;cases al with
   |nil=>exact lG p X rfl
   |cons d al=>refine a9 (fk.mp bD) λq q bc=>a9 (hS.mp bc) λq q e=>?_;cases e
theorem PX (an:fG c au)(C:iN c l F):fo c l aw nm (.For cI aM body [] pos) (zR au aw nm F aM body cI):=by
 unfold zR;split
 ·rename_i x X;refine gC (lx X) λp a7=>J a7 ?_;split
  ·rename_i i P;split
   ·rename_i ai;exact FD i (mo P) (uK an C.e aM) (l9 C.s body) λag v=>va ai
   ·exact gh
  ·exact gh
 ·split
  ·exact gh
  ·rename_i Q X;refine a9 (fk.mp X) λal ak ao=>fc (Ip ak) λk p bh=>?_;refine J bh ?_;split
   ·exact gh
   ·rename_i a P;replace ao:=(s3 P)▸ao;refine fc (Tm ao) λah o bh=>?_;refine J bh ?_;split
    ·rename_i i j bv bE;split
     ·rename_i e ab;refine a9 (fk.mp ab) λal bp bI=>hg (HG (n:=l) an (w:="enumerate") (v:=.type "enumerate") (by kernel_rfl) bp) λhk dl bh aX U=>?_;refine J bh ?_;rw[lB bI] at U⊢;exact Qf i j (mo bv) (mo bE) aX (C.e e) (mG U) (λag=>vb<|rr.mp U e<|.head _) (l9 C.s body) λag v=>rfl
     ·exact gh
    ·exact gh
def zY (cf:eW)(F:g6)(sc:cC)(nm:List Str)(s:Stmt):bq:= oN c4 s (d:=λg v q=>zK sc nm cf F v g) (j:=λv q=>Option.casesOn (motive:=λq=>bq) v (λq=>uB) λe q=>F.e sc nm e bC) (h:=λe q=>if yt e then λR=>F.e sc nm e (cq R) else c4) (c:=λt b o q R=>F.t sc nm t (ku (F.s sc nm) b R)<|ku (F.s sc nm) o R) (m:=λt b o q=>if o.isEmpty then mn (F.t sc nm t (ku (F.s sc nm) b bM) jl) else c4) (i:=λt it b o q=>if o.isEmpty then zR cf sc nm F it b t else c4)
theorem H1 (an:fG c au)(C:iN c l F)(s:Stmt):fo c l aw nm s (zY au F aw nm s):=by
 cases s with
 |Assign g v pos=>exact Kj an C
 |Return v pos=>cases v with
  |none=>exact Qi
  |some e=>exact Qh<|C.e e
 |Expr e pos=>exact uC λX=>Qe (C.e e) λag=>GZ X
 |If t b o pos=>exact FE (C.t t) (l9 C.s b)<|l9 C.s o
 |While t b o pos=>exact uC λX=>oX.mp X▸Qo (C.t t) (l9 C.s b)
 |For t it b o pos=>exact uC λX=>oX.mp X▸PX an C
 |_=>exact gh
noncomputable def cmp (cf:eW):Nat->g6
 |0=>⟨λq q q=>c4,λq q q q q=>fI,λq q q=>c4⟩
 |k+1=>⟨s7 cf<|cmp cf k,z1<|cmp cf k,zY cf<|cmp cf k⟩
theorem xc (an:fG c au):∀k,iN c b (cmp au k):=by
 intro D;induction D with
 |zero=>exact⟨λq=>ha,λq=>pk,λq=>gh⟩
 |succ k B=>exact⟨xr an<|B,Im an.ok<|B,H1 an<|B⟩
def IE (cf:eW)(sc:cC)(nm:List Str)(b:List Stmt):bq:=ku ((cmp cf 40).s sc nm) b
theorem KW (an:fG c au)(b:List Stmt):FB c e aw nm b (IE au aw nm b):=l9 (xc an 40).s b
set_option tactic.hygienic false
set_option tactic.hygienic true
abbrev uz (ff b:Bool)(R:aP):aP:=FW (λK q l us=>∃aj n,K.base.get? l=Y (listOf aj n)/\cj us aj.toList) ff b R
def pS (f:Stmt->i8):List Stmt->i8
 |[]=>λq R=>R
 |s::b=>λaF R=>f s aF<|pS f b aF R
variable{aW:Stmt->i8}
theorem vG (C:∀s,ky c ae e aw nm s<|aW s):∀b,mZ c ae e aw nm b (pS aW b):=by
 intro D;induction D with
 |nil=>exact Qw
 |cons s b B=>exact Qu (iO:=aW s) (eR:=pS aW b) (C s)<|B
noncomputable def w0 (e:Expr):Option (Str×List Expr):=(w4<|jq e).bind λp=>(nameOf p.1).bind λx=>if p.2.all ko=true then Y (x,p.2) else am
variable{a3:Str×List Expr}
theorem Ez (C:w0 aM=Y a3):a3.2.all ko=true/\∃a b,aM=.Call (.Name a3.1 a) a3.2 [] b:=by refine bA λco aB=>?_;obtain⟨⟨g,al⟩,ak,ao⟩:=fk.mp C;refine a9 (fk.mp ao) λx bp bI=>?_;obtain⟨b,aM⟩:=EM _ ak;obtain⟨a,bE⟩:=lx bp;obtain⟨X,rfl⟩:=qJ bI;exact aB<|⟨X,a,b,aM.trans (congrArg (XV · al [] b) bE)⟩
noncomputable def Vo (u:V)(ae:Addr):Bool:=V.casesOn (motive:=λq=>Bool) u false false (λq=>false) (λq=>false) (λq=>false) (λa=>a==ae) λq=>false
noncomputable def y5 (ae:Addr)(o:Option V):Bool:=Option.casesOn (motive:=λq=>Bool) o false λu=>Vo u ae
theorem HC {h:Option V}(C:y5 ae h=true):h=Y (.ref ae):=by
 cases h with
 |none=>exact kc C
 |some h=>cases h with
  |ref a=>exact congrArg (Y<|V.ref ·)<|eq_of_beq C
  |_=>exact kc C
def zV (ae:Addr)(cf:eW)(F:g6)(sc:cC)(nm:List Str)(e:Option Expr):i8:=match e.bind w0 with
 |some p=>if sc.names.lookup p.1==Y .globalImplicit&& !(p.1==("__debug__":Str))&&y5 ae (cf.gl.lookup p.1)&&p.2.length==2 then λaF q=>i5 (F.e sc nm) p.2 (xH aF) else λq q=>fI
 |none=>λq q=>fI
def z3 (ae:Addr)(cf:eW)(F:g6)(sc:cC)(nm:List Str)(Q:List Str)(e:Expr)(p:Pos):i8:=match w0 e with
 |some X=>if Q.contains X.1 then λaF R=>s9 cf sc nm X.1 (cJ<|i5 (F.e sc nm) X.2<|ux ae aF (gm X.2.length []) R) else λq R=>F.s sc nm (.Expr e p) R
 |none=>λq R=>F.s sc nm (.Expr e p) R
def IN (ae:Addr)(cf:eW)(F:g6)(sc:cC)(nm:List Str)(Q:List Str)(f:Stmt->i8)(s:Stmt):i8:= oN (λq R=>F.s sc nm s R) s (c:=λt b o q aF R=>F.t sc nm t (pS f b aF R)<|pS f o aF R) (g:=λe o q=>if o.isNone then zV ae cf F sc nm e else λq q=>fI) (h:=λe p=>z3 ae cf F sc nm Q e p)
def vJ (ae:Addr)(cf:eW)(F:g6)(sc:cC)(nm:List Str)(Q:List Str):Nat->Stmt->i8
 |0=>λs q R=>F.s sc nm s R
 |k+1=>IN ae cf F sc nm Q<|vJ ae cf F sc nm Q k
theorem xw:ky c ae b aw nm aL λq q=>fI:=sb gh
theorem Vf (an:fG c au)(a8:l4 c ae N ej)(C:iN c (l+2) F):ky c ae (l+2) aw nm (.Raise a4 am pos) (zV ae au F aw nm a4):=by
 unfold zV;split
 ·rename_i p X;refine bA λco aB=>a9 (fk.mp X) λa7 h ak=>?_;replace X:=h▸X;replace aB:=h▸aB;refine dF (Ez ak) λU bG=>fc bG λa b bt=>?_;clear ak;replace X:=bt▸X;replace aB:=bt▸aB;refine aB ?_;split
  ·rename_i X;rw[d9,d9,d9,oW] at X;exact Qx a8 (HS an.ok (an.gl<|HC X.1.2) (eq_of_beq X.1.1.1) X.1.1.2) (l8 C.e U) (mG U)<|eq_of_beq X.2
  ·exact xw
 ·exact xw
theorem W0 (an:fG c au)(a8:l4 c ae N ej)(C:iN c (l+2) F)(hf:∀s,ky c ae (l+2) aw nm s<|aW s)(s:Stmt):ky c ae (l+2) aw nm s (IN ae au F aw nm sn aW s):=by
 cases s with
 |If t b o pos=>exact Qv (C.t t) (vG hf b)<|vG hf o
 |Raise e o pos=>cases o with
  |none=>exact Vf an a8 C
  |some o=>exact xw
 |Expr e p=>
  refine(?_:ky c ae (l+2) aw nm (.Expr e p) (z3 ae au F aw nm sn e p));unfold z3;split
  ·rename_i X P;refine dF (Ez P) λU bG=>fc bG λa b bt=>?_;refine J bt ?_;split
   ·exact Qt an.ok (ys an) (l8 C.e U) (mG U) λag=>rfl
   ·exact sb<|C.s _
  ·exact sb<|C.s _
 |_=>exact sb<|C.s _
theorem IA (an:fG c au)(a8:l4 c ae N ej)(C:iN c (b+2) F):∀k (s:Stmt),ky c ae (b+2) aw nm s (vJ ae au F aw nm sn k s):=by
 intro D;induction D with
 |zero=>intro s;exact sb<|C.s s
 |succ k B=>intro s;exact W0 an a8 C (B) s
noncomputable def FT (C:vL):Option (Str×Str×List Stmt):=match C with|.ExceptHandler t e b _=>(t.bind nameOf).bind λx=>e.map λe=>(x,e,b)
variable{aW:Str×Str×List Stmt}
theorem QN {af:vL}(e:FT af=Y aW):∃np aP,af=.ExceptHandler (Y<|.Name aW.1 np) (Y aW.2.1) aW.2.2 aP:=by refine bA λco aB=>?_;obtain⟨t,n,b,aP⟩:=af;refine a9 (fk.mp e) λx ak ao=>a9 (fk.mp ak) λF h bp=>?_;clear e ak;replace aB:=h▸aB;obtain⟨a,rfl⟩:=lx bp;refine a9 (hS.mp ao) λdO h bh=>?_;replace aB:=h▸aB;replace aB:=(dp bh)▸aB;exact aB<|lG a aP rfl
noncomputable def handOf (U:List vL):Option (Str×Str×List Stmt):=(one U).bind FT
variable{U:List vL}
theorem QK (C:handOf U=Y aW):∃np aP,U=[.ExceptHandler (Y<|.Name aW.1 np) (Y aW.2.1) aW.2.2 aP]:=by refine bA λco aB=>a9 (fk.mp C) λx ak ao=>fc (QN ao) λnp aP bh=>?_;clear ao;replace ak:=bh▸ak;exact aB<|(lG np aP<|lB ak)
noncomputable def Em (v:eL aM):Option (Expr×Str):=eL.casesOn (motive:=λq q=>Option<|Expr×Str) v (λq q=>am) (λq q q q=>am) (λo x q=>Y (o,x)) (λq q=>am) (λq q q=>am) (λq q q q=>am) (λq q q=>am) (λq q q=>am) λq=>am
theorem Kv (v:eL aM){x:Expr×Str}(C:Em v=Y x):∃p,aM=.Attribute x.1 x.2 p:=by
 cases v with
 |attr o a p=>exact⟨p,(Y.inj C)▸rfl⟩
 |_=>exact(iD C).elim
noncomputable def wQ (a:Str)(e:Expr):Option Str:=(Em<|jq e).bind λp=>(nameOf p.1).bind λx=>if(p.2==a)=true then Y x else am
theorem El (C:wQ w aM=Y name):∃p X,aM=.Attribute (.Name name p) w X:=by refine bA λco aB=>?_;obtain⟨⟨o,y⟩,ak,ao⟩:=fk.mp C;refine a9 (fk.mp ao) λD bp bI=>?_;obtain⟨X,rfl⟩:=qJ bI;obtain⟨r,bv⟩:=Kv _ ak;obtain⟨p,bE⟩:=lx bp;refine aB ?_;have bE:o=_:=bE;exact(lG p r<|bv.trans<|by exact J bE<|J (eq_of_beq X) rfl)
noncomputable def GA (v:eL aM):Option (List Expr):=eL.casesOn (motive:=λq q=>Option<|List Expr) v (λq q=>am) (λq q q q=>am) (λq q q=>am) (λal q=>Y al) (λq q q=>am) (λq q q q=>am) (λq q q=>am) (λq q q=>am) λq=>am
theorem R0 (v:eL aM){x:List Expr}(C:GA v=Y x):∃p,aM=.List x p:=by
 cases v with
 |list al p=>exact⟨p,congrArg (Expr.List · p)<|Y.inj C⟩
 |_=>exact(iD C).elim
noncomputable def Ef (s:Stmt):Option (List Expr×Expr):=oN am s (d:=λg v q=>Y (g,v))
theorem Ke {x:List Expr×Expr}(C:Ef aL=Y x):∃p,aL=.Assign x.1 x.2 p:=by
 cases aL with
 |Assign g v p=>exact⟨p,(Y.inj C)▸rfl⟩
 |_=>exact(iD C).elim
noncomputable def Eg (b:List Stmt):Option (Str×List Expr):=(one b).bind λs=>(Ef s).bind λp=>(one p.1).bind λt=>(nameOf t).bind λy=>(GA<|jq p.2).map (y, ·)
theorem Ki (C:Eg body=Y a3):∃ah m fV,body=[.Assign [.Name a3.1 ah] (.List a3.2 m) fV]:=by refine bA λco aB=>a9 (fk.mp C) λs ak ao=>?_;obtain⟨⟨g,v⟩,bp,bI⟩:=fk.mp ao;refine a9 (fk.mp bI) λt c9 er=>a9 (fk.mp er) λy D b=>a9 (hS.mp b) λal f bh=>?_;clear C ao bI er b;replace aB:=(dp bh)▸aB;obtain⟨fV,rfl⟩:=Ke bp;obtain⟨ah,rfl⟩:=lx D;obtain⟨m,e⟩:=R0 _ f;exact aB<|(oM ah m fV<|by exact J (lB ak)<|J (lB c9:g=_)<|J (e:v=_) rfl)
noncomputable def FK (al:List Expr):Option Str:=(q9 al).bind λp=>(wQ "symbol" p.1).bind λx=>(wQ "data" p.2).bind λy=>if(x==y)=true then Y x else am
theorem Qz (C:FK al=Y w):∃o f g B,al=[.Attribute (.Name w o) "symbol" f,.Attribute (.Name w g) "data" B]:=by refine bA λco aB=>a9 (fk.mp C) λp ak ao=>a9 (fk.mp ao) λa bp bI=>a9 (fk.mp bI) λb c9 er=>?_;obtain⟨X,rfl⟩:=qJ er;have e:=eq_of_beq X;clear X er;replace c9:=(dp e)▸c9;exact fc (El bp) λo f bv=>fc (El c9) λg B bE=>aB<|(⟨o,f,g,B,(by exact J (s3 ak)<|J bv<|J bE rfl)⟩)
def z0 (ae:Addr)(cf:eW)(sc:cC)(nm:List Str)(K:i8)(U:List vL):bq:=match handOf U with
 |some C=>match Eg C.2.2 with
  |some y=>match idx nm y.1,idx nm C.2.1 with
   |some i,Y j=>if FK y.2==Y C.2.1&&sc.names.lookup C.2.1==Y .local&& !(i==j)&&sc.names.lookup C.1==Y .globalImplicit&& !(C.1==("__debug__":Str))&& !(C.2.1==("__debug__":Str))&&y5 ae (cf.gl.lookup C.1) then xI i j K else c4
   |_,_=>c4
  |none=>c4
 |none=>c4
theorem WF (an:fG c au)(a8:l4 c ae N ej)(aA:mZ c ae l aw nm body eR):j5 c l aw nm ni (.Try body U [] [] pos) (z0 ae au aw nm eR U):=by
 unfold z0;split
 ·rename_i C X;refine bA λco aB=>fc (QK X) λnp aP bh=>?_;replace X:=bh▸X;replace aB:=bh▸aB;obtain⟨x,dO,b⟩:=C;refine aB ?_;dsimp only at*;split
  ·rename_i y P;refine fU (Ki P) λah m fV bt=>?_;refine J bt ?_;split
   ·rename_i i j ai ab;split
    ·rename_i ax;rw[d9,d9,d9,d9,d9,d9,oW,oW,oW] at ax;refine bA λco aB=>?_;obtain⟨⟨⟨⟨⟨⟨aR,ar⟩,aZ⟩,bx⟩,bF⟩,a⟩,d⟩:=ax;exact hh (Qz<|eq_of_beq aR) λo f g B e=>aB<|J e<|QG i j a8 (mo ai) (mo ab) (eq_of_beq ar) (λX=>by rw[X,beq_self_eq_true] at aZ;exact vy aZ) (an.gl<|HC d) (eq_of_beq bx) bF a (λq=>rfl) (λq=>rfl) (λq=>rfl) (λq=>rfl) (λq=>rfl) aA
    ·exact nj gh
   ·exact nj gh
  ·exact nj gh
 ·exact nj gh
def zQ (cf:eW)(F:g6)(sc:cC)(nm:List Str)(f:Stmt->bq)(it:Expr)(b:List Stmt)(t:Expr):bq:=match(nameOf t).bind (idx nm) with
 |some i=>if sK it then λR=>re cf sc nm (F.e sc nm) it (gv i (ku f b bM) R) else c4
 |none=>c4
def W5 (ae:Addr)(cf:eW)(F:g6)(sc:cC)(nm:List Str)(a:Stmt->i8)(f:Stmt->bq)(s:Stmt):bq:= oN (F.s sc nm s) s (c:=λt b o q R=>F.t sc nm t (ku f b R)<|ku f o R) (i:=λt it b o q=>if o.isEmpty then zQ cf F sc nm f it b t else c4) (l:=λb U o g q=>if o.isEmpty&&g.isEmpty then z0 ae cf sc nm (pS a b) U else c4)
theorem FY (C:cL=true->j5 c b aw nm ni aL aY):j5 c b aw nm ni aL (if cL=true then aY else c4):=by
 by_cases z:cL=true
 ·exact(if_pos z).symm▸C z
 ·exact(if_neg z).symm▸nj gh
def zT (ae:Addr)(cf:eW)(F:g6)(sc:cC)(nm:List Str)(Q:List Str):Nat->Stmt->bq
 |0=>F.s sc nm
 |k+1=>W5 ae cf F sc nm (vJ ae cf F sc nm Q k)<|zT ae cf F sc nm Q k
theorem PW (an:fG c au)(C:iN c e F)(hf:∀s,j5 c e aw nm ni s<|b7 s):j5 c e aw nm ni (.For aM cI body [] pos) (zQ au F aw nm b7 cI body aM):=by
 unfold zQ;split
 ·rename_i i X;refine a9 (fk.mp X) λx P ai=>gC (lx P) λp a7=>J a7 ?_;split
  ·rename_i ab;exact FD i (mo ai) (uK an C.e cI) (l9 hf body) λag v=>va ab
  ·exact nj gh
 ·exact nj gh
theorem RG (an:fG c au)(a8:l4 c ae N ej)(C:iN c (e+2) F):∀k (s:Stmt),j5 c (e+2) aw nm ni s (zT ae au F aw nm sn k s):=by
 intro D;induction D with
 |zero=>intro s;exact nj<|C.s s
 |succ k B=>
  intro s;cases s with
  |If t b o pos=>exact FE (C.t t) (l9 (B) b)<|l9 (B) o
  |For t it b o pos=>exact FY λX=>oX.mp X▸PW an C (B)
  |Try b U o g pos=>exact FY λX=>J (oX.mp<|dm X)<|J (oX.mp<|gG X)<|WF an a8<|vG (IA an a8 C k) b
  |_=>exact nj<|C.s _
theorem PA (C:bP c b aw nm aM aY)(ap:k6 c b aw nm jm Cl)(aU:k6 c b aw nm a4 c7):bP c b aw nm (.Subscript aM (.Slice jm a4 am dl) pos) λR=>aY (Cl<|c7<|uz jm.isSome a4.isSome R):= Fq (P:=λK q l us=>∃aj b,K.base.get? l=Y (listOf aj b)/\cj us aj.toList) (λS C=>dT C λaj k e i=>⟨aj,k,S.keep _ _ e,i⟩) C ap aU
noncomputable def zj (v:eL aM):Option (Option Expr×Option Expr):=eL.casesOn (motive:=λq q=>Option<|Option Expr×Option Expr) v (λq q=>am) (λq q q q=>am) (λq q q=>am) (λq q=>am) (λq q q=>am) (λl u st q=>Option.casesOn (motive:=λq=>Option<|Option Expr×Option Expr) st (Y (l,u)) λq=>am) (λq q q=>am) (λq q q=>am) λq=>am
theorem VV (v:eL aM){p:Option Expr×Option Expr}(C:zj v=Y p):∃X,aM=.Slice p.1 p.2 am X:=by
 cases v with
 |slice l u st X=>cases st with
  |none=>exact⟨X,(Y.inj C)▸rfl⟩
  |some=>exact(iD C).elim
 |_=>exact(iD C).elim
def IK (cf:eW)(F:g6)(sc:cC)(nm:List Str)(e:Expr):bq:= jW (s7 cf F sc nm e) e (h:=λv x p=>if nameOf v==Y "script" then(match zj (jq x) with|some X=>λR=>F.e sc nm v (nH (F.e sc nm) X.1<|nH (F.e sc nm) X.2<|uz X.1.isSome X.2.isSome R)|none=>c4) else s7 cf F sc nm (.Subscript v x p))
theorem Pg (an:fG c au)(C:iN c b F)(e:Expr):bP c b aw nm e (IK au F aw nm e):=by
 cases e with
 |Subscript v x p=>
  refine(?_:bP c b aw nm (.Subscript v x p) (if nameOf v==Y "script" then(match zj (jq x) with|some X=>λR=>F.e aw nm v (nH (F.e aw nm) X.1<|nH (F.e aw nm) X.2<|uz X.1.isSome X.2.isSome R)|none=>c4) else s7 au F aw nm (.Subscript v x p)));split
  ·split
   ·rename_i X P;exact gC (VV _ P) λr a7=>J a7<|PA (C.e v) (q2 C.e X.1)<|q2 C.e X.2
   ·exact ha
  ·exact xr an C _
 |_=>exact xr an C _
noncomputable def rX (cf:eW):Nat->g6
 |0=>cmp cf 0
 |k+1=>⟨IK cf<|rX cf k,z1<|rX cf k,zY cf<|rX cf k⟩
theorem N2 (an:fG c au):∀k,iN c b (rX au k):=by
 intro D;induction D with
 |zero=>exact xc an 0
 |succ k B=>exact⟨Pg an<|B,Im an.ok<|B,H1 an<|B⟩
def IG (ae:Addr)(cf:eW)(sc:cC)(nm:List Str)(Q:List Str)(b:List Stmt):i8:=pS (vJ ae cf (cmp cf 40) sc nm Q 10) b
def IF (ae:Addr)(cf:eW)(sc:cC)(nm:List Str)(Q:List Str)(b:List Stmt):bq:=ku (zT ae cf (rX cf 40) sc nm Q 10) b
theorem Pp {Q:List Str}(an:fG c au)(a8:l4 c ae N ej)(hf:kz c a names [] body aw)(U:m1 aw names nm)(ap:us.length=names.length) (C:IG ae au aw nm Q body (λas q Z=>fW as Z) bM (d5 c (b+2) ad) (us++[]++eb (nm.length -names.length) .aD) [] I):lT c ae (b+2+1) (.ref a) us ad fW I:= NM an.ok hf U (vG (IA an a8 (xc an 40) 10) body) (g8:=[]) trivial ap C
theorem Po {cf:eW}{Q:List Str}(an:fG c cf)(a8:l4 c ae N ej)(hf:kz c a names [] body aw)(U:m1 aw names nm)(ap:us.length=names.length) (C:IF ae cf aw nm Q body bM (d5 c (b+2) ad) (us++[]++eb (nm.length -names.length) .aD) [] I)(aQ:fz b5 (b+2+1))(aE:b5.frames=Y [])(S:bz c I s)(O:(V.ref a).is ee)(bb:cj us bs) (cd:∀v aH,dV c I s ad v aH->R (.ok<|.ret v) aH):jX c.M b5 (.call ee ⟨bs,[]⟩) R s:= Lu an.ok hf U (l9 (RG an a8 (N2 an 40) 10) body) ap C aQ aE S O bb cd
set_option tactic.hygienic false
noncomputable def eX (d:av)(l:List av):Nat->av:=List.rec (λ_=>d) (λa _ r i=>Nat.rec a (λj _=>r j) i) l
theorem fY.hK {d:av}(C:fY bO pre)(hd:bO d):∀i,bO (eX d pre i):=by
 induction C with
 |nil=>exact λ_=>hd
 |cons C t B=>exact λi=>by cases i with|zero=>exact C|succ j=>exact B j
theorem qq {p:av->Bool}(C:∀a,p a=true->bO a):pre.all p=true->fY bO pre:=by
 induction pre with
 |nil=>exact λ_=> .nil
 |cons a pre B=>exact λe=> .cons (C a<|dm e)<|B<|gG e
theorem fY.hd (C:fY bO (aB::pre)):bO aB:=by cases C;assumption
variable{aL:List av}
theorem fY.sp (C:fY bO (pre++aL)):fY bO pre/\fY bO aL:=by
 induction pre with
 |nil=>exact⟨.nil,C⟩
 |cons a pre B=>cases C with|cons C t=>exact⟨.cons C (B t).1,(B t).2⟩
def qm (c:cG)(r:mY):Prop:=∃cR,cj r.g8 cR/\kz c r.a r.bB cR r.b r.s
structure ba (c:cG):Prop where
 ok:c.Ok
 eE:o5 c 38 37 35
 fn:fY (qm c) (ix++iU)
 gl:fY (fun p=>n2 c p.1 p.2) (xB++xA)
 ff:fY (qk c) (wU++wV)
 kn:fY (fun p=>jz c.K p.1 p.2.1 p.2.2) sH
 GP:fY (fun p=>rI c.K p.1 p.2) u5
 E4:fY (fun p=>fP c.K p.1 p.2=true) t0
 TA:yz c.K 278=true
noncomputable abbrev f0:mY:=fr 35 (eA 2 0) ["self","symbol","data"] [] []
theorem ba.r (H:ba c)(i:Nat):qm c (eX f0 ix i):=H.fn.sp.1.hK H.fn.hd i
theorem ba.x (H:ba c)(i:Nat):qm c (eX f0 iU i):=H.fn.sp.2.hK H.fn.hd i
theorem ba.f (H:ba c)(i:Nat):k2 c.K (.ref (eX f0 ix i).a)=true:=by obtain⟨_,_,C⟩:=H.r i;exact C.keep
theorem ba.y (H:ba c)(i:Nat):k2 c.K (.ref (eX f0 iU i).a)=true:=by obtain⟨_,_,C⟩:=H.x i;exact C.keep
theorem ba.m (H:ba c)(i:Nat):jz c.K (eX (fH 201 "numbers" 156) sH i).1 (eX (fH 201 "numbers" 156) sH i).2.1 (eX (fH 201 "numbers" 156) sH i).2.2:=H.kn.hK H.kn.hd i
theorem ba.k (H:ba c)(i:Nat):rI c.K (eX (1153,1150) u5 i).1 (eX (1153,1150) u5 i).2:=H.GP.hK H.GP.hd i
theorem ba.d (H:ba c)(i:Nat):fP c.K (eX (cp 1153 "sort") t0 i).1 (eX (cp 1153 "sort") t0 i).2=true:=H.E4.hK H.E4.hd i
theorem qm.z {r:mY}(C:qm c r)(e:r.g8=[]):kz c r.a r.bB [] r.b r.s:=by
 obtain⟨cR,ak,ao⟩:=C;rw[e] at ak;cases cR with
 |nil=>exact ao
 |cons=>exact ak.elim
theorem ba.IB (H:ba c):l4 c 38 37 35:=⟨H.ok,H.eE,_,_,_,_,_,_,_,_,_,_,(H.r 0).z rfl,vt (nm:=nG)<|by kernel_rfl,rfl,λ_=>rfl,λ_=>rfl⟩
set_option tactic.hygienic true
theorem pw:kl K l=K.lookup l:=by
 induction K with
 |nil=>rfl
 |cons p K B=>
  obtain⟨b,o⟩:=p;rw[g4];show Bool.rec (motive:=λ_=>Option Obj) (kl K l) (Y o) (gE l b)=_;cases X:gE l b with
  |true=>rw[o1 X];simp
  |false=>
   have:(l==b)=false:=by rw[beq_eq_false_iff_ne];intro e;rw[e,XW] at X;cases X
   rw[this];exact B
theorem GY:∀{a b:List Nat},u6 a b=decide (a=b)
 |[],[]=>rfl
 |[],_::_=>rfl
 |_::_,[]=>rfl
 |x::a,y::b=>by
  show Bool.rec (motive:=λ_=>Bool) false (u6 a b) (gE x y)=_;cases X:gE x y with
  |true=>rw[o1 X];simp[GY]
  |false=>
   have:x≠y:=by intro e;rw[e,XW] at X;cases X
   simp[this]
theorem Rt:xU v w.cps.toList=v.isStr w:=by
 cases v<;>first|rfl|skip
 rename_i s t;show u6 _ _=(s==w);rw[GY];obtain⟨a⟩:=s;obtain⟨b⟩:=w;show decide (a.toList=b.toList)=_;rw[Al];simp[XX]
theorem PN:findF aO w.cps.toList=aO.find? (·.key.isStr w):=by
 induction aO with
 |nil=>rfl
 |cons e aO B=>rw[Aa];show Bool.rec (motive:=λ_=>Option lO) (findF aO w.cps.toList) (Y e) (xU e.key w.cps.toList)=_;rw[Rt];cases e.key.isStr w<;>simp[B]
theorem u9:ly K a w=nsIn K a w:=by
 delta ly nsIn;rw[pw];cases K.lookup a with
 |none=>rfl
 |some o=>obtain⟨fV,ga,d,cf⟩:=o;cases d<;>first|rfl|(dsimp only;rw[PN];rfl)
theorem codeB_eq:codeB K v w=codeIn K v w:=by cases v<;>first|rfl|(delta codeB codeIn;dsimp only;rw[pw];rfl)
theorem vg {z y:av}{o:Option Obj}{p:Obj->av}(C:cm z o p=y)(aq:z=y->False):∃x,o=Y x/\p x=y:=by
 cases o with
 |none=>exact(aq C).elim
 |some x=>exact⟨x,rfl,C⟩
theorem jS (C:am=Y aB):False:=nomatch C
theorem ng (C:false=true):False:=nomatch C
variable{af:Data}
theorem FH {p:FuncData->av}(C:sa aB af p=jI)(aq:aB=jI->False):∃c,af=.func c/\p c=jI:=by cases af<;>first|exact⟨_,rfl,C⟩|exact(aq C).elim
theorem NT {p:ClassData->Bool}(C:w3 af p=true):∃c,af=.cls c/\p c=true:=by cases af<;>first|exact⟨_,rfl,C⟩|exact(ng C).elim
theorem UE {p:Arguments}(C:vj p=Y nm):∃as N,p=⟨[],as,am,[],[],am,N⟩/\as.map (·.arg)=nm:=by
 obtain⟨d,as,Q,b,a,c,N⟩:=p;cases d with
 |cons=>exact(jS C).elim
 |nil=>
  cases Q with
  |some=>exact(jS C).elim
  |none=>
   cases b with
   |cons=>exact(jS C).elim
   |nil=>
    cases a with
    |cons=>exact(jS C).elim
    |nil=>
     cases c with
     |some=>exact(jS C).elim
     |none=>exact⟨as,N,rfl,Y.inj C⟩
theorem OA (C:m9 K v=Y bs):AU K v bs:=by
 cases v with
 |none=>exact .inl ⟨rfl,(Y.inj C).symm⟩
 |ref T=>obtain⟨o,e,C⟩:=vg (z:=am) (y:=Y bs) (o:=kl K T) C jS;rw[pw] at e;obtain⟨bD,bw,v,b4⟩:=o;cases v<;>first|exact .inr ⟨T,_,_,_,rfl,e,rfl,Y.inj C⟩|exact(jS C).elim
 |_=>exact(jS C).elim
theorem PV (C:pj c.K a=Y (body,aw,[],iI,nX,true,Y nm,Y l)): ∃j aj,(∃o,kl c.K a=Y o/\o.data=.func j)/\m9 c.K j.defaults=Y aj/\aj.length=l/\kz c a nm aj body aw:=by
 obtain⟨o,e,C⟩:=vg C jS;have a7:=e;rw[pw] at e;obtain⟨bD,bw,d,b4⟩:=o;obtain⟨j,hd,ao⟩:=FH C jS;clear C;subst hd;obtain⟨a9,aA,C⟩:∃a9,j.body=.stmts a9/\Y (a9,j.scope,j.closure,j.globals,j.builtins,codeB c.K j.code j.qualname,vj j.params,(m9 c.K j.defaults).map (·.length))=Y (body,aw,[],iI,nX,true,Y nm,Y l):=by
  cases X:j.body<;>rw[X] at ao
  ·exact⟨_,rfl,ao⟩
  ·exact(jS ao).elim
 have C:=Y.inj C;have g (i:lV->Prop) (aG:i (body,aw,[],iI,nX,true,Y nm,Y l)):i (a9,j.scope,j.closure,j.globals,j.builtins,codeB c.K j.code j.qualname,vj j.params,(m9 c.K j.defaults).map (·.length)):=C.symm▸aG;have f:(m9 c.K j.defaults).map (·.length)=Y l:=g (λp=>p.2.2.2.2.2.2.2=Y l) rfl;obtain⟨aj,a6,ap⟩:=hS.mp f;refine⟨j,aj,⟨_,a7,rfl⟩,a6,ap,?_,_,j,e,rfl,aA.trans<|congrArg _<|g (λp=>p.1=body) rfl,g (λp=>p.2.1=aw) rfl,g (λp=>p.2.2.1=[]) rfl,g (λp=>p.2.2.2.1=iI) rfl,g (λp=>p.2.2.2.2.1=nX) rfl,codeB_eq.symm.trans<|g (λp=>p.2.2.2.2.2.1=true) rfl,UE<|g (λp=>p.2.2.2.2.2.2.1=Y nm) rfl,OA a6⟩;show(match c.K.lookup a with|some ⟨_,_,.func _,_⟩=>true|some ⟨_,_,.cls _,_⟩=>_|_=>false)=true;rw[e]
theorem WO (C:Ix v (pt== ·)=true):(V.int pt).is v:=by cases v<;>first|exact⟨_,congrArg (XM · _) (beq_iff_eq.mp C).symm⟩|exact(ng C).elim
theorem WQ (C:Iy v (w== ·)=true):(V.str w).is v:=by cases v<;>first|exact⟨_,congrArg (Value.str · _) (beq_iff_eq.mp C).symm⟩|exact(ng C).elim
theorem F7 (C:xO u v=true):u.is v:=by
 cases u with
 |none=>exact beq_iff_eq.mp C
 |bool b=>exact beq_iff_eq.mp C
 |int i=>exact WO C
 |str x=>exact WQ C
 |ref a=>exact beq_iff_eq.mp C
 |_=>exact(ng C).elim
theorem Q7:∀{aj:List bt},uG us aj=true->cj us aj:=by
 induction us with
 |nil=>
  intro aj C;cases aj with
  |nil=>trivial
  |cons=>exact(ng C).elim
 |cons u us B=>
  intro aj C;cases aj with
  |nil=>exact(ng C).elim
  |cons v aj=>have C:=(d9 _ _).mp C;exact⟨F7 C.1,B C.2⟩
theorem PU (C:pj c.K a=Y (body,aw,[],iI,nX,true,Y nm,Y l))(aG:t2 c.K a us=true):∃aj,cj us aj/\kz c a nm aj body aw:=by obtain⟨j,aj,⟨o,e,bJ⟩,hd,ap,hf⟩:=PV C;refine⟨aj,Q7 ?_,hf⟩;unfold t2 at aG;rw[e] at aG;have aG:sa false o.data (λj=>Option.rec false (λaj=>uG us aj)<|m9 c.K j.defaults)=true:=aG;rw[bJ] at aG;have aG:Option.rec (motive:=λ_=>Bool) false (λaj=>uG us aj) (m9 c.K j.defaults)=true:=aG;rw[hd] at aG;exact aG
theorem FQ (C:uf c.K w u=true):n2 c w u:=by
 unfold uf at C;rw[u9] at C;split at C
 ·rename_i v e;exact⟨v,e,F7 C⟩
 ·cases C
theorem Tn (C:yy c.K w=true):qk c w:=by
 unfold yy at C;rw[u9] at C;split at C
 ·rename_i e;exact e
 ·cases C
variable{af:Option (Option bt)}
theorem y4 (C:vn af a=true):af=Y (Y<|.ref a):=beq_iff_eq.mp C
theorem uI (C:uH K a=true):typeIn K (.ref a)=Y (.type "function")/\k2 K (.ref a)=true:=by
 obtain⟨o,e,C⟩:=vg C ng;rw[pw] at e;obtain⟨j,hd,C⟩:=FH C ng;obtain⟨bD,bw,d,b4⟩:=o;refine⟨?_,?_⟩
 ·show(K.lookup a).map (·.cls)=_;rw[e];exact congrArg Y<|beq_iff_eq.mp C
 ·show(match K.lookup a with|some ⟨_,_,.func _,_⟩=>true|some ⟨_,_,.cls _,_⟩=>_|_=>false)=true;rw[e,show d=.func j from hd]
theorem S9 (C:yl K ae w cl=true):jz K ae w cl:=by unfold yl at C;simp only[d9] at C;obtain⟨⟨a,b⟩,d⟩:=C;exact⟨y4 a,(uI b).1,d,(uI b).2⟩
theorem SX (C:yg K ae cl=true):rI K ae cl:=by unfold yg at C;simp only[d9] at C;obtain⟨⟨⟨a,b⟩,d⟩,e⟩:=C;exact⟨a,y4 b,(uI d).1,e⟩
theorem TO:yI K N=nsOkIn K N:=by unfold yI nsOkIn;rw[pw];rfl
theorem TH (C:pB af=true):af=Y am:=beq_iff_eq.mp C
theorem TN (aF:K.In C)(e:nsOkIn K N=true)(X:nsIn K N w=Y (Y v)):C.nsMap N w=Y v:=by
 cases r:K.lookup N with
 |none=>unfold nsIn at X;rw[r] at X;exact(jS X).elim
 |some o=>
  obtain⟨q,al,cv,aO,hd,_,hf⟩:=Heap.Ns.of_isNs<|isNs_of_in aF e;have bv:q=o:=Y.inj<|aO.symm.trans<|aF _ _ r;subst bv;obtain⟨c,d,a,dZ⟩:=q;have hd:a=.dict al cv:=hd;subst hd;have X:(match al.toList.find? (·.key.isStr w) with
   |some e=>Y<|Y e.val
   |none=>if al.toList.any (·.refKey) then am else Y am)=Y (Y v):=by
   unfold nsIn at X;rw[r] at X;exact X
  cases he:al.toList.find? (·.key.isStr w) with
  |some i=>rw[he] at X;rw[<-hf];unfold nsFind findBy;rw[<-Array.find?_toList,he];exact Y.inj X
  |none=>
   rw[he] at X;have X:(if al.toList.any (·.refKey)=true then am else Y (am:Option bt))=Y (Y v):=X;by_cases z:al.toList.any (·.refKey)=true
   ·rw[if_pos z] at X;exact(jS X).elim
   ·rw[if_neg z] at X;exact(jS<|Y.inj X).elim
theorem qN (C:pre.length=b+1):∃a m,pre=a::m/\m.length=b:=by
 cases pre with
 |nil=>cases C
 |cons a m=>exact⟨a,m,rfl,rq.inj C⟩
theorem six {h:List (Option bt)}(C:h.length=6)(X:h[4]?=Y (Y<|.builtin iZ)):∃a0 cz cM dh dw,h=[a0,cz,cM,dh,Y<|.builtin iZ,dw]:=by obtain⟨a0,iY,rfl,h0⟩:=qN C;obtain⟨cz,v,rfl,ak⟩:=qN h0;obtain⟨cM,w,rfl,ao⟩:=qN ak;obtain⟨dh,g,rfl,bp⟩:=qN ao;obtain⟨y,a,rfl,bI⟩:=qN bp;obtain⟨dw,b,rfl,c9⟩:=qN bI;exact⟨a0,cz,cM,dh,dw,by rw[Y.inj X,kZ.mp c9]⟩
theorem O2 (C:cm false (kl c.K ae) (λo=>o.cls==.type "type"&&w3 o.data λh=>h.mro==[.ref ae,.type "Exception",.type "BaseException",.type "object"]&&o.slots.toList.length==6&&o.slots.toList[4]?==Y (Y<|.builtin "Exception.__new__")&& !h.hasDel&&h.hasDict&&gE h.ns N)=true): ∃nm X bs sn sub hu bf aM a0 cz cM dh dw,c.K.lookup ae=Y (mP nm X ae N bs hy true sn sub hu bf aM a0 cz cM dh dw "Exception.__new__"):=by obtain⟨o,e,C⟩:=vg C ng;rw[pw] at e;obtain⟨cl,aM,d,dZ⟩:=o;obtain⟨h,hd,aG⟩:=NT<|gG C;obtain⟨nm,bs,f,ns,g,b,sn,sub,hu,bf,a⟩:=h;obtain⟨a0,cz,cM,dh,dw,U⟩:=six (beq_iff_eq.mp<|gG<|dm<|dm<|dm<|dm aG)<|beq_iff_eq.mp<|gG<|dm<|dm<|dm aG;refine⟨nm,g,bs,sn,sub,hu,bf,aM,a0,cz,cM,dh,dw,e.trans ?_⟩;rw[show d=_ from hd,show cl=.type "type" from beq_iff_eq.mp (dm C),show dZ=#[a0,cz,cM,dh,Y<|.builtin "Exception.__new__",dw] from XX.mp U,show f=_ from beq_iff_eq.mp (dm<|dm<|dm<|dm<|dm aG),show b=true from gG (dm aG),show ns=N from o1 (gG aG),show a=false from(oW _).mp (gG<|dm<|dm aG)]
theorem O3 (a1:c.Ok)(C:Fh c.K ae N a=true):o5 c ae N a:=by have b:=dm<|dm C;have h0:=dm<|dm<|dm<|dm<|dm<|dm b;have ak:=gG h0;rw[TO] at ak;have nn:∀{x:Str},pB (ly c.K N x)=true->c.base.nsMap N x=am:=λC=>nsMap_none_of_in a1.gL ak (by rw[<-u9];exact TH C);exact⟨O2<|dm h0,⟨_,.of_isNs<|isNs_of_in a1.gL ak,TN a1.gL ak<|by rw[<-u9];exact y4<|gG<|dm<|dm<|dm<|dm<|dm b,nn<|gG<|dm<|dm<|dm<|dm b,nn<|gG<|dm<|dm<|dm b,nn<|gG<|dm<|dm b,nn<|gG<|dm b,nn<|gG b⟩,(uI<|gG<|dm C).1,gG C⟩
theorem w2 {h:List Bool}(i:Nat)(C:h=eb b true)(a4:i<b:=by decide):h.getD i false=true:=by subst C;simp[a4]
theorem Zd {h m:List (Option lV)}(i:Nat)(C:h=m):h.getD i am=m.getD i am:=by rw[C]
theorem FC:∀{l:List mY},(l.map (·.a)).map (pj c.K)=(l.map λr=>Fo r.b r.s r.bB r.g8.length)->(l.all λr=>t2 c.K r.a r.g8)=true->fY (qm c) l
 |[],_,_=> .nil
 |_::_,ak,ao=> .cons (PU (rm.inj ak).1<|dm ao)<|FC (rm.inj ak).2<|gG ao
theorem Pk (a1:c.Ok)(ak:t6.map (pj c.K)=t7)(ao:rW c.K=eb pe true):ba c:= have z (i:Nat) (a4:i<pe:=by decide):(rW c.K).getD i false=true:=w2 i ao a4;⟨a1,O3 a1<|z 8,FC ak<|z 0,qq (λ_=>FQ)<|z 1,qq (λ_=>Tn)<|z 2,qq (λ_=>S9)<|z 3,qq (λ_=>SX)<|z 4,qq (p:=λ(p:Addr×Str)=>fP c.K p.1 p.2) (λ_ C=>C)<|z 5,z 6⟩
set_option tactic.hygienic false
set_option tactic.hygienic true
theorem Wi:@stepT=@zm:=PySem.W.Fast.te10156331382660048174
theorem Oy:@denote=@xj:=PySem.W.Fast.te11892475500146522536
theorem Wy:@treeTable=@zu:=PySem.W.Fast.te14364793385576792824
theorem Uc:@stepOk=@yS:=PySem.W.Fast.te6613529449190102663
theorem VH {a:String->Option Builtin}:
 ∀{s aH:hU} {t:Thread},sY (stepT (denote a) prog f3) (stepOk b dw) e s t=Y aH->topRun a prog f3 b dw e s.abs t=Y aH.abs:=by
 induction e with
 |zero=>intro s aH t C;cases C
 |succ e B=>
  intro s aH t C;replace C:HI (stepT (denote a) prog f3 s t) (sY (stepT (denote a) prog f3) (stepOk b dw) e) s (through t) (stepOk b dw t)=Y aH:=C;unfold topRun;cases he:through t with
  |true=>rw[he] at C;cases C;rfl
  |false=>
   rw[he] at C;cases an:stepOk b dw t with
   |false=>rw[an] at C;cases C
   |true=>
    rw[an] at C;cases U:stepT (denote a) prog f3 s t with
    |none=>rw[U] at C;cases C
    |some r=>obtain⟨n,c⟩:=r;rw[U] at C;rw[stepT_spec U];exact B C
theorem bn (P:Params):(mS P).objs.size=11:=by kernel_rfl
theorem Kz (P:Params):(mS P).nsMap iI "__annotations__"=Y (.ref 6):=by kernel_rfl
theorem KU (P:Params):(mS P).isNs iI=true:=by kernel_rfl
theorem OT:opening gz=plainProg gz.main.scope.names:=by kernel_rfl
theorem OS (s:bZ):fenceModules? gz s=Y s:=by kernel_rfl
theorem OR (w:World)(os:OsState):(BO w os).abs=⟨mS w.params,#[],boot_drawn,boot_toks,os⟩:=by kernel_rfl
theorem Qd {as:List Addr}{Q:hU}:(ua as Q).In Q.abs.heap:=by
 intro a o e;unfold ua at e;induction as with
 |nil=>cases e
 |cons b as B=>
  rw[pV] at e;cases X:xz Q b with
  |none=>rw[X] at e;exact B e
  |some cm=>
   rw[X] at e;dsimp only[vM] at e;rw[g4] at e;split at e
   ·rename_i z;cases e;rw[beq_iff_eq.mp z];unfold xz at X;split at X
    ·rename_i D;split at X
     ·rename_i q bh;exact(abs_get (by rw[Nat.blt_eq] at D;exact D) bh).trans X
     ·cases X
    ·cases X
   ·exact B e
theorem VG (w:World):sY (zm (xj zu) gz w) (yS 11<|Y<|.ref 6)=sY (stepT (denote treeTable) gz w) (stepOk 11<|Y<|.ref 6):=by rw[Wi,Oy,Wy,Uc]
theorem RW:i7 600 20000=true:=rfl
def wD (_:World)(C:Heap):Prop:=∃K:Frag,K.In C/\t6.map (pj K)=t7/\rW K=eb pe true
def wE (s:bZ):Prop:=∃K:Frag,K.In s.heap/\t6.map (pj K)=t7/\rW K=eb pe true
theorem left:LeftO gz q4 qO (λ_=>true) wE (λ_=>True) 20000 true:=λw=>by
 refine bA λco aB=>a9 (hS.mp<|boot_open (p:=gz) (N:=20000) OT RW OS w) λL ak ao=>?_;obtain⟨G,e,aM,aD,os⟩:=L;simp only[tj.injEq] at ao;refine gM ao λa h bh bt=>?_;clear ao;subst a;subst h;subst bh;subst bt;refine a9 (hS.mp<|VF w os) λaH bp bI=>?_;rw[VG] at bp;have c9:=VH bp;rw[OR] at c9;obtain⟨er,d⟩:=tj.inj bI;obtain⟨D,b⟩:=tj.inj d;refine aB ?_;have f:topFrom treeTable gz w 20000 ⟨mS w.params,#[],boot_drawn,boot_toks,os⟩=Y aH.abs:=by unfold topFrom;dsimp only;rw[KU];have g:((#[]:Array GenState).size==0)=true:=rfl;rw[g];simp only[Bool.and_self];rw[bn,Kz,c9];simp only[XY];rw[er]
 unfold openEnds;have c:fencedOpening treeTable gz w 20000=Y ⟨mS w.params,#[],boot_drawn,boot_toks,os⟩:=ak;rw[c,XY,f,vM,D,eq_true (show wE aH.abs from⟨_,Qd,congrArg Prod.fst b,congrArg Prod.snd b⟩)]
noncomputable def Om (s:Stmt):DefRec:=oN ⟨"",⟨[],[],am,[],[],am,[]⟩,[],⟨.function,[],false,false,[]⟩,default⟩ s (a:=λname args body q q q aw q q pos=>⟨name,args,body,aw,pos⟩)
noncomputable def x1:DefRec:=Om<|(gz.main.body.drop 147).headD<|.Pass default
theorem Ze (call:WalkO q4 qO (λ_ _=>True) wD lw.row.toRowW x1 [] λf aj=>PySem.call f aj)(ax:lw.row.wellSaid=true):lw.row.Holds:=by refine PySem.W.holds_open (q:=q4) (loose:=qO) (Xt:=λ_=>true) (XP:=λ_ _=>True) (Yf:=wE) (Ya:=λ_=>True) (YP:=wD) (N:=20000) (d:=x1) (kwd:=[]) left (λ_ s e=>of_eq_true e) (λ_ _ _ A k=>a9 A λK a b=>⟨K,λx o e=>k _ _<|a x o e,b⟩) (λ_ _=>trivial) (λ_ _ _ _ _=>trivial) (by kernel_rfl) (by kernel_rfl) (by kernel_rfl) (λ_ _=>recFacts_nil rfl) rfl ax (by decide+kernel) ⟨rfl,rfl,rfl,rfl,rfl,by decide+kernel⟩ ?_ call;w_witness2
set_option tactic.hygienic false
theorem dI.at {aE:O}(C:dI I Z a aE):Z a=Y aE:=C.2▸aI.set_same ..
theorem Upd.at {aE:O}(C:Upd I Z a aE):Z a=Y aE:=C▸aI.set_same ..
theorem Upd.ne {aE:O}(C:Upd I Z a aE)(X:ae≠a):Z ae=I ae:=C▸aI.hl _ _ _ X
theorem T4:sN u .none ad I=cY u (ad (.bool u.isNone) I):=rfl
theorem T3:oB u .none ad I=cY u (ad (.bool (!u.isNone)) I):=by cases u<;>rfl
theorem TY:e5 (.str w) (.str name) ad I=(ad (.str<|w++name) I/\(w++name).length<=c5):=rfl
def iC (P:List V->aI->Prop)(ad:kx->List V->aI->Prop):kx->List V->aI->Prop
 |.next=>P
 |.cont=>P
 |.brk=>ad .next
 |.ret u=>ad<|.ret u
variable{B:tE}
theorem u1 (C:B ai dJ I):∀d,(∀b ai I,d b ai I=dJ b ai I)->B ai d I:=λd e=>by have:d=dJ:=funext λb=>funext λai=>funext λI=>e b ai I;refine J this ?_;exact C
theorem ya (P:Nat->List V->aI->Prop)(h0:P 0 ai I)(ap:∀k ai I,P k ai I->I a=Y (.list us)) (U:∀k ai I u,P k ai I->us[k]?=Y u->B (ai.set i u) (iC (P<|k+1) dJ) I)(he:∀ai I,P us.length ai I->dJ .next ai I):j7 (.list a) i B dJ ai I:=by
 refine(fv (λk ai I=>k<=us.length/\P k ai I) us.length ⟨dU _,h0⟩ λk ai I A=>dF A λan C=>⟨an,λe=>?_,λG=>?_⟩)
 ·clear an;subst e;exact⟨(bj us (ap _ _ _ C)<|by simp),he _ _ C⟩
 ·refine(bj (us[k]) (bj us (ap _ _ _ C)<|by simp[G]) ?_);have bd:(k+1<=us.length)=True:=eq_true G;exact u1 (U k ai I us[k] C<|by simp[G]) _ λb d aN=>by cases b<;>simp[bd,iC]
theorem u0 (P:Nat->List V->aI->Prop)(h0:P 0 ai I) (U:∀k ai I,P k ai I->k<cnt->B (ai.set i<|.int<|pt+st*k) (iC (P<|k+1) dJ) I)(he:∀ai I,P cnt ai I->dJ .next ai I):j7 (.kT pt cnt st) i B dJ ai I:=by
 refine(fv (λk ai I=>k<=cnt/\P k ai I) cnt ⟨dU _,h0⟩ λk ai I A=>dF A λan C=>⟨an,λe=>?_,λG=>?_⟩)
 ·clear an;subst e;exact⟨by simp[lA],he _ _ C⟩
 ·refine(bj _ (if_pos G).symm ?_);have bd:(k+1<=cnt)=True:=eq_true G;exact u1 (U k ai I C G) _ λb d aN=>by cases b<;>simp[bd,iC]
variable{cI:wh}
theorem uZ (P:List V->aI->Prop)(aq:us.length<=c5)(h0:P [] I)(ap:∀aj I,P aj I->I a=Y (.list us)) (U:∀aj I u,P aj I->us[aj.length]?=Y u->cI (u::ai) (λw Z=>P (aj++[w]) Z) I)(he:∀aj I,P aj I->aj.length=us.length->jA aj I):n3 (.list a) cI ai jA I:=by
 refine(eV (λk aj I=>k<=us.length/\aj.length=k/\P aj I) us.length aq ⟨dU _,rfl,h0⟩ λk aj I A=>fT A λan a6 C=>⟨a6,an,λe=>?_,λG=>?_⟩)
 ·clear A an;subst e;exact⟨(bj us (ap _ _ C)<|by simp),he _ _ C a6⟩
 ·clear A an;subst a6;refine(bj (us[aj.length]) (bj us (ap _ _ C)<|by simp[G]) ?_);have:=U aj I us[aj.length] C (by simp[G]);have e:(λw Z=>aj.length+1<=us.length/\(aj++[w]).length=aj.length+1/\P (aj++[w]) Z)=λw Z=>P (aj++[w]) Z:=by funext w Z;have:(aj.length+1<=us.length)=True:=eq_true G;simp[this]
  refine J e ?_;exact this
theorem GL (P:List V->aI->Prop)(aq:cnt<=c5)(h0:P [] I) (U:∀aj I,P aj I->aj.length<cnt->cI (.int (pt+st*aj.length)::us) (λw Z=>P (aj++[w]) Z) I)(he:∀aj I,P aj I->aj.length=cnt->jA aj I):n3 (.kT pt cnt st) cI us jA I:=by
 refine(eV (λk aj I=>k<=cnt/\aj.length=k/\P aj I) cnt aq ⟨dU _,rfl,h0⟩ λk aj I A=>fT A λan a6 C=>⟨a6,an,λe=>?_,λG=>?_⟩)
 ·clear aq A an;subst e;exact⟨by simp[lA],he _ _ C a6⟩
 ·clear A an;subst a6;refine(bj _ (if_pos G).symm ?_);have:=U aj I C G;have e:(λw Z=>aj.length+1<=cnt/\(aj++[w]).length=aj.length+1/\P (aj++[w]) Z)=λw Z=>P (aj++[w]) Z:=by funext w Z;have:(aj.length+1<=cnt)=True:=eq_true G;simp[this]
  refine J e ?_;exact this
def bF (I Z:aI):Prop:=∀a o,I a=Y o->Z a=Y o
theorem bF.refl:bF I I:=λq q C=>C
theorem bF.trans (x:bF I ay)(y:bF ay aN):bF I aN:=λa o C=>y a o<|x a o C
theorem bF.new {aE:O}(C:I a=am):bF I (I.set a aE):=λb q e=>by refine J (aI.hl _ _ _ λX=>by replace e:=C▸X▸e;exact bX e) ?_;exact e
theorem bF.upd {aE:O}(x:bF Z I)(C:Z a=am):bF Z (I.set a aE):=λb q e=>by refine J (aI.hl _ _ _ λX=>by replace e:=C▸X▸e;exact bX e) ?_;exact x b q e
theorem dI.ext {aE:O}(C:dI I Z a aE):bF I Z:=C.2▸bF.new C.1
theorem Upd.ext {aE:O}(C:Upd I Z a aE)(x:bF ay I)(n:ay a=am):bF ay Z:=C▸x.upd n
def eJ (M:Addr->Prop)(I:aI):Prop:=∀a,M a->∃o,I a=Y o
theorem eJ.ext (C:eJ aJ I)(x:bF I Z):eJ aJ Z:=λa m=>dr (C a m) λo e=>⟨o,x a o e⟩
theorem eJ.fresh (C:eJ aJ I)(e:I a=am):¬ aJ a:=λm=>by obtain⟨o,X⟩:=C a m;replace X:=e▸X;exact bX X
noncomputable abbrev br (Q:List Int):List V:=Q.map .int
def IsL (M:Addr->Prop)(I:aI)(u:V)(Q:List Int):Prop:=∃a,u=.ref a/\¬ M a/\I a=Y (.list<|br Q)
variable{Q:List Int}
theorem IsL.ext (C:IsL aJ I u Q)(x:bF I Z):IsL aJ Z u Q:=d8 C λa e m g=>⟨a,e,m,x a _ g⟩
def bY (R:av->fm->Prop):List av->List fm->Prop
 |[],[]=>True
 |a::as,b::bs=>R a b/\bY R as bs
 |_,_=>False
theorem bY.ind {h:List fm}{c:av->fm->Prop}{P:List av->List fm->Prop}(h0:P [] [])(ak:∀{a pre b h},c a b->P pre h->P (a::pre) (b::h))(C:bY c pre h):P pre h:=by
 induction pre generalizing h with
 |nil=>cases h with
  |nil=>exact h0
  |cons=>exact C.elim
 |cons a pre B=>cases h with
  |nil=>exact C.elim
  |cons b h=>exact ak C.1<|B C.2
theorem bY.mono {c aq:av->fm->Prop}{h:List fm}{as:List av}(C:∀a b,c a b->aq a b)(H:bY c as h):bY aq as h:=H.ind (P:=bY aq) trivial λx y=>⟨C _ _ x,y⟩
theorem bY.length {c:av->fm->Prop}{h:List fm}{as:List av}(H:bY c as h):as.length=h.length:=H.ind (P:=λas h=>as.length=h.length) rfl λ_ y=>congrArg (· +1) y
theorem bY.get {c:av->fm->Prop}{h:List fm}{as:List av}{q:fm}(H:bY c as h):h[i]?=Y q->∃a,as[i]?=Y a/\c a q:= H.ind (P:=λas h=>∀i:Nat,h[i]?=Y q->∃a,as[i]?=Y a/\c a q) (λ_ e=>bX e) (λx y i e=>by
  cases i with
  |zero=>cases e;exact bj _ rfl x
  |succ i=>exact y i e) i
theorem bY.get' {c:av->fm->Prop}{h:List fm}(C:bY c pre h)(e:pre[i]?=Y aB):∃b,h[i]?=Y b/\c aB b:=by obtain⟨a4,a7⟩:=e8.mp e;have aA:i<h.length:=C.length▸a4;refine a9 (C.get<|eu aA) λaG ak ao=>?_;replace ak:=e▸ak;cases ak;exact(bj _ (eu aA) ao)
theorem bY.append {c:av->fm->Prop}{W h:List fm}{q as:List av}(H:bY c as h)(C:bY c q W):bY c (as++q) (h++W):=H.ind (P:=λas h=>bY c (as++q)<|h++W) C λx y=>⟨x,y⟩
theorem bY.take {c:av->fm->Prop}{h:List fm}{as:List av}(k:Nat)(H:bY c as h):bY c (as.take k) (h.take k):= H.ind (P:=λas h=>∀k,bY c (as.take k)<|h.take k) (λk=>by cases k<;>exact trivial) (λx y k=>by
  cases k with
  |zero=>exact trivial
  |succ k=>exact⟨x,y k⟩) k
theorem bY.drop {c:av->fm->Prop}{h:List fm}{as:List av}(k:Nat)(H:bY c as h):bY c (as.drop k) (h.drop k):=by
 induction k generalizing as h with
 |zero=>exact H
 |succ k B=>cases as with
  |nil=>cases h with
   |nil=>exact trivial
   |cons=>exact H.elim
  |cons=>cases h with
   |nil=>exact H.elim
   |cons=>exact B H.2
theorem bY.set {c:av->fm->Prop}{h:List fm}{q:fm}(r:c aB q)(k:Nat)(H:bY c pre h):bY c (pre.set k aB) (h.set k q):=by
 induction k generalizing pre h with
 |zero=>cases pre with
  |nil=>cases h with
   |nil=>exact trivial
   |cons=>exact H.elim
  |cons=>cases h with
   |nil=>exact H.elim
   |cons=>exact⟨r,H.2⟩
 |succ k B=>cases pre with
  |nil=>cases h with
   |nil=>exact trivial
   |cons=>exact H.elim
  |cons=>cases h with
   |nil=>exact H.elim
   |cons=>exact⟨H.1,B H.2⟩
def eg (M:Addr->Prop)(I:aI)(u:V)(b:List (List Int)):Prop:=∃a us,u=.ref a/\¬ M a/\I a=Y (.list us)/\bY (IsL M I) us b
theorem eg.ext {Q:List (List Int)}(C:eg aJ I u Q)(x:bF I Z):eg aJ Z u Q:= cS C λa us e m g r=>⟨a,us,e,m,x a _ g,r.mono λq q X=>X.ext x⟩
variable{af:Int->Nat->Int->Prop}
theorem vq (ak: -100000<=pt:=by lia)(ao:pt<2^62:=by lia)(C:af 0 pt.toNat 1):mc [.int pt]/\∃a cnt st,k8 [.int pt] a cnt st/\af a cnt st:= (zF (λu aU=>by cases gD.mp aU;exact(dj pt rfl (dW (.bW (.g<|.k 4611686018427387904) bh) [.bW (.g<|.k 100000) bh] ak)<|dW (.Lt bh<|.k 4611686018427387904) [.Lt bh<|.k 4611686018427387904] ao)) _ _ _ (.one _) C)
theorem Vs (ak: -100000<=pt:=by lia)(ao:pt<2^62:=by lia)(bp: -100000<=last:=by lia)(bI:last<2^62:=by lia)(C:af pt (last -pt).toNat 1):mc [.int pt,.int last]/\∃a cnt st,k8 [.int pt,.int last] a cnt st/\af a cnt st:=by
 refine(zF (λu aU=>?_) _ _ _ (.two _ _) C);rcases fF.mp aU with rfl|aU
 ·exact(dj pt rfl (dW (.bW (.g<|.k 4611686018427387904) bh) [.bW (.g<|.k 100000) bh] ak)<|dW (.Lt bh<|.k 4611686018427387904) [.Lt bh<|.k 4611686018427387904] ao)
 ·cases gD.mp aU;exact(dj last rfl (dW (.bW (.g<|.k 4611686018427387904) bh) [.bW (.g<|.k 100000) bh] bp)<|dW (.Lt bh<|.k 4611686018427387904) [.Lt bh<|.k 4611686018427387904] bI)
theorem Vt (ak: -100000<=pt:=by lia)(ao:pt<2^62:=by lia)(bp: -100000<=last:=by lia)(bI:last<2^62:=by lia)(C:af pt (pt -last).toNat (-1)):mc [.int pt,.int last,.int (-1)]/\∃a cnt st,k8 [.int pt,.int last,.int (-1)] a cnt st/\af a cnt st:=by
 refine(zF (λu aU=>?_) _ _ _ (.down _ _) C);rcases fF.mp aU with rfl|aU
 ·exact(dj pt rfl (dW (.bW (.g<|.k 4611686018427387904) bh) [.bW (.g<|.k 100000) bh] ak)<|dW (.Lt bh<|.k 4611686018427387904) [.Lt bh<|.k 4611686018427387904] ao)
 ·rcases fF.mp aU with rfl|aU
  ·exact(dj last rfl (dW (.bW (.g<|.k 4611686018427387904) bh) [.bW (.g<|.k 100000) bh] bp)<|dW (.Lt bh<|.k 4611686018427387904) [.Lt bh<|.k 4611686018427387904] bI)
  ·cases gD.mp aU;exact(dj (-1) rfl (kN<|.bW (.g<|.k 4611686018427387904)<|.g aC)<|kN<|.Lt (.g aC)<|.k 4611686018427387904)
theorem tU:mN b (e:Int)=min e b:=by
 unfold mN;refine J (if_neg<|il.mpr<|mR e) ?_;rcases lL e b with C|C
 ·exact J (lM<|dL.mpr C)<|J (oY<|mR e)<|J (dG C) rfl
 ·exact J (nT<|dL.mpr C)<|J (oY<|mR b)<|J (j1 C) rfl
theorem r1:cut am (Y (b:Int)) pre=pre.take b:=by unfold cut;simp only[Jn,Ar,tU,tk,XZ];refine mJ Yb ?_;exact cn (.eq aa ab) [.cN ab ah az,.cN aa ab az] rfl rfl
theorem xf:cut (Y (b:Int)) am pre=pre.drop b:=by
 unfold cut;simp only[Jn,Ar,tU];by_cases C:b<=pre.length
 ·rw[dG C,ik];refine J dz ?_;exact c1 _
 ·refine J (j1<|bH (.le aa ab) [.jn ab aa] C)<|J (i6<|c1 _)<|J (i6<|bH (.le aa ab) [.jn ab aa] C) ?_;simp
theorem E1:cut (Y (i:Int)) (Y (j:Int)) pre=(pre.take j).drop i:=by
 unfold cut;simp only[Jn,Ar,tU];refine J Yc ?_;by_cases C:i<=pre.length
 ·refine J (dG (C:i<=pre.length)) ?_;rcases lL j pre.length with X|X
  ·exact J (dG X) rfl
  ·exact J (j1 X)<|(ik<|Ao dz).trans (ik<|J dz<|Jo X i).symm
 ·refine J (j1 (by exact bH (.le aa ab) [.jn ab aa] C:pre.length<=i))<|J (i6<|c1 _)<|J (i6<|bH (.le aa ab) [.jn ab aa] C) ?_;simp
theorem uE:(br Q).take b=br (Q.take b):=List.map_take.symm
theorem xK:(br Q).drop b=br (Q.drop b):=List.map_drop.symm
theorem mq:br Q++br A=br (Q++A):=jv.symm
theorem QR:(br Q).reverse=br Q.reverse:=List.map_reverse.symm
theorem e1:(br Q).length=Q.length:=fx ..
theorem QQ:∀{Q bG:List Int},br Q=br bG->Q=bG:=by
 intro D;induction D with
 |nil=>
  intro f;cases f with
  |nil=>intro o;exact rfl
  |cons _ _=>intro d;first|exact d.elim|cases d
 |cons x Q B=>
  intro f;cases f with
  |nil=>intro d;first|exact d.elim|cases d
  |cons y bG=>intro C;simp only[hQ,rm.injEq,V.int.injEq] at C;exact J C.1<|J (B C.2) rfl
theorem Ih:times pt [ar]=eb pt.toNat ar:=by
 unfold times;generalize pt.toNat=m;induction m with
 |zero=>rfl
 |succ m B=>refine J vU<|J I7<|J B<|J vU ?_;rfl
theorem F0:eb b (V.int pt)=br (eb b pt):=by simp
theorem yW:pick (b:Int) pre=pre[b]?:=by unfold pick;simp
theorem xL:(br Q)[b]?=(Q[b]?).map .int:=by simp
theorem item_list (C:us[b]?=Y u)(aq:us.length<2^62):item (.list us) (.int b) u:=⟨yW.trans C,aq⟩
theorem item_tup (C:us[b]?=Y u)(aq:us.length<2^62):item (.tup us) (.int b) u:=⟨yW.trans C,aq⟩
def jB (ad:V->aI->Prop)(I:aI)(Q:List Int):Prop:=∀a Z,bF I Z->I a=am->Z a=Y (.list<|br Q)->ad (.ref a) Z
def kB (ad:V->aI->Prop)(I:aI)(r:Addr)(Q:List Int):Prop:=∀a Z,bF I Z->(a=r\/I a=am)->Z a=Y (.list<|br Q)->ad (.ref a) Z
theorem kB.Ij (C:kB ad I ae Q):jB ad I Q:=λa Z x n e=>C a Z x (.inr n) e
theorem bF.none (x:bF I Z)(C:Z a=am):I a=am:=by
 cases e:I a with
 |none=>rfl
 |some o=>replace C:=(x a o e)▸C;exact gB C
theorem ty_list (C:I a=Y (.list us)):V.ty I (.ref a)=Y "list":=by refine(?_:(I a).bind O.ty=_);refine J C ?_;rfl
variable{aO:List (Int×V)}
theorem It (C:I a=Y (.cP aO)):V.ty I (.ref a)=Y "dict":=by refine(?_:(I a).bind O.ty=_);refine J C ?_;rfl
theorem gc {h cm:O}(aK:I a=Y h)(aA:I ae=Y cm)(C:h≠cm:=by exact nofun):a≠ae:=λX=>by subst X;replace aA:=aK▸aA;cases aA;exact C rfl
theorem cQ {h:O}(aK:I a=Y h)(aA:I ae=am):a≠ae:=λX=>by subst X;replace aA:=aK▸aA;exact gB aA
theorem Upd.keep {aE h cm:O}(C:Upd I Z a aE)(aK:I a=Y h)(aA:I ae=Y cm)(bw:cm≠h:=by exact nofun):Z ae=Y cm:=(C.ne<|gc aA aK bw).trans aA
structure hX (ae a d:Addr)(al:List (Str×V))(y I:aI):Prop where
 ext:bF y I
 na:y a=am
 fb:y d=am
 fB:I a=Y (.inst ae d)
 id:I d=Y (.attrs ae al)
theorem mx (a1:c.Ok)(hm:rI c.K ae ej) (C:∀a d Z,hX ae a d [] I Z->bk c b (.ref ej) (.ref a::us) (λu Z=>u=.none/\ad (.ref a) Z) Z):bk c (b+1) (.ref ae) us ad I:=by
 refine SY a1 hm λa d bw na fb=>C a d _ ⟨?_,na,fb,aI.set_same ..,?_⟩
 ·exact(bF.new fb).trans<|bF.new (by refine J (aI.hl _ _ _ bw) ?_;exact na)
 ·refine J (aI.hl _ _ _<|hT bw) ?_;exact aI.set_same ..
theorem hX.step (C:hX ae a cl ce ay I)(k:Upd I Z cl (.attrs ae<|bJ w u ce)):hX ae a cl (bJ w u ce) ay Z:= ⟨k.ext C.ext C.fb,C.na,C.fb,k.keep C.id C.fB,k.at⟩
theorem hX.grow (C:hX ae a cl ce ay I)(x:bF I Z):hX ae a cl ce ay Z:=⟨C.ext.trans x,C.na,C.fb,x _ _ C.fB,x _ _ C.id⟩
variable{h:List (List Int)}
theorem Of (g:List Int->List Int)(az:eJ aJ I)(ax:I a=Y (.list us))(aQ:bY (IsL aJ I) us h)(aq:us.length<=c5) (U:∀ay u aM K,bF I ay->eJ aJ ay->IsL aJ ay u aM->aM∈h->(∀w aN,bF ay aN->IsL aJ aN w (g aM)->K w aN)->cI (u::ai) K ay) (hf:∀aj Z,bF I Z->bY (IsL aJ Z) aj (h.map g)->jA aj Z):n3 (.list a) cI ai jA I:=by
 refine uZ (λaj Z=>bF I Z/\bY (IsL aJ Z) aj ((h.map g).take aj.length)) aq ⟨bF.refl,trivial⟩ (λaj Z C=>C.1 _ _ ax) ?_ ?_
 ·rintro aj ay u ⟨av,aZ⟩ aU;refine a9 (aQ.get' aU) λaM ao bp=>U ay u aM _ av (az.ext av) (bp.ext av) (d1 ao) λw aN a3 aR=>⟨av.trans a3,?_⟩;exact J bK<|J fe<|J ju<|J jZ<|J rl<|J ao<|(aZ.mono λq q X=>X.ext a3).append ⟨aR,trivial⟩
 ·rintro aj ay ⟨av,aZ⟩ ap;refine hf aj ay av ?_;rwa[ik<|by refine J (fx _)<|J ap<|J aQ.length ?_;exact c1 _] at aZ
theorem bk.at {k:Nat}(C:bk c b ar us ad I)(hd:b<=k:=by lia):mV c k ar us ad I:=by
 intro W s ee aj E aQ S hf aK;refine C.WD W s ee aj E ⟨?_,?_,aQ.handled⟩ S hf aK
 ·have:=aQ.depth;exact cn (.le (.a (.a aa<|.m 2 ab)<|.k 4) ah) [.le ab az,.le (.a (.a aa<|.m 2 az)<|.k 4) ah] hd this
 ·have:=aQ.units;exact cn (.le (.a (.a aa<|.m 20 ab)<|.k 100) ah) [.le ab az,.le (.a (.a aa<|.m 20 az)<|.k 100) ah] hd this
theorem da {n:Nat}(C:i7 n 1000=true):n<2^62:=jY (mQ C) (by decide)
theorem cv (C:i7 b 1000=true):b<=c5:=a5 (mQ C) (by refine J eI ?_;decide)
theorem es (C:i7 (b+1) e=true):b<e:=mQ C
theorem ci {k:Nat}(an:k2 c.K (.ref a)=true)(C:bk c b (.ref a) us ad I)(hd:b<=k:=by lia):k2 c.K (.ref a)=true/\mV c k (.ref a) us ad I:=⟨an,C.at hd⟩
theorem ca (C:bk c b ar us ad I)(hd:i7 b e=true:=by rfl):mV c e ar us ad I:=C.at (mQ hd)
theorem eE {P:List V->Prop}(bd:I a=Y (.tup us))(ap:us.length=b)(C:P us):∃us,I a=Y (.tup us)/\us.length=b/\P us:=(dj us bd ap C)
theorem dq (ak:I a=Y (.inst ae cl))(ao:I cl=Y (.attrs ae ce))(ap:ce.lookup w=am)(hm:jz c.K ae w N)(C:aJ N): ∃ae cl ce N,I a=Y (.inst ae cl)/\I cl=Y (.attrs ae ce)/\ce.lookup w=am/\jz c.K ae w N/\aJ N:=(⟨ae,cl,ce,N,ak,ao,ap,hm,C⟩)
theorem ii {aE:O}{i:V}(C:I a=Y aE)(a4:item aE i u)(af:ad u I):hA (.ref a) i ad I:=(eV aE u C a4 af)
theorem cU {k:Nat}(C:I a=Y (.list us))(aU:us[k]?=Y u)(aq:us.length<2^62)(af:ad u I):hA (.ref a) (.int k) ad I:=(eV _ u C (item_list aU aq) af)
theorem it {k:Nat}(C:I a=Y (.tup us))(aU:us[k]?=Y u)(aq:us.length<2^62)(af:ad u I):hA (.ref a) (.int k) ad I:=(eV _ u C (item_tup aU aq) af)
theorem fS (C:I a=Y (.fQ ce))(aU:ce.lookup w=Y u)(af:ad u I):hA (.ref a) (.str w) ad I:=(eV _ u C aU af)
theorem pr (C:I a=Y (.cP aO))(aU:aO.lookup pt=Y u)(af:ad u I):hA (.ref a) (.int pt) ad I:=(eV _ u C aU af)
theorem c8 (ak:I a=Y (.inst ae cl))(ao:I cl=Y (.attrs ae ce))(ap:ce.lookup w=Y u)(C:cY u (co u)):eo I a w co:=by refine J (Kw ak ao)<|J ap ?_;exact C
theorem iE (ak:I a=Y (.inst ae cl))(ao:I cl=Y (.attrs ae ce))(hd:fP c.K ae w=true)(aq:ce.length<900)(C:∀D,Upd I D cl (.attrs ae<|bJ w u ce)->aZ D): ∃ae cl ce,I a=Y (.inst ae cl)/\I cl=Y (.attrs ae ce)/\fP c.K ae w=true/\ce.length<900/\∀D,Upd I D cl (.attrs ae<|bJ w u ce)->aZ D:=(pQ ae cl ce ak ao hd aq C)
theorem li (C:I a=Y (.list us))(aq:us.length<2^62)(af:ad (.int us.length) I):qu [.ref a] ad I:=(dj us (.inl C) aq af)
theorem vk (C:I ae=Y (.list us))(aG:I cl=Y (.list b6))(aq:us.length+b6.length<=c5)(af:∀a D,dI I D a (.list<|us++b6)->ad (.ref a) D):e5 (.ref ae) (.ref cl) ad I:=(gd us b6 C aG aq af)
theorem qT (C:I ae=Y (.list us))(ak: -(2^63:Int)<=pt)(ao:pt<2^63)(aq:us.length*pt.toNat<=2^24)(af:∀a D,dI I D a (.list<|times pt us)->ad (.ref a) D):nx (.ref ae) (.int pt) ad I:=(⟨us,C,ak,ao,aq,af⟩)
variable{aw:Addr->aI->Prop}
theorem oL (C:I ae=Y (.list us))(aq:us.length<=c5)(af:∀a D,dI I D a (.list<|cut mp k4 us)->aw a D):∃us,I ae=Y (.list us)/\us.length<=c5/\∀a D,dI I D a (.list<|cut mp k4 us)->aw a D:=(dj us C aq af)
theorem dP (C:ad (.int<|last -pt) I):oC (.int last) (.int pt) ad I:=C
theorem d3 (C:ad (.int<|last+pt) I):e5 (.int last) (.int pt) ad I:=C
theorem qQ (C:ad (.int<|max last pt) I):rR [.int last,.int pt] ad I:=C
theorem yp (C:ad (.int<|min last pt) I):qv [.int last,.int pt] ad I:=C
theorem QJ (C:ad (.bool<|decide<|pt<last) I):vc (.int last) (.int pt) ad I:=C
theorem Fa (C:ad (.bool<|decide<|last=pt) I):oEq (.int last) (.int pt) ad I:=C
theorem G2 (C:ad (.bool (!decide (last=pt))) I):i0 (.int last) (.int pt) ad I:=C
theorem eqs (C:ad (.bool<|decide<|w=name) I):oEq (.str w) (.str name) ad I:=C
theorem db {p:Prop}[Decidable p](C:p->G)(aG:¬ p->X):hF (decide p) G X:=by refine J ER ?_;exact⟨C,aG⟩
theorem fE [Decidable G](C:¬ G->X)(aG:G->bg):hF (!decide G) X bg:=by refine J N6 ?_;exact⟨C,aG⟩
theorem fg (C:X):hF (false^^false) G X:=C
theorem r0 (C:G):hF (false^^true) G X:=C
theorem dZ {k:Nat}(C:I a=Y (.list us))(an:k<us.length)(aq:us.length<2^62)(af:∀D,Upd I D a (.list<|us.set k u)->aZ D):sO (.ref a) (.int k) u aZ I:= .inl<|⟨us,C,(gb<|.bW b1<|.c aa),(bH (.Lt (.c aa)<|.c ab) [.lt aa ab] an),aq,(λD C=>af D C)⟩
theorem sZ (C:I a=Y (.cP aO))(aq:aO.length<=c5)(af:∀D,Upd I D a (.cP<|hi pt u aO)->aZ D):sO (.ref a) (.int pt) u aZ I:=.inr<|dj aO C aq af
theorem ss (C:I a=Y (.fQ ce))(aq:ce.length<=c5)(af:∀D,Upd I D a (.fQ<|hi w u ce)->aZ D):sO (.ref a) (.str w) u aZ I:=(dj ce C aq af)
theorem ie {cm:O}{b:Bool}(C:I a=Y cm)(an:Ge cm ar b)(af:ad (.bool<|cL^^b) I):nw cL ar (.ref a) ad I:=(eV cm b C an af)
noncomputable def cf:eW:=⟨xB,wU⟩
abbrev f5:bq:=aR<|.int 1
abbrev du:bq:=λR=>cJ<|bi 0 R
abbrev ei:bq:=aR<|.int 0
abbrev df:bq:=dS qu em
abbrev a7:bq:=bi 0
abbrev d6:bq:=bV hA
abbrev fa:bq:=λR=>bi 1<|bi 2 R
abbrev fR:bq:=aR .none
abbrev ia:bq:=λR=>aR (.str "rows")<|d6 R
abbrev di:bq:=bV e5
abbrev iV:bq:=λR=>a7<|c0 "gap_start" R
abbrev bE:bq:=bi 1
abbrev dR:bq:=bV oC
abbrev sf:bq:=λR=>dE "current"<|eS em R
abbrev ep:bq:=eS fJ
abbrev c2:bq:=eS fj
abbrev jg:bq:=λR=>a7<|c0 "gap_end" R
abbrev kf:bq:=λR=>aR (.int 32)<|gj em R
abbrev kg:bq:=λR=>a7<|c0 "tab_width" R
abbrev h2:bq:=λR=>f8<|oo true false R
abbrev h3:bq:=λR=>f8<|oo false true R
abbrev bN:bq:=bi 2
abbrev kh:bq:=λR=>a7<|c0 "cells" R
abbrev kH:bq:=aR<|.ref 1332
abbrev h4:bq:=c0 "rows"
abbrev b8:bq:=bi 3
abbrev fh:bq:=λR=>f5<|dR R
abbrev gi:bq:=eS mI
abbrev ln:bq:=c0 "position"
abbrev ez:bq:=bV oEq
abbrev cb:bq:=bi 4
abbrev jJ:bq:=c0 "point"
abbrev jh:bq:=op "list"
abbrev jK:bq:=λR=>f5<|d6 R
abbrev e0:bq:=eS em
abbrev f6:bq:=λR=>fR<|a7 R
abbrev ji:bq:=λR=>fR<|bV oB R
abbrev jL:bq:=λR=>ei<|d6 R
abbrev iA:bq:=λR=>du<|fa R
abbrev mj:bq:=aR<|.int 10
abbrev lp:bq:=c0 "first"
abbrev gU:bq:=λR=>bE<|a7 R
abbrev gV:bq:=λR=>f5<|di R
abbrev pl:bq:=λR=>aR (.ref 598)<|iA R
abbrev pm:bq:=λR=>aR (.ref 619)<|du R
abbrev qB:bq:=λR=>du<|c0 "registers" R
abbrev kI:bq:=λR=>fR<|bV sN R
abbrev oi:bq:=c0 "markers"
abbrev lq:bq:=c0 "last"
abbrev oj:bq:=aR<|.ref 453
abbrev ol:bq:=aR<|.ref 481
abbrev dd:bq:=bi 5
abbrev gJ:bq:=gj mH
abbrev om:bq:=aR<|.bool false
abbrev h5:bq:=λR=>du<|bE R
abbrev h6:bq:=λR=>df<|di R
abbrev sg:bq:=λR=>aR (.str "kept")<|d6 R
abbrev lr:bq:=dS rR fj
abbrev sh:bq:=aR<|.str "number"
abbrev FR:bq:=λR=>aR (.str "user-error")<|aR (.str "Register does not contain text") R
abbrev hH:bq:=eS nA
abbrev dg:bq:=bi 6
abbrev uk:bq:=aR<|.str "rectangle"
abbrev pn:bq:=λR=>f8<|oo true true R
abbrev h7:bq:=bV vc
abbrev h8:bq:=bV oLt
abbrev h9:bq:=bV nx
abbrev ul:bq:=aR<|.str "register"
abbrev jj:bq:=λR=>bN<|a7 R
abbrev jk:bq:=λR=>ep<|cq R
abbrev si:bq:=λR=>aR (.ref 446)<|du R
abbrev nk:bq:=dS qs fj
abbrev jM:bq:=λR=>cJ<|bE R
abbrev jN:bq:=λR=>b8<|gi R
abbrev jO:bq:=λR=>dd<|cb R
abbrev jP:bq:=λR=>bE<|jK R
abbrev qC:bq:=c0 "number"
abbrev iW:bq:=gX fj
abbrev um:bq:=aR<|.str "string"
abbrev gK:bq:=b2 4
abbrev sj:bq:=λR=>a7<|c0 "props" R
abbrev sk:bq:=λR=>aR (.int 2)<|d6 R
abbrev qD:bq:=dE "codes"
abbrev sl:bq:=c0 "buffers"
abbrev uo:bq:=aR<|.str "open"
abbrev uq:bq:=λR=>a7<|c0 "overlays" R
abbrev ml:bq:=λR=>du<|bi 7 R
abbrev sm:bq:=λR=>a7<|c0 "text" R
abbrev kJ:bq:=λR=>b8<|ep R
abbrev po:bq:=dS qv fj
abbrev ur:bq:=c0 "listeners"
abbrev so:bq:=aR<|.str ""
abbrev ut:bq:=λR=>aR (.ref 439)<|cJ R
abbrev qE:bq:=c0 "mark"
abbrev lu:bq:=λR=>bE<|jL R
abbrev uu:bq:=aR<|.ref 1346
abbrev uv:bq:=aR<|.ref 1382
abbrev sq:bq:=aR<|.int 3
abbrev sr:bq:=bV<|nw false
abbrev uw:bq:=aR<|.ref 324
abbrev uh:bq:=aR<|.ref 488
abbrev lm:bq:=gj em
abbrev ui:bq:=aR<|.ref 715
abbrev xD:bq:=aR<|.str "delete"
abbrev me:bq:=λR=>bN<|bE R
abbrev se:bq:=λR=>a7<|c0 "zv" R
abbrev mf:bq:=λR=>c2<|cq R
abbrev mh:bq:=λR=>bN<|ep R
abbrev mi:bq:=λR=>du<|sf R
abbrev uj:bq:=λR=>a7<|c0 "order" R
abbrev Cg:aP:=gU<|bQ "symbol"<|jj<|bQ "data" bM
abbrev Ci:aP:=gU<|bQ "number"<|jj<|bQ "advances"<|f6<|bQ "buffer"<|ei<|a7<|bQ "position" bM
abbrev Ck:aP:=mm<|a7<|bQ "rows" bM
abbrev Cn:aP:=a7<|h4<|dS rT em bC
abbrev Co:aP:=gU<|h4<|bE<|qC<|kL<|me<|bQ "position" bM
abbrev wn:aP:=cb<|ln<|bN<|di<|bE<|dR<|cb<|bQ "position" bM
abbrev Cm:aP:=a7<|dE "numbers"<|e0<|fA<|gv 5 (a7<|h4<|dd<|d6<|gK<|cb<|ln<|bE<|h7<|bv wn<|cb<|ln<|bE<|ez<|bv (b8<|bv wn<|cb<|c0 "advances"<|bv wn bM) bM) bM
abbrev Cj:aP:=a7<|dE "numbers"<|e0<|fA<|gv 4 (a7<|h4<|cb<|d6<|b2 3<|b8<|ln<|bN<|h7<|bv (b8<|ln<|me<|dR<|dR<|b8<|bQ "position" bM)<|b8<|ln<|bE<|h7<|bv (bE<|b8<|bQ "position" bM) bM) bM
abbrev Cp:aP:=a7<|dE "numbers"<|e0<|fA<|gv 5 (a7<|h4<|dd<|d6<|gK<|cb<|ln<|bN<|bV pD<|bv (cb<|ln<|b8<|di<|me<|dR<|dR<|cb<|bQ "position" bM)<|cb<|ln<|bE<|h7<|bv (bE<|cb<|bQ "position" bM) bM) bM
@[reducible] def tC:aP:=gU<|bQ "buffer"<|bE<|kI<|bv (ei<|a7<|bQ "position" bM)<|bE<|oi<|dE "put"<|a7<|bN<|f5<|lr<|bE<|dE "size"<|e0<|gV<|po<|ep<|cq bM
abbrev DS:aP:=a7<|c0 "buffer"<|ji<|bv (a7<|c0 "buffer"<|bE<|bV oB<|bv (a7<|c0 "buffer"<|oi<|dE "drop"<|a7<|c2<|cq tC) tC) tC
abbrev Ch:aP:=gU<|bQ "most"<|gJ<|a7<|bQ "markers"<|ei<|a7<|bQ "last" bM
abbrev BG:aP:=aR (.ref 212)<|du<|qE<|a7<|bE<|ep<|cq bM
abbrev DR:aP:=a7<|qE<|kI<|bv (aR (.ref 133)<|cJ<|ei<|om<|c2<|a7<|bQ "mark" BG) BG
abbrev CU:aP:=a7<|qE<|ji<|bv (a7<|qE<|c0 "buffer"<|fR<|bV oB bC)<|aR (.bool false) bC
abbrev DN:aP:=a7<|lq<|fh<|a7<|bQ "last"<|aR (.ref 133)<|du<|lq<|om<|c2<|b2 3<|aR (.ref 212)<|cJ<|b8<|fa<|jk<|bi 3 bC
abbrev BD:aP:=aR (.ref 240)<|cJ<|fa<|c2<|cq bM
abbrev DD:aP:=aR (.ref 247)<|jM<|e0<|bv (a7<|oi<|jh<|ei<|aR (.ref 254)<|h5<|bE<|qE<|ln<|ep<|dS tR fJ<|cq<|a7<|oi<|a7<|c0 "most"<|h2<|fA<|gv 3 (aR (.ref 212)<|cJ<|b8<|fR<|ei<|ep<|cq bM)<|a7<|oi<|a7<|c0 "most"<|h3<|a7<|bQ "markers" BD) BD
abbrev Da:aP:=a7<|aR (.ref 278)<|xF wX fj bC
abbrev Db:aP:=a7<|aR (.ext<|.type "str")<|dS (pb "str") fj bC
abbrev Dx:aP:=a7<|kI<|bv (aR (.int 1) bC)<|aR (.ref 296)<|du<|e0<|bv (f5<|nr bC)<|aR (.ref 289)<|du<|e0<|bv (a7<|c0 "number" bC)<|bi 0 bC
abbrev Du:aP:=a7<|c0 "is_read_only"<|bv fI bM
abbrev Dt:aP:=a7<|dE "size"<|e0<|bE<|di<|aR (.int 4194304)<|h7<|bv fI bM
abbrev DJ:aP:=fa<|po<|fa<|lr<|iW<|kj [3,4]<|cb<|a7<|c0 "begv"<|h8<|bv fI<|b8<|se<|h7<|bv fI<|cb<|b8<|gX fj bC
abbrev DX:aP:=a7<|ur<|dS m8 em<|fA<|gv 3 (b8<|dE "before_change"<|a7<|fa<|gi<|cq bM) bM
abbrev DY:aP:=a7<|dE "touch"<|aR (.bool true)<|mf<|a7<|ur<|dS m8 em<|fA<|gv 4 (cb<|dE "after_change"<|a7<|fa<|b8<|hH<|cq bM) bM
abbrev BI:aP:=sm<|dE "delete"<|bE<|fh<|bN<|fh<|ep<|b2 3<|se<|me<|dR<|dR<|a7<|bQ "zv"<|a7<|jJ<|bE<|h7<|bv (gU<|jJ<|me<|dR<|dR<|lr<|a7<|bQ "point"<|bi 3 bC)<|bi 3 bC
abbrev D3:aP:=a7<|c0 "undo"<|ji<|bv (a7<|c0 "undo"<|dE "text_goes"<|a7<|fa<|gi<|cq BI) BI
abbrev BH:aP:=sm<|dE "insert"<|bE<|fh<|bN<|jk<|se<|bN<|h6<|a7<|bQ "zv"<|a7<|jJ<|bE<|h7<|bv (a7<|jJ<|bN<|h6<|a7<|bQ "point" bM) bM
abbrev D1:aP:=a7<|c0 "undo"<|ji<|bv (a7<|c0 "undo"<|dE "text_comes"<|a7<|fa<|df<|gi<|cq BH) BH
abbrev Bi:aP:=uq<|ji<|bv (uq<|dE "text_gone"<|bE<|fh<|bN<|fh<|ep<|cq bM) bM
abbrev CX:aP:=sj<|ji<|bv (sj<|dE "text_gone"<|bE<|fh<|bN<|fh<|ep<|cq Bi) Bi
abbrev Bh:aP:=uq<|ji<|bv (uq<|dE "text_came"<|bE<|fh<|bN<|jN<|cq bM) bM
abbrev CW:aP:=sj<|ji<|bv (sj<|dE "text_came"<|bE<|fh<|mh<|cq Bh) Bh
@[reducible] def wv:aP:=a7<|oi<|dE "inserted"<|bE<|fa<|h6<|jN<|cq<|aR (.ref 366)<|iA<|df<|jN<|cq<|aR (.ref 338)<|h5<|fa<|h6<|ei<|gi<|cq bM
abbrev DF:aP:=aR (.ref 310)<|du<|e0<|cq<|uw<|h5<|bE<|jk<|bN<|df<|ei<|ez<|bv uB<|aR (.ref 317)<|du<|bN<|df<|mf<|aR (.ref 331)<|h5<|bE<|jk<|aR (.ref 352)<|iA<|jk<|cb<|bv (fa<|h6<|a7<|bQ "point" wv) wv
abbrev CZ:aP:=aR (.ref 373)<|iA<|b8<|om<|hH<|cq bM
abbrev CY:aP:=aR (.ref 373)<|du<|a7<|jJ<|fa<|aR (.bool true)<|hH<|cq bM
abbrev CD:aP:=aR (.ref 310)<|du<|e0<|cq<|uw<|iA<|ep<|gw [5,4]<|jO<|ez<|bv (gj mH bC)<|aR (.ref 331)<|du<|jO<|jk<|aR (.ref 345)<|du<|jO<|ep<|b2 3<|a7<|oi<|dE "deleted"<|jO<|jk<|aR (.ref 359)<|du<|jO<|jk<|aR (.ref 338)<|du<|dd<|jO<|dd<|dR<|gi<|cq<|bi 3 bC
abbrev BF:aP:=aR (.ref 338)<|ml<|bi 7<|b8<|h6<|dg<|bi 7<|dR<|gi<|cq<|bi 5 bC
@[reducible] def ww:aP:=a7<|oi<|dE "replaced"<|bi 7<|dg<|b8<|df<|gi<|cq<|aR (.ref 366)<|du<|dg<|b8<|df<|aR (.bool true)<|gi<|cq<|aR (.ref 359)<|ml<|dg<|jk<|cb<|ji<|bv (sj<|dE "put_rows"<|cb<|c2<|cq BF) BF
abbrev DL:aP:=aR (.ref 310)<|du<|e0<|cq<|uw<|iA<|ep<|gw [7,6]<|bi 7<|dg<|ez<|bv (aR (.ref 381)<|ml<|b8<|jk<|gj mH bC)<|b8<|df<|ei<|ez<|bv (aR (.ref 396)<|ml<|dg<|eS fJ bC)<|aR (.ref 317)<|du<|b8<|df<|dg<|bi 7<|dR<|dR<|mf<|a7<|jJ<|b2 8<|aR (.ref 331)<|ml<|dg<|jk<|aR (.ref 345)<|ml<|dg<|ep<|b2 5<|aR (.ref 352)<|ml<|b8<|jk<|bi 8<|dg<|bV pD<|bv (bi 8<|b8<|h6<|dg<|bi 7<|dR<|dR<|a7<|bQ "point" ww) ww
abbrev Dr:aP:=bE<|b2 2<|mn (jj<|dE "begin"<|e0<|h7<|bv (a7<|dE "code_at"<|bN<|fh<|c2<|mj<|bV i0<|bv (bN<|fh<|b2 2 bM) jl) jl)<|bi 2 bC
abbrev Dq:aP:=bE<|b2 2<|mn (jj<|dE "end"<|e0<|h8<|bv (a7<|dE "code_at"<|bN<|c2<|mj<|bV i0<|bv (bN<|gV<|b2 2 bM) jl) jl)<|bi 2 bC
abbrev D4:aP:=a7<|aR (.int 9)<|ez<|bv (bN<|fa<|bV oMod<|bV oC bC)<|a7<|aR (.int 32)<|h8<|bv (aR (.int 2) bC)<|a7<|aR (.int 127)<|ez<|bv (aR (.int 2) bC)<|aR (.int 127)<|a7<|uy oLt (aR (.int 160)<|h8<|bv (aR (.int 4) bC)<|aR (.int 1) bC)<|aR (.int 1) bC
abbrev Bg:aP:=so<|dE "join"<|bE<|sv<|c2<|dE "lstrip"<|aR (.str "0")<|c2<|bV e5 bC
abbrev Y0:aP:=bE<|jh<|b8<|dS cStr em<|op "str"<|aR (.int 4000)<|aR (.str "0")<|dS rS fJ<|nk<|cq bM
abbrev CT:aP:=mj<|aR (.int 4000)<|bV yL<|b2 2<|a7<|dS cAbs em<|bN<|h8<|bv (a7<|dS cStr em bC)<|gJ<|b2 1<|a7<|dS cAbs em<|gK<|mn (cb<|ei<|h7<|bv fI jl)<|a7<|ei<|h8<|bv (aR (.str "-") Bg)<|aR (.str "") Bg
abbrev Cy:aP:=a7<|aR (.ref 425)<|cJ<|gU<|mh<|bV e5 bC
abbrev Cx:aP:=ei<|gK<|a7<|bE<|h3<|fA<|gv 3 (ut<|cb<|b8<|mh<|b2 4 bM)<|bi 4 bC
abbrev DO:aP:=si<|a7<|df<|bE<|eS fJ bC
abbrev DC:aP:=ei<|b2 3<|a7<|df<|ki em<|gv 4 (b8<|bE<|bV pD<|bv (bi 4 bC)<|ut<|b8<|a7<|cb<|d6<|mh<|b2 3 bM)<|a7<|dS qu em bC
abbrev Dz:aP:=aR (.ref 460)<|iA<|ep<|b2 5<|dd<|ei<|ez<|bv (bi 0 bC)<|a7<|dd<|fh<|d6<|aR (.int 9)<|bV i0<|bv (bi 0 bC)<|si<|dd<|mh<|bE<|bV oLe<|bv (bi 0 bC)<|si<|dd<|fh<|mh<|b2 3<|si<|dd<|mh<|gK<|a7<|dd<|fh<|h3<|kf<|cb<|b8<|dR<|h9<|di<|a7<|dd<|h2<|bV e5 bC
abbrev DB:aP:=a7<|kf<|ei<|bE<|oj<|du<|bN<|c2<|dR<|lr<|h9<|bV e5 bC
abbrev CB:aP:=aR (.ref 467)<|iA<|ep<|gK<|aR (.ref 460)<|cJ<|cb<|fa<|ep<|b2 3<|cb<|b8<|h3<|cb<|b8<|h2<|gX fj bC
abbrev CC:aP:=ol<|du<|bN<|kJ<|gw [5,7]<|ol<|cJ<|dd<|bE<|kJ<|gw [4,6]<|cb<|dg<|bi 7<|gX fJ bC
abbrev DV:aP:=gJ<|b2 5<|bE<|b2 6<|a7<|fA<|gv 4 (ut<|dg<|cb<|mh<|b2 3<|cb<|aR (.int 9)<|ez<|bv (dd<|jh<|kf<|b8<|dg<|dR<|h9<|dS qt fj<|cq<|b8<|b2 6 bM)<|dd<|jh<|cb<|nk<|cq<|b8<|b2 6 bM)<|bi 5 bC
abbrev CS:aP:=uh<|iA<|jN<|gw [4,7,8]<|bE<|oj<|cJ<|cb<|b8<|c2<|lr<|b2 9<|bi 9<|b2 6<|bi 7<|fA<|gv 5 (ut<|dg<|dd<|kJ<|b2 6 bM)<|kf<|bi 9<|bE<|dR<|h9<|aR (.ref 495)<|cJ<|bi 7<|bi 9<|kJ<|di<|kf<|ei<|bN<|dg<|dR<|lr<|h9<|bV e5 bC
abbrev CQ:aP:=oj<|du<|b8<|c2<|bE<|bV oLe<|bv (bi 0 bC)<|uh<|iA<|jN<|gw [4,5,6]<|cb<|dg<|bV e5 bC
abbrev Cu:aP:=oj<|du<|b8<|c2<|bE<|bV oLe<|bv (bi 0 bC)<|uh<|iA<|jN<|gw [4,5,6]<|cb<|dg<|df<|ei<|h7<|bv (kf<|me<|dR<|h9<|dg<|di<|bV e5 bC)<|gJ<|bV e5 bC
abbrev DA:aP:=oj<|du<|b8<|c2<|bE<|bV oLe<|bv (bi 0 bC)<|ol<|h5<|kJ<|gw [4,5]<|cb<|kf<|me<|dR<|h9<|di<|dd<|bV e5 bC
abbrev DM:aP:=uh<|cJ<|aR (.ref 474)<|h5<|cb<|ep<|fa<|cb<|gi<|gw [5,6,7]<|dd<|b8<|di<|bi 7<|bV e5 bC
abbrev DG:aP:=ol<|cJ<|aR (.ref 474)<|h5<|kJ<|bE<|kJ<|gw [4,5]<|cb<|bN<|di<|dd<|bV e5 bC
@[reducible] def A8:aP:=b8<|jO<|h2<|bV e5 bC
abbrev A9:aP:=cb<|gV<|b2 4 bM
abbrev Cw:aP:=oj<|du<|bN<|c2<|bE<|bV oLe<|bv (bi 0 bC)<|ol<|iA<|ep<|gw [3,5]<|ei<|gK<|mn (cb<|dd<|df<|h8<|bv (jO<|d6<|aR (.int 32)<|ez<|bv A9<|jO<|d6<|aR (.int 9)<|ez<|bv A9 jl) jl) A8
abbrev Dw:aP:=aR (.ref 432)<|cJ<|jj<|h6<|e0<|df<|b2 7<|gJ<|gK<|a7<|df<|ki em<|gv 5 (aR (.ref 432)<|cJ<|bN<|dd<|di<|e0<|op "str"<|bi 7<|dS rS fj<|aR (.str " ")<|di<|b2 6<|cb<|jh<|aR (.ref 537)<|du<|dd<|d6<|bE<|dg<|fA<|hb [] (a7<|dS pc em bC)<|jN<|nk<|cq bM)<|bi 4 bC
abbrev Cr:aP:=gU<|bQ "low"<|jj<|bQ "high"<|b8<|a7<|bQ "rows"<|cb<|a7<|bQ "first"<|dd<|a7<|bQ "last" bM
abbrev DQ:aP:=gJ<|lm<|b2 2<|a7<|fA<|gv 1 (bE<|mj<|ez<|bv (bN<|jh<|gJ<|nk<|cq bM)<|bN<|bN<|df<|fh<|d6<|jh<|bE<|nk<|cq bM)<|bi 2 bC
@[reducible] def wx:aP:=bE<|jh<|a7<|bN<|d6<|dS qt fj<|cq bM
abbrev D2:aP:=gJ<|b2 1<|a7<|df<|ki em<|gv 2 (bN<|ei<|h7<|bv (bE<|jh<|mj<|nk<|cq wx) wx)<|bi 1 bC
abbrev Cz:aP:=aR (.ref 411)<|h5<|c2<|b2 3<|si<|qD<|b8<|bE<|ep<|bE<|b8<|dR<|bN<|eS fJ bC
abbrev DU:aP:=uw<|iA<|ep<|gw [7,8]<|aR (.ref 411)<|ml<|c2<|aR (.ref 418)<|du<|bi 8<|c2<|iW<|kj [5,6]<|aR (.ref 591)<|ml<|kJ<|aR (.ref 591)<|du<|bi 8<|kJ<|gj fj<|dS rT em<|gK<|aR (.ref 566)<|cJ<|dg<|dd<|aR (.ref 577)<|du<|qD<|dg<|dd<|ep<|e0<|cb<|jL<|cb<|jK<|eS nA bC
abbrev CA:aP:=ei<|b2 3<|mn (b8<|jj<|df<|bE<|df<|dS qv fJ<|h8<|bv (a7<|b8<|d6<|bE<|b8<|d6<|ez<|bv (b8<|gV<|b2 3 bM) jl) jl)<|bi 3 bC
abbrev DH:aP:=aR (.ref 605)<|cJ<|bN<|b8<|cb<|ep<|b2 6<|aR (.ref 605)<|cJ<|bN<|dg<|h2<|sv<|b8<|dg<|h2<|sv<|dd<|ep<|b2 7<|aR (.ref 404)<|h5<|dg<|di<|fa<|h6<|bi 7<|dR<|b8<|dg<|f8<|b8<|df<|bi 7<|dR<|pn<|gi<|cq bM
abbrev BE:aP:=bi 7<|fh<|b2 6 bM
abbrev DI:aP:=bE<|c0 "high"<|b2 6<|bN<|df<|fh<|f5<|nr<|f5<|nr<|ki fJ<|gv 9 (bE<|h4<|bi 9<|d6<|b2 8<|dg<|bi 8<|df<|dR<|b2 7<|bN<|bi 9<|d6<|bi 8<|bV i0<|bv (ol<|cJ<|bi 8<|bE<|lp<|cb<|ep<|jL<|df<|b2 5<|aR (.ref 612)<|ml<|bi 8<|bN<|bi 9<|d6<|dd<|ol<|cJ<|bi 8<|b8<|cb<|ep<|jK<|df<|eS Ht<|cq BE) BE) bM
abbrev CR:aP:=pl<|jN<|gK<|cb<|h4<|fA<|hb [4,3] (aR (.ref 502)<|h5<|lp<|bE<|lq<|bN<|eS mI bC) bC
abbrev CE:aP:=pl<|jN<|gK<|pm<|cb<|cb<|h4<|fA<|hb [4,3] (aR (.ref 509)<|h5<|lp<|bE<|lq<|bN<|eS mI bC)<|cb<|lq<|b8<|hH<|cq bM
abbrev Dc:aP:=aR (.ref 624)<|iA<|jN<|gK<|aR (.ref 629)<|iA<|jN<|cq<|bi 4 bC
abbrev Ct:aP:=pl<|jN<|gK<|pm<|cb<|cb<|h4<|fA<|hb [4,3] (aR (.ref 516)<|h5<|lp<|bE<|lq<|bN<|eS mI bC)<|cb<|lq<|b8<|hH<|cq bM
abbrev Dy:aP:=pl<|jN<|gK<|pm<|cb<|cb<|h4<|fA<|hb [4,3] (aR (.ref 523)<|h5<|lp<|bE<|lq<|bN<|eS mI bC)<|cb<|lp<|b8<|hH<|cq<|a7<|dE "goto"<|fa<|po<|c2<|cq bM
abbrev Cv:aP:=pl<|jN<|gK<|pm<|cb<|cb<|h4<|fA<|hb [4,3] (aR (.ref 544)<|h5<|lp<|bN<|eS fJ bC)<|cb<|lp<|b8<|hH<|cq bM
abbrev DW:aP:=pl<|cb<|gi<|b2 7<|bi 7<|h4<|fA<|hb [7,3,4] (aR (.ref 530)<|h5<|lp<|bE<|lq<|bN<|b8<|eS nA bC)<|b2 6<|pm<|bi 7<|dg<|bi 7<|lq<|cb<|hH<|cq<|ol<|cJ<|bi 7<|h4<|dg<|df<|fh<|d6<|bi 7<|lq<|cb<|ep<|jK<|df<|b2 5<|bi 7<|c0 "low"<|aR (.ref 584)<|cJ<|dg<|e0<|h6<|dd<|dR<|a7<|bQ "point" bM
abbrev Dv:aP:=pl<|cb<|gi<|b2 5<|pm<|dd<|aR (.ref 549)<|cJ<|dd<|h4<|dd<|lp<|b8<|cb<|gi<|dd<|lp<|cb<|hH<|cq bM
@[reducible] def BJ:aP:=bi 7<|b8<|h6<|aR (.ref 675)<|cJ<|jO<|fa<|gi<|di<|a7<|bQ "point" bM
abbrev BK:aP:=di<|b2 3 BJ
@[reducible] def BL:aP:=aR (.ref 584)<|cJ<|dd<|dd<|df<|fh<|h3<|e0<|dd<|df<|f5<|h7<|bv (mj<|gj em BK)<|gj mH BK
@[reducible] def wy:aP:=pm<|aR (.ref 566)<|cJ<|bi 7<|dg<|bi 9<|cb<|cb<|hH<|dd<|bi 8<|h3<|cb<|bN<|hH<|cq BL
@[reducible] def BM:aP:=bi 8<|bE<|df<|h8<|bv (aR (.ref 381)<|du<|dg<|mj<|lm<|aR (.ref 584)<|cJ<|dd<|bi 8<|h2<|e0<|di<|ep<|cq wy) wy
abbrev BN:aP:=b8<|cb<|a7<|d6<|dd<|eS mI bC
abbrev D5:aP:=bE<|df<|ei<|ez<|bv uB<|a7<|jJ<|b2 10<|aR (.ref 591)<|du<|bi 10<|mh<|gK<|aR (.ref 411)<|du<|bi 10<|c2<|b2 7<|aR (.ref 418)<|du<|bi 10<|c2<|b2 6<|bE<|df<|fh<|ki em<|gv 11 (dg<|se<|h8<|bv (aR (.ref 418)<|du<|dg<|gV<|c2<|b2 6 bM) bM)<|aR (.ref 577)<|du<|qD<|bi 7<|dg<|ep<|e0<|b2 9<|bi 9<|df<|b2 8<|bE<|df<|ki em<|hb [8,9,4,1,2] (aR (.ref 537)<|h5<|h8<|bv (jj<|bV hA BN)<|gj mH BN)<|b2 5 BM
abbrev Cs:aP:=a7<|a7<|df<|fh<|d6<|b2 5<|aR (.ref 682)<|cJ<|bN<|bN<|df<|fh<|d6<|bE<|kJ<|b2 7<|ei<|gK<|ei<|b2 6<|mn (cb<|dd<|df<|h8<|bv (dg<|bE<|bi 7<|di<|h8<|bv (cb<|gV<|gK<|oj<|cJ<|jO<|h3<|b8<|c2<|b2 6 bM) jl) jl)<|bi 4 bC
abbrev DP:aP:=oj<|cJ<|kf<|bE<|h9<|a7<|di<|bN<|c2<|bE<|bV oC bC
abbrev Cq:aP:=mm<|a7<|bQ "contents" bM
abbrev CV:aP:=a7<|c0 "contents"<|op "dict"<|bE<|fR<|dS tQ fJ bC
abbrev DE:aP:=jj<|c0 "contents"<|bE<|kL bM
abbrev DK:aP:=aR (.ref 722)<|h5<|uk<|bN<|fA<|hb [] (a7<|dS m8 em bC)<|iW<|ep<|cq bM
abbrev DZ:aP:=a7<|aR (.ext<|.type "str")<|dS (pb "str") fj<|bv (a7<|fA<|hb [] (a7<|dS pc em bC) bC)<|a7<|dS m8 em bC
abbrev BC:aP:=a7<|c0 "marks"<|bE<|bV hA bC
abbrev Ds:aP:=a7<|sl<|c0 "current"<|b2 1<|gU<|c0 "marks"<|bV (nw true)<|bv (aR (.ref 229)<|cJ<|aR (.int 16)<|e0<|a7<|c0 "marks"<|bE<|kL BC) BC
abbrev DT:aP:=a7<|aR (.ext<|.type "int")<|dS (pb "int") fj<|bv (ei<|a7<|uy oLe (aR (.int 4194304)<|h8<|bv (bi 0 bC) fI) fI) fI
abbrev Bb:aP:=jk<|bN<|dE "goto"<|jP<|kI<|bv (dd<|c2<|cq bM)<|cb<|c2<|cq bM
abbrev Bc:aP:=bN<|jJ<|gK<|aR (.ref 261)<|cJ<|aR (.ref 751)<|du<|e0<|bN<|jP<|kI<|bv (bi 4 Bb)<|bi 5 Bb
abbrev Bd:aP:=aR (.ref 739)<|qB<|lu<|bN<|om<|gi<|cq Bc
abbrev CK:aP:=ui<|qB<|aR (.ref 758)<|jM<|jL<|e0<|c2<|a7<|sf<|iW<|kj [2,3]<|bN<|jJ<|b2 5<|b8<|ji<|bv (b8<|jL<|uk<|ez<|bv (aR (.ref 668)<|cJ<|bN<|b8<|jK<|kg<|ep<|cq Bc) Bd) Bd
abbrev Ba:aP:=iW<|kj [2,4]<|bN<|mi<|jP<|bE<|sk<|kg<|gi<|b2 3<|aR (.ref 727)<|qB<|cb<|kJ<|cq bM
abbrev CI:aP:=aR (.ref 758)<|jM<|jL<|e0<|bE<|sq<|d6<|kI<|bv (aR (.ref 624) Ba)<|aR (.ref 636) Ba
abbrev CL:aP:=aR (.ref 624)<|mi<|lu<|jP<|kg<|gi<|a7<|bQ "rectangle"<|aR (.ref 629)<|mi<|lu<|jP<|kg<|gi<|cq bM
abbrev CH:aP:=aR (.ref 624)<|mi<|lu<|jP<|kg<|gi<|a7<|bQ "rectangle" bM
abbrev CJ:aP:=aR (.ref 629)<|mi<|lu<|jP<|kg<|gi<|cq bM
abbrev CP:aP:=a7<|sf<|b2 2<|aR (.ref 261)<|cJ<|aR (.ref 751)<|du<|e0<|bN<|bN<|jJ<|jk<|aR (.ref 668)<|cJ<|jj<|c0 "rectangle"<|kg<|ep<|cq bM
abbrev CN:aP:=aR (.ref 646)<|mi<|lu<|jP<|kg<|gi<|cq bM
abbrev CF:aP:=aR (.ref 641)<|mi<|lu<|jP<|kg<|gi<|cq bM
abbrev CG:aP:=aR (.ref 651)<|mi<|lu<|jP<|kg<|gi<|cq bM
abbrev CO:aP:=aR (.ref 656)<|mi<|lu<|jP<|aR (.ref 744)<|jM<|sk<|e0<|kg<|hH<|cq bM
@[reducible] def Be:aP:=aR (.ref 663)<|mi<|lu<|jP<|bN<|kg<|hH<|cq bM
abbrev Bf:aP:=b2 2 Be
abbrev CM:aP:=bE<|sk<|kI<|bv (aR (.int 1) Bf)<|aR (.ref 303)<|jM<|sk<|eS em Bf
abbrev Cb:aP:=jj<|bQ "room"<|bE<|dS m8 em<|ei<|lm<|bN<|h9<|di<|a7<|bQ "cells"<|bE<|df<|a7<|bQ "gap_start"<|bE<|df<|bN<|di<|a7<|bQ "gap_end" bM
abbrev Ce:aP:=kh<|df<|jg<|dR<|iV<|bV e5 bC
abbrev B8:aP:=bE<|iV<|h8<|bv (kh<|bE<|bV hA bC)<|kh<|bE<|iV<|dR<|jg<|di<|bV hA bC
abbrev B9:aP:=jg<|iV<|dR<|b2 3<|bN<|iV<|bV oLe<|bv (kh<|bE<|f8<|bN<|f8<|oo true true bC)<|bE<|iV<|bV pD<|bv (kh<|bE<|b8<|di<|f8<|bN<|b8<|di<|f8<|oo true true bC)<|kh<|bE<|f8<|iV<|pn<|kh<|jg<|f8<|bN<|b8<|di<|pn<|bV e5 bC
abbrev A7:aP:=gU<|bQ "gap_start" bM
abbrev Cd:aP:=bE<|iV<|h8<|bv (kh<|bE<|f8<|iV<|pn<|b2 2<|bN<|kh<|jg<|bN<|df<|dR<|f8<|jg<|f8<|qH true true<|jg<|bN<|df<|dR<|a7<|bQ "gap_end" A7)<|kh<|jg<|f8<|jg<|bE<|di<|iV<|dR<|pn<|b2 2<|bN<|kh<|iV<|f8<|iV<|bN<|h6<|f8<|qH true true<|jg<|bN<|h6<|a7<|bQ "gap_end" A7
abbrev Cf:aP:=bE<|jg<|iV<|dR<|dR<|b2 2<|bN<|ei<|h7<|bv (ei<|lm<|jj<|c0 "room"<|di<|h9<|kh<|jg<|f8<|jg<|f8<|qH true true<|jg<|bN<|di<|a7<|c0 "room"<|di<|a7<|bQ "gap_end" bM) bM
abbrev Cc:aP:=a7<|dE "widen_gap"<|bN<|df<|mf<|a7<|dE "move_gap"<|bE<|mf<|bN<|kh<|bE<|f8<|fa<|h6<|f8<|qH true true<|fa<|h6<|a7<|bQ "gap_start" bM
@[reducible] def wm:aP:=jg<|bN<|di<|iV<|dR<|a7<|bQ "gap_end"<|gU<|bQ "gap_start"<|bi 3 bC
abbrev A6:aP:=bE<|iV<|h7<|bv (a7<|dE "move_gap"<|bE<|c2<|cq wm) wm
abbrev Ca:aP:=a7<|qD<|fa<|ep<|b2 3<|bN<|iV<|h8<|bv (a7<|dE "move_gap"<|bN<|c2<|cq A6) A6
abbrev B3:aP:=gU<|bQ "number"<|jj<|bQ "name"<|aR (.ref 922)<|cJ<|gJ<|b8<|c2<|a7<|bQ "text"<|aR (.ref 201)<|cJ<|eS mH<|a7<|bQ "markers"<|f5<|a7<|bQ "point"<|f5<|a7<|bQ "begv"<|f5<|a7<|bQ "zv"<|f6<|bQ "mark"<|aR (.bool true)<|a7<|bQ "is_live"<|om<|a7<|bQ "is_read_only"<|f5<|a7<|bQ "ticks"<|f5<|a7<|bQ "codes_ticks"<|f5<|a7<|bQ "saved_ticks"<|gJ<|a7<|bQ "listeners"<|f6<|bQ "undo"<|f6<|bQ "props"<|f6<|bQ "overlays"<|f6<|bQ "locals"<|f6<|bQ "syntax"<|f6<|bQ "file" bM
abbrev BY:aP:=a7<|c0 "begv" bC
abbrev B1:aP:=a7<|c0 "zv" bC
abbrev B4:aP:=sm<|dE "size"<|eS em bC
abbrev BZ:aP:=gU<|c0 "begv"<|h8<|bv (f5<|nr bC)<|gU<|c0 "zv"<|bV pD<|bv (f5<|nr bC)<|sm<|dE "code"<|bE<|fh<|eS fj bC
abbrev B0:aP:=sm<|qD<|bE<|fh<|bN<|fh<|eS fJ bC
abbrev B2:aP:=gU<|c0 "begv"<|lr<|se<|po<|a7<|bQ "point"<|a7<|c0 "point" bC
abbrev B5:aP:=a7<|c0 "ticks"<|gV<|a7<|bQ "ticks"<|bE<|bv (a7<|c0 "ticks"<|a7<|bQ "codes_ticks" bM) bM
abbrev BV:aP:=mm<|a7<|bQ "rows"<|gJ<|a7<|bQ "order"<|ei<|a7<|bQ "current"<|ei<|a7<|bQ "last_number"<|ei<|a7<|bQ "last_marker"<|gJ<|a7<|bQ "listeners" bM
abbrev BS:aP:=a7<|h4<|op "dict"<|bE<|dS tQ fj bC
abbrev BR:aP:=uj<|fA<|gv 2 (a7<|h4<|bN<|d6<|c0 "name"<|bE<|ez<|bv (a7<|h4<|bN<|bV hA bC) bM)<|aR .none bC
abbrev BU:aP:=bE<|so<|ez<|bv fI<|a7<|dE "by_name"<|bE<|c2<|ji<|bv fI<|a7<|c0 "last_number"<|gV<|a7<|bQ "last_number"<|aR (.ref 1028)<|du<|c0 "last_number"<|bE<|c2<|b2 2<|bN<|ur<|jh<|a7<|ur<|dS qt fj<|cq<|jj<|h4<|bN<|qC<|kL<|uj<|jh<|bN<|qC<|nk<|cq<|bi 2 bC
abbrev BW:aP:=a7<|dE "set_current"<|bE<|mf<|uj<|jh<|bE<|qC<|dS wY fj<|cq<|uj<|jh<|ei<|bE<|qC<|dS tR fJ<|cq bM
abbrev BX:aP:=bE<|c0 "is_live"<|bv (bE<|qC<|a7<|bQ "current" bM) fI
abbrev BQ:aP:=so<|a7<|bQ "sort"<|ei<|a7<|bQ "many" bM
abbrev B7:aP:=gU<|bQ "buffers"<|jj<|bQ "commands"<|b8<|a7<|bQ "global_map"<|mm<|a7<|bQ "local_maps"<|gJ<|a7<|bQ "minor_maps"<|f6<|bQ "question_map"<|f6<|bQ "questions"<|f6<|bQ "asker"<|f6<|bQ "kills"<|f6<|bQ "registers"<|f6<|bQ "abbrevs"<|f6<|bQ "windows"<|f6<|bQ "files"<|f6<|bQ "machine"<|f6<|bQ "rules"<|f6<|bQ "further"<|f6<|bQ "matches"<|f6<|bQ "loop"<|mm<|a7<|bQ "goals"<|mm<|a7<|bQ "undoing"<|mm<|a7<|bQ "marks"<|aR (.ref 1153)<|cJ<|eS mH<|a7<|bQ "amalgam"<|so<|a7<|bQ "message"<|om<|a7<|bQ "is_echo_old"<|om<|a7<|bQ "is_shifting"<|f6<|bQ "signal_text"<|f6<|bQ "panes"<|f6<|bQ "modes"<|aR (.int 70)<|a7<|bQ "fill_column"<|aR (.int 8)<|a7<|bQ "tab_width"<|gJ<|a7<|bQ "rectangle"<|f6<|bQ "last_expansion"<|f6<|bQ "replacing" bM
abbrev B6:aP:=a7<|sl<|dE "by_number"<|a7<|sl<|c0 "current"<|eS fj bC
abbrev Dg:aP:=a7<|jK<|gV<|a7<|f5<|kL<|a7<|jK<|a7<|jL<|df<|bV oLe<|bv (a7<|jL<|a7<|jK<|fh<|d6<|bE<|bV oMod bC)<|a7<|jK<|a7<|jK<|h9<|aR (.int 31)<|h9<|aR (.int 17)<|a7<|jK<|h9<|di<|aR (.int 5)<|a7<|jL<|df<|h9<|di<|aR (.int 7)<|bV oDiv<|bE<|bV oMod bC
abbrev Dp:aP:=a7<|jL<|dS m8 em<|b2 1<|a7<|f5<|h2<|fA<|gv 2 (bE<|mj<|lm<|di<|bN<|di<|b2 1 bM)<|bi 1 bC
abbrev Do:aP:=ei<|b2 2<|mn (gU<|bN<|d6<|df<|h7<|bv (gU<|bN<|d6<|df<|dR<|fh<|b2 1<|bN<|gV<|b2 2 bM) jl)<|me<|gX fj bC
abbrev Dk:aP:=a7<|bE<|h3<|fA<|hb [] (a7<|df<|f5<|bV e5 bC)<|dS wZ em<|bN<|bV e5 bC
abbrev Df:aP:=uu<|iA<|po<|c2<|gw [6,4]<|uu<|iA<|lr<|c2<|gw [3,5]<|dg<|b8<|cb<|dd<|po<|cb<|dd<|lr<|gX mI bC
abbrev Di:aP:=bE<|gw [5,2,3,4]<|a7<|dd<|f8<|bN<|gV<|pn<|fA<|hb [3,4] (a7<|bE<|f8<|bN<|pn<|kf<|me<|dR<|h9<|di<|me<|dR<|f8<|oo false true bC) bC
abbrev Dh:aP:=a7<|kf<|ei<|gU<|df<|dR<|lr<|h9<|bV e5 bC
@[reducible] def BA:aP:=a7<|uo<|ez<|bv (fa<|h3<|kf<|b8<|bN<|dR<|h9<|di<|fa<|h2<|bV e5 bC)<|a7<|aR (.str "clear")<|ez<|bv (fa<|h3<|bE<|df<|b8<|h7<|bv (kf<|b8<|bN<|dR<|h9<|bE<|b8<|h2<|di<|bV e5 bC)<|gJ<|bV e5 bC)<|a7<|aR (.str "close")<|ez<|bv (fa<|h2<|b2 5<|mn (dd<|f5<|h3<|kf<|ez<|bv (dd<|f5<|h2<|b2 5 bM) jl)<|fa<|h3<|dd<|bV e5 bC)<|fa<|h3<|bE<|b8<|h2<|bV e5 bC
abbrev BB:aP:=h2<|bV e5 bC
abbrev Dn:aP:=a7<|um<|sh<|iW<|sr<|bv (aR (.ref 1370)<|cJ<|fa<|c2<|bN<|h3<|cb<|di<|gU<|um<|ez<|bv (bi 3 BB)<|bi 2 BB)<|bE<|df<|bN<|bV oLe<|bv (bi 1 bC) BA
@[reducible] def wt:aP:=aR (.ref 1377)<|cJ<|gU<|ia<|bi 7<|d6<|dg<|bi 8<|b8<|hH<|a7<|ia<|bi 7<|kL bM
abbrev De:aP:=bN<|gw [9,5,6,8]<|cb<|dd<|di<|bi 9<|dR<|gV<|dS cStr em<|df<|b2 10<|bi 9<|dd<|gV<|ki fj<|gv 7 (bE<|sh<|ez<|bv (cb<|bi 7<|di<|bi 9<|dR<|dS cStr em<|op "str"<|bi 10<|dS rS fj<|aR (.str " ")<|di<|fA<|hb [] (a7<|dS pc em bC)<|b2 3 wt) wt) bM
@[reducible] def Bz:aP:=bE<|gJ<|ez<|bv (bi 2 bC)<|aR (.ref 1351)<|du<|ia<|dd<|bE<|h6<|fh<|b8<|bE<|f5<|nr<|d6<|h6<|eS fJ bC
@[reducible] def wu:aP:=aR (.ref 1370)<|du<|ia<|jO<|di<|d6<|b8<|c2<|b2 6<|dg<|b8<|h3<|bi 7<|di<|dg<|b8<|h2<|di<|a7<|ia<|jO<|di<|kL bM
abbrev Dl:aP:=uu<|du<|ia<|bN<|c2<|gw [5,3]<|bE<|xG 4 7 (jO<|di<|a7<|ia<|df<|ez<|bv (a7<|ia<|jh<|gJ<|nk<|cq wu) wu) Bz
abbrev Dm:aP:=gU<|sg<|bV (nw true)<|bv (bN<|fR<|FR<|lm<|gj fj<|gX fJ bC)<|aR (.ref 1389)<|du<|a7<|sg<|bE<|d6<|mh<|gK<|b8<|kI<|bv (bN<|cb<|fR<|gX fJ bC)<|cb<|bN<|fR<|gX fJ bC
abbrev Br:aP:=fR<|fR<|gX nA bC
@[reducible] def ws:aP:=aR (.ref 786)<|aR (.ref 779)<|aR (.ref 793)<|aR (.ref 807)<|aR (.ref 814)<|aR (.ref 821)<|uA ["copy","kill","delete","open","clear","close"] Ht<|b2 7<|bi 7<|bN<|d6<|bi 9<|bi 10<|gj fj<|bN<|uo<|ez<|bv (bi 9<|f5<|bV oC Br)<|aR .none Br
@[reducible] def Bw:aP:=aR (.ref 835)<|bi 9<|bi 10<|bi 15<|gj fJ<|fR<|fR<|fR<|gX nA bC
abbrev Bx:aP:=hH<|cq Bw
@[reducible] def Bs:aP:=bN<|um<|ez<|bv (so<|aR (.str "x")<|aR (.str "yz")<|gj fJ<|kH<|du<|sq<|c2<|d6<|b2 17<|uv<|cJ<|fa<|dg<|bi 17<|fA<|hb [] (a7<|dS pc em bC)<|ei<|hH<|cq<|aR (.ref 1351)<|jM<|ia<|dg<|jK<|dg<|sk<|bi 17<|h6<|ep<|b2 14<|aR (.ref 828)<|bi 9<|bi 10<|bi 17<|gj fJ<|bi 14<|fR<|fR<|gX nA bC)<|bN<|sh<|ez<|bv (uv<|cJ<|fa<|dg<|gJ<|bi 15<|kI<|bv (aR (.int 1) Bx)<|bi 15 Bx)<|bN<|uo<|aR (.str "clear")<|aR (.str "close")<|gX fJ<|sr<|bv (uv<|cJ<|fa<|dg<|gJ<|ei<|hH<|cq ws) ws
@[reducible] def rL:aP:=bN<|ul<|ez<|bv (aR (.ref 772)<|bi 16<|bi 9<|bi 10<|bi 15<|gj mI<|fR<|fR<|fR<|gX nA bC) Bs
abbrev Bt:aP:=uv<|jM<|xD<|dg<|gJ<|ei<|hH<|cq rL
abbrev Bu:aP:=bN<|aR (.str "kill")<|xD<|iW<|sr<|bv Bt<|bN<|ul<|ez<|bv (bi 15<|ji<|bv Bt rL) rL
abbrev Bv:aP:=bN<|ul<|ez<|bv (aR (.ref 1363)<|jM<|ia<|dg<|c2<|bE<|sg<|bi 16<|kL Bu) Bu
@[reducible] def kA:aP:=bN<|aR (.str "yank")<|ez<|bv (aR (.ref 1389)<|jM<|bE<|aR (.str "last")<|d6<|kJ<|b2 5<|aR (.ref 800)<|gJ<|dd<|b8<|fR<|gX nA bC)<|bN<|aR (.str "insert")<|ez<|bv (aR (.ref 1396)<|jM<|bi 16<|b8<|bi 15<|gi<|gw [14,11,8]<|aR (.ref 765)<|bi 16<|bi 15<|gj fj<|bi 14<|bi 11<|bi 8<|gX nA bC)<|bN<|aR (.str "copy")<|aR (.str "kill")<|iW<|sr<|bv (aR (.ref 1363)<|jM<|ia<|dg<|c2<|bE<|aR (.str "last")<|kL Bv) Bv
abbrev Dd:aP:=kH<|du<|cb<|gV<|c2<|kH<|du<|cb<|gV<|c2<|fR<|aR (.int 4)<|sq<|nr<|gj fJ<|kH<|du<|sq<|c2<|d6<|gX fJ<|kj [15,13,12]<|aR (.ref 1358)<|jM<|ia<|bi 12<|bi 13<|ep<|aR (.int 97)<|kH<|du<|aR (.int 2)<|c2<|di<|iW<|kj [16,6]<|bi 12<|bi 13<|po<|gV<|bi 12<|bi 13<|lr<|gV<|iW<|kj [10,9] kA
abbrev By:aP:=ui<|qB<|cb<|c2<|b8<|bV i0<|bv (aR (.bool false) bC) bM
abbrev Dj:aP:=a7<|sf<|b2 2<|bN<|qD<|f5<|bN<|dE "size"<|e0<|gV<|ep<|aR (.ref 1339)<|jM<|ia<|e0<|bV i0<|bv (aR (.bool false) bC)<|a7<|c0 "rectangle"<|bE<|aR (.str "last")<|d6<|bV i0<|bv (aR (.bool false) bC)<|aR (.int 97)<|aR (.int 98)<|iW<|fA<|gv 4 (cb<|bE<|sg<|sr<|bv (uk<|bE<|sg<|cb<|d6<|iW<|b2 3 By)<|fR<|b2 3 By)<|aR (.bool true) bC
noncomputable def zH:List aP:=[Cg,Ci,Ck,Cn,Co,Cm,Cj,Cp,DS,Ch,DR,CU,DN,DD,Da,Db,Dx,Du,Dt,DJ,DX,DY,D3,D1,CX,CW,DF,CZ,CY,CD,DL,Dr,Dq,D4,CT,Cy,Cx,DO,DC,Dz,DB,CB,CC,DV,CS,CQ,Cu,DA,DM,DG,Cw,Dw,Cr,DQ,D2,Cz,DU,CA,DH,DI,CR,CE,Dc,Ct,Dy,Cv,DW,Dv,D5,Cs,DP,Cq,CV,DE,DK,DZ,Ds,DT,CI,CL,CH,CJ,CP,CN,CF,CG,CO,CM,Cb,Ce,B8,B9,Cd,Cf,Cc,Ca,B3,BY,B1,B4,BZ,B0,B2,B5,BV,BS,BR,BU,BW,BX,BQ,B7,B6,Dg,Dp,Do,Dk,Df,Di,Dh,Dn,De,Dl,Dm,Dd,Dj,CK]
theorem GI {P:Str->av->Prop}{h:List (Str×av)}(C:fY (λp=>P p.1 p.2) h)(e:h.lookup w=Y aB):P w aB:=by
 induction C with
 |nil=>exact bX e
 |@cons p h aP bd B=>
  unfold List.lookup at e;cases X:(w==p.1) with
  |true=>replace e:=X▸e;refine J (eq_of_beq X) ?_;exact(Y.inj e)▸aP
  |false=>replace e:=X▸e;exact B e
theorem EZ {P:Str->Prop}(C:fY P nm)(e:nm.contains w=true):P w:=by
 induction C with
 |nil=>exact kc e
 |cons aP bd B=>
  rw[Jk,AP] at e;rcases e with e|e
  ·exact J (eq_of_beq e) aP
  ·exact B e
theorem Ry (H:ba c):fG c cf:=⟨H.ok,GI (P:=n2 c) H.gl.sp.1,EZ (P:=qk c) H.ff.sp.1⟩
variable{bl:V}
variable{bP:V}
variable{bq:V}
section
theorem Ej {f:av->fm}{d:av}:∀(l:List av) (i:Nat),eX (f d) (l.map f) i=f (eX d l i)
 |[],_=>rfl
 |_::_,0=>rfl
 |_::l,i+1=>Ej l i
def wf (r:mY):aP:=IE cf r.s r.nm r.b bM
theorem WS:ix.map wf=zH:=by kernel_rfl
theorem q5:fY (λ(r:mY)=>vr r.s r.bB r.nm=true) (ix++iU):=qq (p:=λ(r:mY)=>vr r.s r.bB r.nm) (λ_ C=>C) (by kernel_rfl)
theorem bG (n:Nat)(ad:V->aI->Prop)(I:aI)(H:ba c)(i:Nat)(a:Addr)(ag:aP)(us ai:List V) (e:((eX f0 ix i).a,eX (wf f0) zH i,us.length+(eX f0 ix i).g8.length,us++(eX f0 ix i).g8++eb ((eX f0 ix i).nm.length -(eX f0 ix i).bB.length) .aD)=(a,ag,(eX f0 ix i).bB.length,ai)) (C:ag (d5 c n ad) ai [] I):bk c (n+1) (.ref a) us ad I:=by
 obtain⟨aK,e⟩:=tj.inj e;obtain⟨aR,e⟩:=tj.inj e;obtain⟨ap,m⟩:=tj.inj e;obtain⟨cR,P,hf⟩:=H.r i;have e:eX (wf f0) zH i=wf (eX f0 ix i):=by rw[<-WS];exact Ej (f:=wf) (d:=f0) ix i
 rw[<-aK];refine Pn H.ok hf (vt<|q5.sp.1.hK (d:=f0) q5.hd i) (KW (Ry H) _) P ap ?_;show wf (eX f0 ix i) (d5 c n ad) _ [] I;rw[<-e,aR,m];exact C
variable(H:ba c)
def Y9:=bG b ad I H 0 35 Cg [ar,aS,bl] [ar,aS,bl] (by kernel_rfl)
def LW {n:Nat}:=bG n ad I H 1 109 Ci [ar,aS,bl] [ar,aS,bl] (by kernel_rfl)
def LY {n:Nat}:=bG n ad I H 2 149 Ck [ar] [ar] (by kernel_rfl)
def L0 {n:Nat}:=bG n ad I H 3 156 Cn [ar] [ar] (by kernel_rfl)
def Ma {n:Nat}:=bG n ad I H 4 163 Co [ar,aS,bl] [ar,aS,bl] (by kernel_rfl)
def LZ {n:Nat}:=bG n ad I H 5 184 Cm [ar,aS,bl,bP] [ar,aS,bl,bP,.aD,.aD] (by kernel_rfl)
def LX {n:Nat}:=bG n ad I H 6 191 Cj [ar,aS,bl] [ar,aS,bl,.aD,.aD] (by kernel_rfl)
def Mb {n:Nat}:=bG n ad I H 7 198 Cp [ar,aS,bl,bP] [ar,aS,bl,bP,.aD,.aD] (by kernel_rfl)
def Ny {n:Nat}:=bG n ad I H 8 212 DS [ar,aS,bl] [ar,aS,bl] (by kernel_rfl)
def LV {n:Nat}:=bG n ad I H 9 226 Ch [ar,aS] [ar,aS] (by kernel_rfl)
def ED {n:Nat}:=bG n ad I H 10 240 DR [ar,aS] [ar,aS] (by kernel_rfl)
def EB {n:Nat}:=bG n ad I H 11 247 CU [ar] [ar] (by kernel_rfl)
def Nu {n:Nat}:=bG n ad I H 12 254 DN [ar,aS,bl] [ar,aS,bl,.aD] (by kernel_rfl)
def Ni {n:Nat}:=bG n ad I H 13 261 DD [ar,aS,bl] [ar,aS,bl,.aD] (by kernel_rfl)
def ML {n:Nat}:=bG n ad I H 14 289 Da [ar] [ar] (by kernel_rfl)
def MM {n:Nat}:=bG n ad I H 15 296 Db [ar] [ar] (by kernel_rfl)
def Nb {n:Nat}:=bG n ad I H 16 303 Dx [ar] [ar] (by kernel_rfl)
def M8 {n:Nat}:=bG n ad I H 17 310 Du [ar] [ar] (by kernel_rfl)
def M7 {n:Nat}:=bG n ad I H 18 317 Dt [ar,aS] [ar,aS] (by kernel_rfl)
def Np {n:Nat}:=bG n ad I H 19 324 DJ [ar,aS,bl] [ar,aS,bl,.aD,.aD] (by kernel_rfl)
def ND {n:Nat}:=bG n ad I H 20 331 DX [ar,aS,bl] [ar,aS,bl,.aD] (by kernel_rfl)
def NE {n:Nat}:=bG n ad I H 21 338 DY [ar,aS,bl,bP] [ar,aS,bl,bP,.aD] (by kernel_rfl)
def NI {n:Nat}:=bG n ad I H 22 345 D3 [ar,aS,bl] [ar,aS,bl,.aD] (by kernel_rfl)
def NG {n:Nat}:=bG n ad I H 23 352 D1 [ar,aS,bl] [ar,aS,bl] (by kernel_rfl)
def MI {n:Nat}:=bG n ad I H 24 359 CX [ar,aS,bl] [ar,aS,bl] (by kernel_rfl)
def MH {n:Nat}:=bG n ad I H 25 366 CW [ar,aS,bl,bP] [ar,aS,bl,bP] (by kernel_rfl)
def Nk {n:Nat}:=bG n ad I H 26 373 DF [ar,aS,bl,bP,bq] [ar,aS,bl,bP,bq] (by kernel_rfl)
def MK {n:Nat}:=bG n ad I H 27 381 CZ [ar,aS,bl] [ar,aS,bl,.bool false] (by kernel_rfl)
def MJ {n:Nat}:=bG n ad I H 28 389 CY [ar,aS] [ar,aS,.bool false] (by kernel_rfl)
def Mp {n:Nat}:=bG n ad I H 29 396 CD [ar,aS,bl] [ar,aS,bl,.aD,.aD,.aD] (by kernel_rfl)
def Nr {n:Nat}:=bG n ad I H 30 404 DL [ar,aS,bl,bP] [ar,aS,bl,bP,.none,.aD,.aD,.aD,.aD] (by kernel_rfl)
def M5 {n:Nat}:=bG n ad I H 31 411 Dr [ar,aS] [ar,aS,.aD] (by kernel_rfl)
def M4 {n:Nat}:=bG n ad I H 32 418 Dq [ar,aS] [ar,aS,.aD] (by kernel_rfl)
def NJ {n:Nat}:=bG n ad I H 33 425 D4 [ar,aS,bl] [ar,aS,bl] (by kernel_rfl)
def MF {n:Nat}:=bG n ad I H 34 432 CT [ar] [ar,.aD,.aD,.aD,.aD] (by kernel_rfl)
def Mk {n:Nat}:=bG n ad I H 35 439 Cy [ar,aS,bl] [ar,aS,bl] (by kernel_rfl)
def Mj {n:Nat}:=bG n ad I H 36 446 Cx [ar,aS,bl] [ar,aS,bl,.aD,.aD] (by kernel_rfl)
def Nv {n:Nat}:=bG n ad I H 37 453 DO [ar,aS] [ar,aS] (by kernel_rfl)
def Nh {n:Nat}:=bG n ad I H 38 460 DC [ar,aS,bl] [ar,aS,bl,.aD,.aD] (by kernel_rfl)
def Nd {n:Nat}:=bG n ad I H 39 467 Dz [ar,aS,bl] [ar,aS,bl,.aD,.aD,.aD] (by kernel_rfl)
def Ng {n:Nat}:=bG n ad I H 40 474 DB [ar,aS,bl] [ar,aS,bl] (by kernel_rfl)
def Mn {n:Nat}:=bG n ad I H 41 481 CB [ar,aS,bl] [ar,aS,bl,.aD,.aD] (by kernel_rfl)
def Mo {n:Nat}:=bG n ad I H 42 488 CC [ar,aS,bl,bP] [ar,aS,bl,bP,.aD,.aD,.aD,.aD] (by kernel_rfl)
def NB {n:Nat}:=bG n ad I H 43 495 DV [ar,aS,bl] [ar,aS,bl,.aD,.aD,.aD,.aD] (by kernel_rfl)
def ME {n:Nat}:=bG n ad I H 44 502 CS [ar,aS,bl,bP] [ar,aS,bl,bP,.aD,.aD,.aD,.aD,.aD,.aD] (by kernel_rfl)
def MC {n:Nat}:=bG n ad I H 45 509 CQ [ar,aS,bl,bP] [ar,aS,bl,bP,.aD,.aD,.aD] (by kernel_rfl)
def Mg {n:Nat}:=bG n ad I H 46 516 Cu [ar,aS,bl,bP] [ar,aS,bl,bP,.aD,.aD,.aD] (by kernel_rfl)
def Nf {n:Nat}:=bG n ad I H 47 523 DA [ar,aS,bl,bP] [ar,aS,bl,bP,.aD,.aD] (by kernel_rfl)
def Nt {n:Nat}:=bG n ad I H 48 530 DM [ar,aS,bl,bP,bq] [ar,aS,bl,bP,bq,.aD,.aD,.aD] (by kernel_rfl)
def Nl {n:Nat}:=bG n ad I H 49 537 DG [ar,aS,bl,bP] [ar,aS,bl,bP,.aD,.aD] (by kernel_rfl)
def Mi {n:Nat}:=bG n ad I H 50 544 Cw [ar,aS,bl] [ar,aS,bl,.aD,.aD,.aD] (by kernel_rfl)
def Na {n:Nat}:=bG n ad I H 51 549 Dw [ar,aS,bl,bP] [ar,aS,bl,bP,.aD,.aD,.aD,.aD] (by kernel_rfl)
def Md {n:Nat}:=bG n ad I H 52 563 Cr [ar,aS,bl,bP,bq,u] [ar,aS,bl,bP,bq,u] (by kernel_rfl)
def Nx {n:Nat}:=bG n ad I H 53 577 DQ [ar] [ar,.aD,.aD] (by kernel_rfl)
def NH {n:Nat}:=bG n ad I H 54 584 D2 [ar] [ar,.aD,.aD] (by kernel_rfl)
def Ml {n:Nat}:=bG n ad I H 55 591 Cz [ar,aS,bl] [ar,aS,bl,.aD] (by kernel_rfl)
def NA {n:Nat}:=bG n ad I H 56 598 DU [ar,aS,bl,bP] [ar,aS,bl,bP,.aD,.aD,.aD,.aD,.aD] (by kernel_rfl)
def Mm {n:Nat}:=bG n ad I H 57 605 CA [ar,aS,bl] [ar,aS,bl,.aD] (by kernel_rfl)
def Nm {n:Nat}:=bG n ad I H 58 612 DH [ar,aS,bl,bP,bq,u] [ar,aS,bl,bP,bq,u,.aD,.aD] (by kernel_rfl)
def Nn {n:Nat}:=bG n ad I H 59 619 DI [ar,aS,bl,bP,bq] [ar,aS,bl,bP,bq,.aD,.aD,.aD,.aD,.aD] (by kernel_rfl)
def MD {n:Nat}:=bG n ad I H 60 624 CR [ar,aS,bl,bP] [ar,aS,bl,bP,.aD] (by kernel_rfl)
def Mq {n:Nat}:=bG n ad I H 61 629 CE [ar,aS,bl,bP] [ar,aS,bl,bP,.aD] (by kernel_rfl)
def MN {n:Nat}:=bG n ad I H 62 636 Dc [ar,aS,bl,bP] [ar,aS,bl,bP,.aD] (by kernel_rfl)
def Mf {n:Nat}:=bG n ad I H 63 641 Ct [ar,aS,bl,bP] [ar,aS,bl,bP,.aD] (by kernel_rfl)
def Nc {n:Nat}:=bG n ad I H 64 646 Dy [ar,aS,bl,bP] [ar,aS,bl,bP,.aD] (by kernel_rfl)
def Mh {n:Nat}:=bG n ad I H 65 651 Cv [ar,aS,bl,bP] [ar,aS,bl,bP,.aD] (by kernel_rfl)
def NC {n:Nat}:=bG n ad I H 66 656 DW [ar,aS,bl,bP,bq] [ar,aS,bl,bP,bq,.aD,.aD,.aD] (by kernel_rfl)
def M9 {n:Nat}:=bG n ad I H 67 663 Dv [ar,aS,bl,bP,bq] [ar,aS,bl,bP,bq,.aD] (by kernel_rfl)
def EE {n:Nat}:=bG n ad I H 68 668 D5 [ar,aS,bl] [ar,aS,bl,.aD,.aD,.aD,.aD,.aD,.aD,.aD,.aD,.aD] (by kernel_rfl)
def Me {n:Nat}:=bG n ad I H 69 675 Cs [ar,aS,bl,bP] [ar,aS,bl,bP,.aD,.aD,.aD,.aD] (by kernel_rfl)
def Nw {n:Nat}:=bG n ad I H 70 682 DP [ar,aS,bl] [ar,aS,bl] (by kernel_rfl)
def Mc {n:Nat}:=bG n ad I H 71 701 Cq [ar] [ar] (by kernel_rfl)
def MG {n:Nat}:=bG n ad I H 72 715 CV [ar,aS] [ar,aS] (by kernel_rfl)
def Nj {n:Nat}:=bG n ad I H 73 722 DE [ar,aS,bl] [ar,aS,bl] (by kernel_rfl)
def Nq {n:Nat}:=bG n ad I H 74 727 DK [ar,aS,bl] [ar,aS,bl] (by kernel_rfl)
def NF {n:Nat}:=bG n ad I H 75 744 DZ [ar] [ar] (by kernel_rfl)
def M6 {n:Nat}:=bG n ad I H 76 751 Ds [ar] [ar,.aD] (by kernel_rfl)
def Nz {n:Nat}:=bG n ad I H 77 758 DT [ar] [ar] (by kernel_rfl)
def Mu {n:Nat}:=bG n ad I H 78 772 CI [ar,aS] [ar,aS,.aD,.aD,.aD] (by kernel_rfl)
def Mx {n:Nat}:=bG n ad I H 79 779 CL [ar,aS] [ar,aS] (by kernel_rfl)
def Mt {n:Nat}:=bG n ad I H 80 786 CH [ar,aS] [ar,aS] (by kernel_rfl)
def Mv {n:Nat}:=bG n ad I H 81 793 CJ [ar,aS] [ar,aS] (by kernel_rfl)
def MB {n:Nat}:=bG n ad I H 82 800 CP [ar,aS] [ar,aS,.aD] (by kernel_rfl)
def Mz {n:Nat}:=bG n ad I H 83 807 CN [ar,aS] [ar,aS] (by kernel_rfl)
def Mr {n:Nat}:=bG n ad I H 84 814 CF [ar,aS] [ar,aS] (by kernel_rfl)
def Ms {n:Nat}:=bG n ad I H 85 821 CG [ar,aS] [ar,aS] (by kernel_rfl)
def MA {n:Nat}:=bG n ad I H 86 828 CO [ar,aS] [ar,aS] (by kernel_rfl)
def My {n:Nat}:=bG n ad I H 87 835 CM [ar,aS] [ar,aS,.aD] (by kernel_rfl)
def LP {n:Nat}:=bG n ad I H 88 849 Cb [ar,aS,bl] [ar,aS,bl] (by kernel_rfl)
def LS {n:Nat}:=bG n ad I H 89 856 Ce [ar] [ar] (by kernel_rfl)
def LM {n:Nat}:=bG n ad I H 90 863 B8 [ar,aS] [ar,aS] (by kernel_rfl)
def LN {n:Nat}:=bG n ad I H 91 870 B9 [ar,aS,bl] [ar,aS,bl,.aD] (by kernel_rfl)
def LR {n:Nat}:=bG n ad I H 92 877 Cd [ar,aS] [ar,aS,.aD] (by kernel_rfl)
def LU {n:Nat}:=bG n ad I H 93 884 Cf [ar,aS] [ar,aS,.aD] (by kernel_rfl)
def LQ {n:Nat}:=bG n ad I H 94 891 Cc [ar,aS,bl] [ar,aS,bl] (by kernel_rfl)
def LO {n:Nat}:=bG n ad I H 95 898 Ca [ar,aS,bl] [ar,aS,bl,.aD] (by kernel_rfl)
def LI {n:Nat}:=bG n ad I H 96 941 B3 [ar,aS,bl] [ar,aS,bl,.int 8] (by kernel_rfl)
def LC {n:Nat}:=bG n ad I H 97 962 BY [ar] [ar] (by kernel_rfl)
def LG {n:Nat}:=bG n ad I H 98 969 B1 [ar] [ar] (by kernel_rfl)
def EA {n:Nat}:=bG n ad I H 99 976 B4 [ar] [ar] (by kernel_rfl)
def LD {n:Nat}:=bG n ad I H 100 983 BZ [ar,aS] [ar,aS] (by kernel_rfl)
def LF {n:Nat}:=bG n ad I H 101 990 B0 [ar,aS,bl] [ar,aS,bl] (by kernel_rfl)
def LH {n:Nat}:=bG n ad I H 102 997 B2 [ar,aS] [ar,aS] (by kernel_rfl)
def LJ {n:Nat}:=bG n ad I H 103 1025 B5 [ar,aS] [ar,aS] (by kernel_rfl)
def Lz {n:Nat}:=bG n ad I H 104 1044 BV [ar] [ar] (by kernel_rfl)
def Lx {n:Nat}:=bG n ad I H 105 1051 BS [ar,aS] [ar,aS] (by kernel_rfl)
def Lw {n:Nat}:=bG n ad I H 106 1058 BR [ar,aS] [ar,aS,.aD] (by kernel_rfl)
def Ly {n:Nat}:=bG n ad I H 107 1065 BU [ar,aS] [ar,aS,.aD] (by kernel_rfl)
def LA {n:Nat}:=bG n ad I H 108 1087 BW [ar,aS] [ar,aS] (by kernel_rfl)
def LB {n:Nat}:=bG n ad I H 109 1094 BX [ar,aS] [ar,aS] (by kernel_rfl)
def Lv {n:Nat}:=bG n ad I H 110 1150 BQ [ar] [ar] (by kernel_rfl)
def LL {n:Nat}:=bG n ad I H 111 1171 B7 [ar,aS,bl,bP] [ar,aS,bl,bP] (by kernel_rfl)
def LK {n:Nat}:=bG n ad I H 112 1178 B6 [ar] [ar] (by kernel_rfl)
def MS {n:Nat}:=bG n ad I H 113 1332 Dg [ar,aS] [ar,aS] (by kernel_rfl)
def M0 {n:Nat}:=bG n ad I H 114 1339 Dp [ar] [ar,.aD,.aD] (by kernel_rfl)
def MZ {n:Nat}:=bG n ad I H 115 1346 Do [ar,aS] [ar,aS,.aD] (by kernel_rfl)
def MW {n:Nat}:=bG n ad I H 116 1351 Dk [ar,aS,bl] [ar,aS,bl] (by kernel_rfl)
def MR {n:Nat}:=bG n ad I H 117 1358 Df [ar,aS,bl] [ar,aS,bl,.aD,.aD,.aD,.aD] (by kernel_rfl)
def MU {n:Nat}:=bG n ad I H 118 1363 Di [ar,aS] [ar,aS,.aD,.aD,.aD,.aD] (by kernel_rfl)
def MT {n:Nat}:=bG n ad I H 119 1370 Dh [ar,aS] [ar,aS] (by kernel_rfl)
def EC {n:Nat}:=bG n ad I H 120 1377 Dn [ar,aS,bl,bP,bq] [ar,aS,bl,bP,bq,.aD] (by kernel_rfl)
def MQ {n:Nat}:=bG n ad I H 121 1382 De [ar,aS,bl,bP,bq] [ar,aS,bl,bP,bq,.aD,.aD,.aD,.aD,.aD,.aD] (by kernel_rfl)
def MX {n:Nat}:=bG n ad I H 122 1389 Dl [ar,aS,bl] [ar,aS,bl,.aD,.aD,.aD,.aD,.aD] (by kernel_rfl)
def MY {n:Nat}:=bG n ad I H 123 1396 Dm [ar,aS,bl,bP] [ar,aS,bl,bP,.aD] (by kernel_rfl)
def MP {n:Nat}:=bG n ad I H 124 1401 Dd [ar,aS,bl,bP,bq] [ar,aS,bl,bP,bq,.aD,.aD,.aD,.aD,.aD,.aD,.aD,.aD,.aD,.aD,.aD,.aD,.aD] (by kernel_rfl)
def MV {n:Nat}:=bG n ad I H 125 1408 Dj [ar,aS] [ar,aS,.aD,.aD,.aD] (by kernel_rfl)
def Mw {n:Nat}:=bG n ad I H 126 765 CK [ar,aS] [ar,aS,.aD,.aD,.aD,.aD] (by kernel_rfl)
end
variable{a3:KK}
theorem lh (C:let r:=ai;gF a3 r us I):gF a3 ai us I:=C
theorem dN (C:b<=100000):b<=1000000:=a5 C (by decide)
noncomputable abbrev x8 (k:KK)(P:List V->aI->Prop)(R:aP):KK:=Gc k<|iC P<|mv k R []
def fM (E:av->List V)(P:av->aI->Prop)(ai:List V)(I:aI):Prop:=∃a,ai=E a/\P a I
theorem fM.mk {E:av->List V}{P:av->aI->Prop}(a:av)(C:P a I):fM E P (E a) I:=(bj a rfl C)
theorem uQ (E:Nat->av->List V)(P:Nat->av->aI->Prop){a:av}(e:ai=E 0 a)(h0:P 0 a I)(ap:∀k a I,P k a I->I ae=Y (.list us)) (U:∀k a I u,P k a I->us[k]?=Y u->B ((E k a).set i u) (iC (fM (E<|k+1)<|P<|k+1) dJ) I)(he:∀a I,P us.length a I->dJ .next (E us.length a) I):j7 (.list ae) i B dJ ai I:= ya (λk=>fM (E k)<|P k) (bj a e h0) (λk q I A=>a9 A λa q C=>ap k a I C) (λk q I u A aU=>a9 A λa e C=>e▸U k a I u C aU) λq I A=>a9 A λa e C=>e▸he a I C
theorem xY (E:Nat->av->List V)(P:Nat->av->aI->Prop){a:av}(e:ai=E 0 a)(h0:P 0 a I) (U:∀k a I,P k a I->k<cnt->B ((E k a).set i<|.int<|pt+st*k) (iC (fM (E<|k+1)<|P<|k+1) dJ) I)(he:∀a I,P cnt a I->dJ .next (E cnt a) I):j7 (.kT pt cnt st) i B dJ ai I:= u0 (λk=>fM (E k)<|P k) (bj a e h0) (λk q I A an=>a9 A λa e C=>e▸U k a I C an) λq I A=>a9 A λa e C=>e▸he a I C
def iP (E:av->List V)(P:av->Prop)(y:aI)(ai:List V)(I:aI):Prop:=∃a,ai=E a/\P a/\I=y
theorem iP.mk {E:av->List V}{P:av->Prop}(a:av)(C:P a):iP E P I (E a) I:=(dj a rfl C rfl)
theorem xX (E:Nat->av->List V)(P:Nat->av->Prop){a:av}(e:ai=E 0 a)(h0:P 0 a)(ap:I ae=Y (.list us)) (U:∀k a u,P k a->us[k]?=Y u->B ((E k a).set i u) (iC (iP (E<|k+1) (P<|k+1) I) dJ) I)(he:∀a,P us.length a->dJ .next (E us.length a) I):j7 (.list ae) i B dJ ai I:= ya (λk=>iP (E k) (P k) I) (dj a e h0 rfl) (λk q q A=>d8 A λa q q C=>C▸ap) (λk q q u A aU=>d8 A λa e C X=>e▸X▸U k a u C aU) λq q A=>d8 A λa e C X=>e▸X▸he a C
theorem RE (E:Nat->av->List V)(P:Nat->av->Prop)(e:ai=E 0 aB)(h0:P 0 aB) (U:∀k aB,P k aB->k<cnt->B ((E k aB).set i<|.int<|pt+st*k) (iC (iP (E<|k+1) (P<|k+1) I) dJ) I)(he:∀aB,P cnt aB->dJ .next (E cnt aB) I):j7 (.kT pt cnt st) i B dJ ai I:= u0 (λk=>iP (E k) (P k) I) (dj aB e h0 rfl) (λk q q A an=>d8 A λaB e C X=>e▸X▸U k aB C an) λq q A=>d8 A λaB e C X=>e▸X▸he aB C
variable{ag:aP}
theorem xZ (E:Nat->av->List V)(P:Nat->av->Prop){k:Nat}{a:av}(e:ai=E k a)(h0:P k a) (U:∀k a,P k a->gF (vF a3 (λai aN=>∃j,j<k/\iP (E j) (P j) I ai aN) ag us) (E k a) [] I):tA a3 gF ag us ai I:= (fv (λk=>iP (E k) (P k) I) k (dj a e h0 rfl) λk q q A=>d8 A λa e C X=>e▸X▸U k a C)
theorem Gk (E:Nat->av->List V)(P:Nat->av->aI->Prop){a:av}(e:ai=E 0 a)(h0:P 0 a I) (U:∀k a I,P k a I->k<cnt->B ((E k a).set i<|.int (k:Nat)) (iC (fM (E<|k+1)<|P<|k+1) dJ) I)(he:∀a I,P cnt a I->dJ .next (E cnt a) I):j7 (.kT 0 cnt 1) i B dJ ai I:= xY E P e h0 (λk a I C an=>by refine J (by rw[z8,pY]:(0:Int)+1*(k:Nat)=(k:Nat)) ?_;exact U k a I C an) he
theorem Gl (E:Nat->av->List V)(P:Nat->av->Prop){a:av}(e:ai=E 0 a)(h0:P 0 a) (U:∀k a,P k a->k<cnt->B ((E k a).set i<|.int (k:Nat)) (iC (iP (E<|k+1) (P<|k+1) I) dJ) I)(he:∀a,P cnt a->dJ .next (E cnt a) I):j7 (.kT 0 cnt 1) i B dJ ai I:= RE E P e h0 (λk a C an=>by refine J (by rw[z8,pY]:(0:Int)+1*(k:Nat)=(k:Nat)) ?_;exact U k a C an) he
theorem sX (ak:b<=100000)(C:af 0 b 1):mc [.int (b:Nat)]/\∃a cnt st,k8 [.int (b:Nat)] a cnt st/\af a cnt st:=vq (gb<|.bW (.g<|.k 100000)<|.c aa) (cK (.Lt (.c aa)<|.k 4611686018427387904) [.le aa<|.k 100000] ak) C
def D6 (N:Nat)(E:Nat->av->List V)(P:Nat->av->aI->Prop)(k:Nat)(ai:List V)(I:aI):Prop:=∃l a,k=N -l/\l<=N/\ai=E l a/\P l a I
def qo (N:Nat)(E:Nat->av->List V)(P:Nat->av->aI->Prop)(j:Nat)(ai:List V)(I:aI):Prop:=∃i,i<N -j/\D6 N E P i ai I
theorem qo.mk {E:Nat->av->List V}{P:Nat->av->aI->Prop}(a:av)(bu:j<b)(C:P (j+1) a I):qo b E P j (E (j+1) a) I:=(⟨_,(Yd bu<|tf j),_,a,rfl,bu,rfl,C⟩)
theorem x0 (N:Nat)(E:Nat->av->List V)(P:Nat->av->aI->Prop){a:av}(e:ai=E 0 a)(h0:P 0 a I) (U:∀j a I,j<=N->P j a I->gF (vF a3 (qo N E P j) ag us) (E j a) [] I):tA a3 gF ag us ai I:= (fv (D6 N E P) N (gd (0) a rfl (dU _) e h0) λk q I A=>cS A λj a bv bu bE C=>by subst bv bE;exact U j a I bu C)
theorem qX (C:u≠.aD)(aP:G):sM u G:=by cases u<;>first|exact aP|exact(C rfl).elim
theorem e7 (m:hX ae a cl ce Z I)(hd:fP c.K ae w=true)(aq:i7 (ce.length+1) 900=true)(af:let e:=bJ w u ce;∀D,hX ae a cl e Z D->aZ D): ∃ae cl ce,I a=Y (.inst ae cl)/\I cl=Y (.attrs ae ce)/\fP c.K ae w=true/\ce.length<900/\∀D,Upd I D cl (.attrs ae<|bJ w u ce)->aZ D:=(pQ ae cl ce m.fB m.id hd (mQ aq) λD k=>af D<|m.step k)
theorem gn (m:hX ae a cl ce Z I)(hd:fP c.K ae w=true)(aq:i7 (ce.length+1) 900=true)(af:let e:=bJ w u ce;∀D,(∀{b cm},I b=Y cm->cm≠.attrs ae ce->D b=Y cm)->hX ae a cl e Z D->aZ D): ∃ae cl ce,I a=Y (.inst ae cl)/\I cl=Y (.attrs ae ce)/\fP c.K ae w=true/\ce.length<900/\∀D,Upd I D cl (.attrs ae<|bJ w u ce)->aZ D:=(pQ ae cl ce m.fB m.id hd (mQ aq) λD k=>af D (λC n=>k.keep m.id C n)<|m.step k)
theorem hX.as {q:List (Str×V)}(m:hX ae a cl q Z I)(e:q=ce):hX ae a cl ce Z I:=e▸m
theorem hB {f:Src->aI->Prop}(C:I a=Y (.list us))(af:f (.list a) I):srcOf (.ref a) f I:=.inl<|bj us C af
theorem fu (aX:us.length=b)(aA:i7 b 1000=true)(af:∀a D,bF I D->I a=am->D a=Y (.list us)->aw a D):us.length<=c5/\∀a D,dI I D a (.list us)->aw a D:= ⟨cv<|by refine J aX ?_;exact aA,λa D b=>af a D b.ext b.1 b.at⟩
theorem kp (aX:us.length=b)(aA:i7 b 1000=true)(af:∀a D,bF I D->I a=am->D a=Y (.tup us)->aw a D):us.length<=c5/\∀a D,dI I D a (.tup us)->aw a D:= ⟨cv<|by refine J aX ?_;exact aA,λa D b=>af a D b.ext b.1 b.at⟩
theorem ps (C:I a=Y (.list<|br Q))(aU:Q[b]?=Y pt)(aq:Q.length<=1000000)(af:ad (.int pt) I):hA (.ref a) (.int b) ad I:=cU C (by refine J xL<|J aU ?_;rfl) (by refine J e1 ?_;exact cK (.lt aa<|.k 4611686018427387904) [.le aa<|.k 1000000] aq) af
theorem FZ {k:Nat}(C:I a=Y (.list<|br Q))(e:pt=k)(aU:Q[k]?=Y last)(aq:Q.length<=1000000)(af:ad (.int last) I):hA (.ref a) (.int pt) ad I:=by subst e;exact ps C aU aq af
theorem zt (C:Q.length<=100000):(br Q).length<=c5:=by refine J e1<|J eI ?_;exact cK (.le aa<|.k 16777216) [.le aa<|.k 100000] C
theorem sG {m:Int}(e:max pt last=m)(C:ad (.int m) I):rR [.int pt,.int last] ad I:=by subst e;exact C
theorem F1 {n:Nat}(C:Q.length<=1000000:=by lia):(br Q).length<2^62:=by refine J e1 ?_;exact cK (.lt aa<|.k 4611686018427387904) [.le aa<|.k 1000000] C
theorem qK (C:Q.length<=1000000:=by lia):(br Q).length<=c5:=by refine J e1<|J eI ?_;exact cK (.le aa<|.k 16777216) [.le aa<|.k 1000000] C
theorem Eb (C:I a=Y (.list us))(aq:us.length<=100001)(af:∀D,Upd I D a (.list<|us++[u])->ad .none D):qs [.ref a,u] ad I:=(dj _ C (by refine J eI ?_;exact cK (.le aa<|.k 16777216) [.le aa<|.k 100001] aq) af)
theorem Kc (C:I a=Y (.list<|br Q))(aq:Q.length<=1000000)(af:∀D,Upd I D a (.list<|br<|Q++[pt])->ad .none D):qs [.ref a,.int pt] ad I:= (dj _ C (qK aq) λD u=>af D<|by refine bm mq ?_;exact u)
theorem W1 (C:I a=Y (.list<|br Q))(aG:I ae=Y (.list<|br A))(aq:(Q++A).length<=1000000)(af:∀D,Upd I D a (.list<|br<|Q++A)->ad .none D):qt [.ref a,.ref ae] ad I:= (gd _ _ C aG (by refine bm bK<|J mq ?_;exact qK aq) λD u=>af D<|by refine bm mq ?_;exact u)
theorem Ea (C:I a=Y (.list<|br Q))(aq:Q.length<=100000)(af:∀D,Upd I D a (.list<|br<|Q++[pt])->ad .none D):(V.ref a).ty I=Y "list"/\qs [.ref a,.int pt] ad I:= (⟨(ty_list C),_,C,(zt aq),(λD u=>af D<|by refine bm mq ?_;exact u)⟩)
theorem jV {p:Prop}[Decidable p](aP:p)(C:G):hF (decide p) G bg:=db (λq=>C) λX=>(X aP).elim
theorem cr {p:Prop}[Decidable p](aP:¬ p)(C:bg):hF (decide p) G bg:=db (λX=>(aP X).elim) λq=>C
theorem up {k:Nat}(C:I ae=Y (.list<|br Q))(aq:Q.length<=1000000)(af:∀a D,bF I D->I a=am->D a=Y (.list<|br<|Q.take k)->aw a D):∃us,I ae=Y (.list us)/\us.length<=c5/\∀a D,dI I D a (.list<|cut am (Y (k:Int)) us)->aw a D:= oL C (qK aq) λa D n=>af a D n.ext n.1 (by exact J n.at<|J r1<|J uE rfl)
theorem kt {k:Nat}(C:I ae=Y (.list<|br Q))(aq:Q.length<=1000000)(af:∀a D,bF I D->I a=am->D a=Y (.list<|br<|Q.drop k)->aw a D):∃us,I ae=Y (.list us)/\us.length<=c5/\∀a D,dI I D a (.list<|cut (Y (k:Int)) am us)->aw a D:= oL C (qK aq) λa D n=>af a D n.ext n.1 (by exact J n.at<|J xf<|J xK rfl)
theorem eD {k:Nat}(C:pre.length<=b):(pre.take k).length<=b:=by refine J cF ?_;exact a5 (Jp ..) C
theorem q8 (C:b<=e):(pre.take b).length<=e:=by refine J cF ?_;exact a5 (nP ..) C
theorem eh {k:Nat}(C:pre.length<=b):(pre.drop k).length<=b:=by refine J dz ?_;exact a5 (j0 ..) C
variable{bG:List av}
theorem jc {n:Nat}(C:pre.length<=b)(aG:bG.length<=n):(pre++bG).length<=b+n:=by refine J bK ?_;exact nQ C aG
theorem hO (C:b<=e):(eb b aB).length<=e:=by refine J nK ?_;exact C
theorem jo (C:e<=l):e -b<=l:=a5 (j0 ..) C
theorem eC {bG:List Int}(C:I ae=Y (.list<|br Q))(aG:I cl=Y (.list<|br bG))(aK:Q.length<=e)(aA:bG.length<=b)(aq:i7 (e+b) 1000000=true)(af:∀e D,bF I D->I e=am->D e=Y (.list<|br<|Q++bG)->ad (.ref e) D):e5 (.ref ae) (.ref cl) ad I:= vk C aG (by refine J e1<|J e1<|J eI ?_;have:=mQ aq;lia) λe D n=>af e D n.ext n.1 (by exact J n.at<|J mq rfl)
theorem sJ (C:I ae=Y (.list [.int 32]))(ak: -100000<=pt)(ao:pt<=100000)(af:∀a D,bF I D->I a=am->D a=Y (.list<|br<|eb pt.toNat 32)->ad (.ref a) D):nx (.ref ae) (.int pt) ad I:= qT C (dW (.bW (.g<|.k 9223372036854775808) bh) [.bW (.g<|.k 100000) bh] ak) (dW (.Lt bh<|.k 9223372036854775808) [.bW bh<|.k 100000] ao) (by simp;exact dW (.bW bh<|.k 16777216) [.bW bh<|.k 100000] ao) λa D n=>af a D n.ext n.1 (by exact J n.at<|J Ih<|J F0 rfl)
theorem qU (C:I a=Y (.list [.int 32]))(ap:l<=100000)(hf:b<=100000)(af:∀a D,bF I D->I a=am->D a=Y (.list<|br<|eb (l -b) 32)->ad (.ref a) D):nx (.ref a) (.int<|(l:Int) -b) ad I:= sJ C (by exact bH (.bW (.g<|.k 100000)<|.s (.c aa)<|.c ab) [.le ab<|.k 100000] hf) (by exact bH (.bW (.s (.c aa)<|.c ab)<|.k 100000) [.le aa<|.k 100000] ap) (by refine J (by exact cn (.eq aa ab) [.fE aa<|.s (.c ah)<|.c az,.sub ab ah az] rfl rfl:((l:Int) -b).toNat=l -b) ?_;exact af)
theorem yH (C:I a=Y (.list [.int 32]))(ap:l<=100000)(af:∀a D,bF I D->I a=am->D a=Y (.list<|br<|eb (l -b) 32)->ad (.ref a) D):nx (.ref a) (.int<|max 0<|(l:Int) -(b:Nat)) ad I:= sJ C (by exact jQ (.bW (.g<|.k 100000) bh) [.qj bh b1<|.s (.c aa)<|.c ab] rfl) (by exact jQ (.bW bh<|.k 100000) [.le aa<|.k 100000,.qj bh b1<|.s (.c aa)<|.c ab] ap rfl) (by refine J (by exact uT (.eq aa ab) [.sub ab ah az,.fE aa bh,.qj bh b1<|.s (.c ah)<|.c az] rfl rfl rfl:(max 0<|(l:Int) -(b:Nat)).toNat=l -b) ?_;exact af)
theorem TM (C:I a=Y (.list [.int 32]))(ap:l<=50000)(af:∀a D,bF I D->I a=am->D a=Y (.list<|br<|eb l 32)->ad (.ref a) D):nx (.ref a) (.int (l:Nat)) ad I:=sJ C (gb<|.bW (.g<|.k 100000)<|.c aa) (cK (.bW (.c aa)<|.k 100000) [.le aa<|.k 50000] ap) af
theorem fd (C:b<=100000):b<2^62:=jY C (by decide)
theorem sU (C:0<b):(b:Int) -1=(b -1:Nat):=by exact bH (.Eq (.s (.c aa) aC)<|.c ab) [.lt b1 aa,.sub ab aa aC] C rfl
theorem xJ {k:Nat}(C:I a=Y (.list us))(e:pt=k)(aU:us[k]?=Y u)(aq:us.length<2^62)(af:ad u I):hA (.ref a) (.int pt) ad I:=by subst e;exact cU C aU aq af
theorem my {m:Nat}(C:I ae=Y (.list [.int pt]))(e:last=m)(hm:m<=1000000)(af:∀a D,bF I D->I a=am->D a=Y (.list<|br<|eb m pt)->ad (.ref a) D):nx (.ref ae) (.int last) ad I:= qT C (by exact mu (.bW (.g<|.k 9223372036854775808) bh) [.Eq bh<|.c aa] e) (by exact mu (.Lt bh<|.k 9223372036854775808) [.Eq bh<|.c aa,.le aa<|.k 1000000] e hm) (by refine J e ?_;refine(?_:1*m<=_);exact cK (.le (.m 1 aa)<|.k 16777216) [.le aa<|.k 1000000] hm) λa D n=>af a D n.ext n.1 (by exact J n.at<|J Ih<|J e<|J (XH _)<|J F0 rfl)
theorem lz (aU:u.plain)(C:G):sM u G:=by cases u<;>first|exact C|exact aU.elim
theorem Hi (aU:u.plain)(C:ad (.bool u.isNone) I):sN u .none ad I:=by refine J T4 ?_;exact yY aU C
theorem sT (aU:u.plain)(C:ad (.bool (!u.isNone)) I):oB u .none ad I:=by refine J T3 ?_;exact yY aU C
theorem EF (C:cL=true->G)(aG:cL=false->X):hF cL G X:=N9 C aG
theorem lf (C:G):hF true G X:=C
theorem kr {n:Int}(C:G):cY (.int n) G:=C
theorem UI (C:G):cY (.bool cL) G:=C
theorem dK (C:I a=Y (.list<|br Q))(aq:Q.length<=1000000)(af:ad (.int (Q.length:Nat)) I):qu [.ref a] ad I:=li C (F1 (n:=0) aq) (by refine J e1 ?_;exact af)
theorem i2 {m:Int}(e:pt -last=m)(C:ad (.int m) I):oC (.int pt) (.int last) ad I:=by subst e;exact C
theorem tG {m:Int}(e:pt+last=m)(C:ad (.int m) I):e5 (.int pt) (.int last) ad I:=by subst e;exact C
theorem u4 {m:Int}(e:min pt last=m)(C:ad (.int m) I):qv [.int pt,.int last] ad I:=by subst e;exact C
theorem l5:pt+1 -1=pt:=As ..
theorem pE (C:e<=b):(e:Int)+1<=(b+1:Nat):=dL.mpr<|hR C
theorem ox (C:e<=b):(e:Int)+1<=(b:Int)+1:=dL.mpr<|hR C
theorem one_le:(1:Int)<=(b:Int)+1:=dL.mpr<|hR<|dU b
theorem Iv (C:I ae=Y (.list<|br Q))(aq:Q.length<=1000000)(af:∀a D,bF I D->I a=am->D a=Y (.list<|br Q.reverse)->aw a D):∃us,I ae=Y (.list us)/\us.length<=c5/\∀a D,dI I D a (.list us.reverse)->aw a D:= (dj _ C (qK aq) λa D n=>af a D n.ext n.1<|by exact J n.at<|J QR rfl)
theorem Kb:(e:Int)+1+b=((e+b:Nat):Int)+1:=by exact hI<|.Eq (.a (.a (.c aa) aC)<|.c ab)<|.a (.c<|.a aa ab) aC
theorem Wt (C:l<=b):(e:Int)+1+b -l=((e+b -l:Nat):Int)+1:=by exact cn (.Eq (.s (.a (.a (.c aa) aC)<|.c ab)<|.c ah)<|.a (.c az) aC) [.le ah ab,.sub az (.a aa ab) ah] C rfl
theorem H5 (C:b<=e):(e:Int) -b=(e -b:Nat):=(YF C).symm
theorem Hd (C:l<=b -e)(hf:e<=b):e+(b -e -l)=b -l:=by exact e3 (.eq (.a aa ab) ah) [.le az a8,.le aa bS,.sub ah bS az,.sub ab a8 az,.sub a8 bS aa] C hf rfl rfl rfl
theorem jn (C:l<=b -e)(hf:e<=b):e<=b -l:=by exact de (.le aa ab) [.le ah az,.le aa a8,.sub ab a8 ah,.sub az a8 aa] C hf rfl rfl
theorem yx (C:l<=b -e):l<=b:=a5 C<|j0 ..
theorem RC (E:Nat->av->List V)(P:Nat->av->aI->Prop){a:av}(e:ai=E b a)(h0:P b a I) (U:∀k a I,P (k+1) a I->k<b->B ((E (k+1) a).set i<|.int (k:Nat)) (iC (fM (E k)<|P k) dJ) I)(he:∀a I,P 0 a I->dJ .next (E 0 a) I):j7 (.kT ((b:Int) -1) b (-1)) i B dJ ai I:= xY (λj=>E<|b -j) (λj=>P<|b -j) e h0 (λj a I C bu=>by
  obtain⟨k,e⟩:∃k,b -j=k+1:=⟨b -j -1,(Ye<|Au bu).symm⟩;have a7:b -(j+1)=k:=by refine J (Yg _ _ _)<|J e ?_;rfl
  refine J (by rw[Am];exact cn (.Eq (.a (.s (.c aa) aC)<|.g<|.c ab)<|.c ah) [.eq az<|.a ah aC,.sub az aa ab] e rfl:(b:Int) -1+ -1*(j:Nat)=(k:Nat))<|J a7 ?_;rw[e] at C⊢;exact U k a I C<|by refine bm a7 ?_;exact Yh (jY (dU j) bu)<|I9 j) λa I C=>by rw[rt] at C⊢;exact he a I C
theorem Vu (ak:b<=100000)(C:af ((b:Int) -1) b (-1)):mc [.int<|(b:Int) -1,.int (-1),.int (-1)]/\∃a cnt st,k8 [.int<|(b:Int) -1,.int (-1),.int (-1)] a cnt st/\af a cnt st:= Vt (by exact gb<|.bW (.g<|.k 100000)<|.s (.c aa) aC) (by exact cK (.Lt (.s (.c aa) aC)<|.k 4611686018427387904) [.le aa<|.k 100000] ak) (by exact kN<|.bW (.g<|.k 100000)<|.g aC) (by exact kN<|.Lt (.g aC)<|.k 4611686018427387904) (by refine J (by exact bH (.eq aa ab) [.fE aa<|.s (.s (.c ab) aC)<|.g aC] rfl:((b:Int) -1 - -1).toNat=b) ?_;exact C)
theorem vB {k:Nat}(C:I ae=Y (.list us))(aq:us.length<=100000)(af:∀a D,bF I D->I a=am->D a=Y (.list<|us.take k)->aw a D):∃us,I ae=Y (.list us)/\us.length<=c5/\∀a D,dI I D a (.list<|cut am (Y (k:Int)) us)->aw a D:= oL C (by refine J eI ?_;exact a5 aq<|by decide) λa D n=>af a D n.ext n.1 (by exact J n.at<|J r1 rfl)
theorem zC {k:Nat}(C:I ae=Y (.list us))(aq:us.length<=100000)(af:∀a D,bF I D->I a=am->D a=Y (.list<|us.drop k)->aw a D):∃us,I ae=Y (.list us)/\us.length<=c5/\∀a D,dI I D a (.list<|cut (Y (k:Int)) am us)->aw a D:= oL C (by refine J eI ?_;exact a5 aq<|by decide) λa D n=>af a D n.ext n.1 (by exact J n.at<|J xf rfl)
theorem SD (P:List V->aI->Prop)(aq:cnt<=100000)(h0:P [] I) (U:∀aj I,P aj I->aj.length<cnt->cI (.int (aj.length:Nat)::us) (λw Z=>P (aj++[w]) Z) I)(he:∀aj I,P aj I->aj.length=cnt->jA aj I):n3 (.kT 0 cnt 1) cI us jA I:= GL P (by refine J eI ?_;exact a5 aq<|by decide) h0 (λaj I C ap=>by refine J (by rw[z8,pY]:(0:Int)+1*(aj.length:Nat)=(aj.length:Nat)) ?_;exact U aj I C ap) he
theorem pF (C:G):cY (.ref a) G:=C
theorem UJ (C:G):cY .none G:=C
theorem Ub (C:ad (.bool false) I):oB (.ref a) (.ref a) ad I:=⟨rfl,C⟩
theorem Oj (e:cL=true)(C:G):hF cL G X:=by subst e;exact C
theorem yR:min (e:Int) b=(min e b:Nat):=by rcases lL e b with C|C;(· exact J (dG C)<|J (lM<|dL.mpr C) rfl);(· exact J (j1 C)<|J (nT<|dL.mpr C) rfl)
theorem yQ:max (e:Int) b=(max e b:Nat):=by rcases lL e b with C|C;(· exact J (nV C)<|J (oY<|dL.mpr C) rfl);(· exact J (v5 C)<|J (p5<|dL.mpr C) rfl)
theorem SM (C:b<=100000+100000):b<=1000000:=a5 C (by decide)
theorem RF (E:Nat->av->List V)(P:Nat->av->aI->Prop){k:Nat}{a:av}(e:ai=E k a)(h0:P k a I) (U:∀k a I,P k a I->gF (vF a3 (λai I=>∃j,j<k/\fM (E j) (P j) ai I) ag us) (E k a) [] I):tA a3 gF ag us ai I:= (fv (λk=>fM (E k)<|P k) k (bj a e h0) λk q I A=>a9 A λa e C=>e▸U k a I C)
def l0 (x:Int):Prop:=32<=x/\x<127
theorem l0.yu (C:l0 pt):pt≠9:=by have:=C.1;exact dW (.Ne bh<|.k 9) [.bW (.k 32) bh] this
theorem Hp:l0 32:=⟨by decide,by decide⟩
def b9 (Q:List Int):Prop:=∀x∈Q,l0 x
theorem b9.get (C:b9 Q)(e:Q[b]?=Y pt):l0 pt:=C pt<|d1 e
theorem oq (e:(br Q)[b]?=Y u):∃x,Q[b]?=Y x/\u=.int x:=by rw[xL] at e;refine a9 (hS.mp e) λx C bh=>?_;refine bm bh ?_;exact bj x C rfl
theorem WW (H:ba c)(C:l0 pt)(af:ad (.int 1) I):bk c 1 (.ref 425) [.int pt,.int last,.int 8] ad I:= NJ (n:=0) H<|cr (by have:=C.1;exact dW (.Ne bh<|.k 9) [.bW (.k 32) bh] this)<|cr (by have:=C.1;exact dW (.hY bh<|.k 32) [.bW (.k 32) bh] this)<|cr (by have:=C.2;exact dW (.Ne bh<|.k 127) [.Lt bh<|.k 127] this)<|(cr (by have:=C.2;exact dW (.hY (.k 127) bh) [.Lt bh<|.k 127] this)<|af)
theorem tW (H:ba c)(C:l0 pt)(af:ad (.int<|last+1) I):bk c 2 (.ref 439) [.int last,.int pt,.int 8] ad I:= Mk (n:=1) H<|ci (H.f 33)<|WW H C af
variable{aM:List Int}
theorem EV (H:ba c)(ax:I ae=Y (.list<|br aM))(aP:b9 aM)(an:b<=aM.length)(aq:aM.length<=100000) (af:∀Z,bF I Z->ad (.int b) Z):bk c 3 (.ref 446) [.ref ae,.int b,.int 8] ad I:=by
 refine Mj (n:=2) H<|up ax (dN aq) λa ay av q aZ=>hB aZ ?_;let E:Nat->V->List V:=λj u=>[.ref ae,.int b,.int 8,u,.int j];refine xX E (λq q=>True) rfl trivial aZ (λj a u q aU=>?_) λa q=>?_
 ·refine a9 (oq aU) λx aL bh=>?_;refine J bh ?_;exact ci (H.f 35)<|tW H (aP x<|lN<|d1 aL)<|iP.mk (E:=E<|j+1) (.int x) trivial
 ·refine(?_:ad (.int ((br<|aM.take b).length:Nat)) ay);refine J e1<|J cF<|J (dG an) ?_;exact af _ av
theorem oJ (H:ba c)(ax:I a=Y (.list<|br aM))(aP:b9 aM)(aq:aM.length<=100000) (af:∀Z,bF I Z->ad (.int aM.length) Z):bk c 4 (.ref 453) [.ref a,.int 8] ad I:= Nv (n:=3) H ⟨(H.f 36),dK ax (dN aq)<|ca<|EV H ax aP (c1 _) aq af⟩
theorem Hq (H:ba c)(ax:I a=Y (.list<|br aM))(aP:b9 aM)(aq:aM.length<=100000) (af:ad (.int (min bf aM.length:Nat)) I):bk c 3 (.ref 460) [.ref a,.int bf,.int 8] ad I:=by
 refine Nh (n:=2) H<|dK ax (dN aq)<|sX aq ?_;let E:Nat->V->List V:=λj u=>[.ref a,.int bf,.int 8,.int j,u];refine Gl E (λj q=>j<=bf) rfl (dU _) (λj u bu G=>?_) λu bu=>?_
 ·refine db (λC=>?_) λC=>?_
  ·rw[dG<|a5 (dL.mp C)<|hp G,<-Jq bu (dL.mp C)] at af;exact af
  ·have aL:aM[j]?=Y aM[j]:=eu G;exact⟨(H.f 35),ps ax aL (dN aq)<|ca<|tW H (aP.get aL)<|iP.mk (E:=E<|j+1) (.int j)<|fl.mp<|Jr.mp C⟩
 ·rw[j1 bu] at af;exact dK ax (dN aq) af
theorem Ux (H:ba c)(ax:I a=Y (.list<|br aM))(aP:b9 aM)(aq:aM.length<=100000)
 (af:ad (.ref a) I):bk c 4 (.ref 467) [.ref a,.int bf,.int 8] ad I:=by
 refine Nd (n:=3) H<|ci (H.f 38)<|Hq H ax aP aq<|db (λq=>af) λC=>?_
 have hm:=Jp bf aM.length
 cases e:min bf aM.length with
 |zero=>rw[e] at C;exact(C rfl).elim
 |succ j=>rw[e] at hm;have aL:aM[j]?=Y aM[j]:=eu hm;exact FZ ax (k:=j) (As (j:Int) 1) aL (dN aq)<|fE (λq=>af) λe=>((aP.get aL).yu e).elim
noncomputable def pad (aM:List Int)(bf:Nat):List Int:=aM++eb (bf -aM.length) 32
theorem Hn (H:ba c)(ax:I ae=Y (.list<|br aM))(aP:b9 aM)(aq:aM.length<=100000)(P:bf<=100000) (af:jB ad I (pad aM bf)):bk c 5 (.ref 474) [.ref ae,.int bf,.int 8] ad I:=by refine Ng (n:=4) H<|fu rfl rfl λa ay av n₁ aZ=>ci (H.f 37)<|oJ H (av _ _ ax) aP aq λaN a3=>dP<|qQ<|yH (a3 _ _ aZ) P λb M K aH aV=>?_;have x:=(av.trans a3).trans K;exact eC (x _ _ ax) aV aq (hO<|jo P) rfl λd bz bn be bc=>af _ _ (x.trans bn) (x.none be) bc
theorem mD (C:b9 aM):b9 (pad aM bf):=λx aL=>by
 rcases gO.mp aL with aL|aL
 ·exact C x aL
 ·refine J (vZ.mp aL).2 ?_;exact Hp
theorem oH:(pad aM bf).length=max aM.length bf:=by unfold pad;exact J bK<|J nK<|J (Yi _ _)<|bm (Nat.sub_add_eq_max _ _)<|J (Yj _ _) rfl
theorem mC (C:aM.length<=100000)(aG:bf<=100000):(pad aM bf).length<=100000:=by refine J oH ?_;exact tl.mpr ⟨C,aG⟩
theorem od (H:ba c)(ax:I ae=Y (.list<|br aM))(aP:b9 aM)(aq:aM.length<=100000) (af:∀t a b Z,bF I Z->I t=am->I a=am->I b=am->Z t=Y (.tup [.ref a,.ref b])->Z a=Y (.list<|br<|aM.take bf)->Z b=Y (.list<|br<|aM.drop bf)->ad (.ref t) Z): bk c 5 (.ref 481) [.ref ae,.int bf,.int 8] ad I:=by
 refine Mn (n:=4) H<|ci (H.f 39)<|Ux H ax aP aq<|ci (H.f 38)<|Hq H ax aP aq ?_;have e:aM.take (min bf aM.length)=aM.take bf/\aM.drop (min bf aM.length)=aM.drop bf:=by
  rcases lL bf aM.length with C|C
  ·refine J (dG C) ?_;exact⟨rfl,rfl⟩
  ·refine J (j1 C)<|J (ik<|c1 _)<|J (ik C)<|J (i6<|c1 _)<|J (i6 C) ?_;exact⟨rfl,rfl⟩
 refine up ax (dN aq) λa ay av n₁ aZ=>kt (av _ _ ax) (dN aq) λb aN a3 o O=>kp rfl rfl λt M K aH aV=>?_;rw[e.1] at aZ;rw[e.2] at O;have x:=av.trans a3;exact af _ _ _ _ (x.trans K) (x.none aH) n₁ (av.none o) aV (K _ _<|a3 _ _ aZ)<|K _ _ O
theorem b9.take (C:b9 Q)(k:Nat):b9 (Q.take k):=λx aL=>C x<|lN aL
theorem b9.drop (C:b9 Q)(k:Nat):b9 (Q.drop k):=λx aL=>C x<|nR aL
theorem b9.append (C:b9 Q)(aG:b9 A):b9 (Q++A):=λx aL=>(gO.mp aL).elim (C x)<|aG x
theorem b9.V8:b9 (eb b 32):=λx aL=>by refine J (vZ.mp aL).2 ?_;exact Hp
theorem b9.nil:b9 []:=λx aL=>by cases aL
theorem tY (H:ba c)(ax:I ae=Y (.list<|br aM))(aP:b9 aM)(aq:aM.length<=100000)(o:e<=l) (af:∀t a i b Z,bF I Z->I t=am->I a=am->I i=am->I b=am->Z t=Y (.tup [.ref a,.ref i,.ref b])->Z a=Y (.list<|br<|aM.take e)->Z i=Y (.list<|br<|(aM.take l).drop e)->Z b=Y (.list<|br<|aM.drop l)->ad (.ref t) Z): bk c 6 (.ref 488) [.ref ae,.int e,.int l,.int 8] ad I:=by refine Mo (n:=5) H<|ci (H.f 41)<|od H ax aP aq λt a b ay av bv na au bd aK aA=>eE bd rfl<|lh ?_;intro G;refine ci (H.f 41)<|od H aK (aP.take _) (eD aq) λF aG a9 aN a3 ao aa ab L ak j=>eE L rfl<|kp rfl rfl λm M K aH aV=>?_;have x:=a3.trans K;replace ak:=(dG o)▸tm▸ak;exact af _ _ _ _ _ (av.trans x) (av.none<|a3.none aH) (av.none aa) (av.none ab) au aV (K _ _ ak) (K _ _ j)<|x _ _ aA
theorem Wg (H:ba c)(ax:I ae=Y (.list<|br aM))(aP:b9 aM)(aq:aM.length<=100000) (af:jB ad I aM):bk c 3 (.ref 495) [.ref ae,.int pt,.int 8] ad I:=by
 refine NB (n:=2) H<|fu rfl rfl λa ay av n₁ aZ=>hB (av _ _ ax) ?_;let E:Nat->V×V×Int->List V:=λq p=>[.ref ae,.int pt,.int 8,p.1,p.2.1,.ref a,.int p.2.2];let P:Nat->V×V×Int->aI->Prop:=λj q Z=>bF I Z/\Z a=Y (.list<|br<|aM.take j);refine uQ E P (a:=(.aD,.aD,pt)) rfl ⟨av,aZ⟩ (λj q Z C=>C.1 _ _ ax) (λj p aN u C aU=>?_) λp aN C=>?_
 ·refine a9 (oq aU) λx aL bh=>?_;refine J bh ?_;exact ci (H.f 35)<|tW H (aP.get aL)<|cr (aP.get aL).yu<|Ea C.2 (eD aq) λM o=>fM.mk (E:=E<|j+1) (P:=P<|j+1) (.int<|p.2.2+1,.int x,p.2.2+1) ⟨o.ext C.1 n₁,by refine J o.at<|J jZ<|J aL ?_;rfl⟩
 ·have O:=C.2;replace O:=k0▸e1▸O;exact af _ _ C.1 n₁ O
noncomputable def kb (aM:List Int)(f l:Nat):List Int:=(aM.take l).drop f++eb (l -f -((aM.take l).drop f).length) 32
theorem Pj (H:ba c)(ax:I ae=Y (.list<|br aM))(aP:b9 aM)(aq:aM.length<=100000)(o:e<=l)(ap:l<=100000) (af:jB ad I (kb aM e l)):bk c 7 (.ref 502) [.ref ae,.int e,.int l,.int 8] ad I:=by
 refine ME (n:=6) H<|ci (H.f 42)<|tY H ax aP aq o λt a i b ay av bv na qT au bd aK a4 aA=>eE bd rfl<|lh ?_;intro G;refine ci (H.f 37)<|oJ H aK (aP.take _) (eD aq) λaN a3=>sG (m:=e) (p5<|dL.mpr<|q8<|c1 _) ?_;have s:=a3 _ _ a4;let E:Nat->V->List V:=λj w=>[.ref ae,.int e,.int l,.int 8,.ref a,w,.int (e+j:Nat),.ref i,.ref b,.int e];refine hB s<|xX E (λq q=>True) rfl trivial s (λj w u q aU=>?_) λw q=>?_
 ·refine a9 (oq aU) λx aL bh=>?_;refine J bh ?_;exact ci (H.f 35)<|tW H (((aP.take _).drop _).get aL)<|iP.mk (E:=E<|j+1) (.int x) trivial
 ·refine fu rfl rfl λg M K aH aV=>dP<|qU aV (a5 o ap) (a5 o ap) λp bz bn be bc=>ci (H.f 43)<|Wg H (bn _ _<|K _ _ s) ((aP.take _).drop _) (eh<|eD aq) λd bN aS fb hd=>?_;refine eC (aS _ _ bc) hd (hO<|jo<|a5 o ap) (eh<|eD aq) rfl λB bM bE aR aX=>fu rfl rfl λh bQ bi aB A=>dP<|qQ<|yH A ap λC bV bD am y=>?_;have x:=((((((av.trans a3).trans K).trans bn).trans aS).trans bE).trans bi).trans bD;refine eC (bD _ _<|bi _ _ aX) y (jc (hO<|jo<|a5 o ap)<|eh<|eD aq) (hO<|jo ap) rfl λD bW ar aZ v=>af _ _ (x.trans ar) (x.none aZ) ?_;replace v:=(dp<|Nat.sub_sub _ _ _)▸e1▸(rt _)▸v;exact v
theorem OZ (H:ba c)(ax:I ae=Y (.list<|br aM))(aP:b9 aM)(aq:aM.length<=100000)(o:e<=l)(ap:l<=100000) (af:kB ad I ae (aM.take e++aM.drop l)):bk c 7 (.ref 509) [.ref ae,.int e,.int l,.int 8] ad I:=by
 refine MC (n:=6) H<|ci (H.f 37)<|oJ H ax aP aq λay av=>db (λC=>?_) λq=>ci (H.f 42)<|tY H (av _ _ ax) aP aq o λt a i b aN a3 bv na qT au bd aK a4 aA=>eE bd rfl ?_
 ·exact af _ _ av (.inl rfl)<|J (av _ _ ax)<|J (ik<|dL.mp C)<|J (i6<|a5 (dL.mp C) o)<|J (hV _) rfl
 ·have x:=av.trans a3;exact eC aK aA (eD aq) (eh aq) rfl λd M K aH aV=>af _ _ (x.trans K) (.inr<|x.none aH) aV
noncomputable def hw (aM:List Int)(f l:Nat):List Int:=aM.take f++(if l<aM.length then eb (l -f) 32++aM.drop l else[])
theorem NX (H:ba c)(ax:I ae=Y (.list<|br aM))(aP:b9 aM)(aq:aM.length<=100000)(o:j<=l)(ap:l<=100000) (af:kB ad I ae (hw aM j l)):bk c 7 (.ref 516) [.ref ae,.int j,.int l,.int 8] ad I:=by
 refine Mg (n:=6) H<|ci (H.f 37)<|oJ H ax aP aq λay av=>db (λC=>?_) λq=>ci (H.f 42)<|tY H (av _ _ ax) aP aq o λt a i b aN a3 bv na qT au bd aK a4 aA=>eE bd rfl<|lh ?_
 ·refine af _ _ av (.inl rfl) ?_;unfold hw;exact J (av _ _ ax)<|J (ik<|dL.mp C)<|J (if_neg<|rC.mpr<|a5 (dL.mp C) o)<|J (hV _) rfl
 intro G;have x:=av.trans a3;unfold hw at af;refine dK aA (dN<|eh aq)<|db (λaG=>?_) λaG=>?_
 ·replace aG:=dz▸aG;replace af:=(if_pos<|Yk<|fl.mp aG)▸af;refine fu rfl rfl λg M K aH aV=>dP<|qU aV ap (a5 o ap) λp bz bn be bc=>?_;have D:=K.trans bn;refine eC bc (D _ _ aA) (hO<|jo ap) (eh aq) rfl λB bN aS y ao=>?_;have D:=D.trans aS;exact eC (D _ _ aK) ao (eD aq) (jc (hO<|jo ap)<|eh aq) rfl λh bM bE aR aX=>af _ _ ((x.trans D).trans bE) (.inr<|(x.trans D).none aR) aX
 ·replace aG:=dz▸aG;replace af:=(if_neg λe=>aG<|fl.mpr<|Au e)▸af;exact fu rfl rfl λg M K aH aV=>eC (bG:=[]) (K _ _ aK) aV (eD aq) (dU 0) rfl λh bM bE aR aX=>af _ _ ((x.trans K).trans bE) (.inr<|(x.trans K).none aR) aX
noncomputable def hL (aM:List Int)(f l:Nat):List Int:=if aM.length<=f then aM else aM.take f++eb (l -f) 32++aM.drop f
theorem Uy (H:ba c)(ax:I ae=Y (.list<|br aM))(aP:b9 aM)(aq:aM.length<=100000)(o:i<=l)(ap:l<=100000) (af:kB ad I ae (hL aM i l)):bk c 7 (.ref 523) [.ref ae,.int i,.int l,.int 8] ad I:=by
 refine Nf (n:=6) H<|ci (H.f 37)<|oJ H ax aP aq λay av=>db (λC=>?_) λC=>ci (H.f 41)<|od H (av _ _ ax) aP aq λt a b aN a3 bv na au bd aK aA=>eE bd rfl ?_
 ·refine af _ _ av (.inl rfl) ?_;unfold hL;exact J (av _ _ ax)<|J (if_pos<|dL.mp C) rfl
 have x:=av.trans a3;unfold hL at af;replace af:=(if_neg λe=>C<|dL.mpr e)▸af;refine fu rfl rfl λg M K aH aV=>dP<|qU aV ap (a5 o ap) λp bz bn be bc=>?_;have D:=K.trans bn;refine eC (D _ _ aK) bc (eD aq) (hO<|jo ap) rfl λB bN aS y ao=>?_;have D:=D.trans aS;exact eC ao (D _ _ aA) (jc (eD aq)<|hO<|jo ap) (eh aq) rfl λh bM bE aR aX=>af _ _ ((x.trans D).trans bE) (.inr<|(x.trans D).none aR) aX
noncomputable def jU (aM:List Int)(f l:Nat)(o:List Int):List Int:=(pad aM f).take f++o++(pad aM f).drop l
theorem Vn (H:ba c)(ax:I ae=Y (.list<|br aM))(an:I cl=Y (.list<|br A))(aP:b9 aM)(aq:aM.length<=100000)(o:e<=l)(ap:l<=100000)(h:A.length<=100000) (af:jB ad I (jU aM e l A)):bk c 7 (.ref 530) [.ref ae,.int e,.int l,.ref cl,.int 8] ad I:=by refine Nt (n:=6) H ⟨(H.f 42),ci (H.f 40)<|Hn H ax aP aq (a5 o ap) λd ay av fb hd=>ca<|tY H hd (mD aP) (mC aq<|a5 o ap) o λt a i b aN a3 bv na qT au bd aK a4 aA=>eE bd rfl ?_⟩;have x:=av.trans a3;refine eC aK (x _ _ an) (eD<|mC aq<|a5 o ap) h rfl λg M K aH aV=>?_;have x:=x.trans K;exact eC aV (K _ _ aA) (jc (eD<|mC aq<|a5 o ap) h) (eh<|mC aq<|a5 o ap) rfl λp bz bn be bc=>af _ _ (x.trans bn) (x.none be) bc
noncomputable def eU (aM:List Int)(bf:Nat)(o:List Int):List Int:=(pad aM bf).take bf++o++(pad aM bf).drop bf
theorem Hy (H:ba c)(ax:I ae=Y (.list<|br aM))(an:I cl=Y (.list<|br A))(aP:b9 aM)(aq:aM.length<=100000)(ap:bf<=100000)(h:A.length<=100000) (af:jB ad I (eU aM bf A)):bk c 7 (.ref 537) [.ref ae,.int bf,.ref cl,.int 8] ad I:=by refine Nl (n:=6) H ⟨(H.f 41),ci (H.f 40)<|Hn H ax aP aq ap λd ay av fb hd=>ca<|od H hd (mD aP) (mC aq ap) λt a b aN a3 bv na au bd aK aA=>eE bd rfl ?_⟩;have x:=av.trans a3;refine eC aK (x _ _ an) (eD<|mC aq ap) h rfl λg M K aH aV=>?_;have x:=x.trans K;exact eC aV (K _ _ aA) (jc (eD<|mC aq ap) h) (eh<|mC aq ap) rfl λp bz bn be bc=>af _ _ (x.trans bn) (x.none be) bc
theorem dropWhile_at:∀{Q:List Int} {j:Nat},(∀x∈Q.take j,x=32)->(∀x,Q[j]?=Y x->x≠32)->Q.drop j=Q.dropWhile (· ==32):=by
 intro D;induction D with
 |nil=>intro j K c;simp
 |cons x Q B=>
  intro f;cases f with
  |zero=>intro o C;have:=C x rfl;exact J tk<|J (Yl<|by simpa using this) rfl
  |succ j=>intro C aG;have e:x=32:=C x (by simp);exact J List.drop_succ_cons<|J (List.dropWhile_cons_of_pos<|by simpa using e)<|B (λy L=>C y<|by simp[L]) λy L=>aG y (by simpa using L)
noncomputable def cls (aM:List Int)(f:Nat):List Int:=if aM.length<=f then aM else aM.take f++(aM.drop f).dropWhile (· ==32)
theorem NZ {c:cG}{I:aI}{ad:V->aI->Prop}(H:ba c){r:Addr}{aM:List Int}{f:Nat}(ax:I r=Y (.list<|br aM))(aP:b9 aM)(aq:aM.length<=100000) (af:kB ad I r (cls aM f)):bk c 7 (.ref 544) [.ref r,.int f,.int 8] ad I:=by
 refine Mi (n:=6) H<|ci (H.f 37)<|oJ H ax aP aq λay av=>db (λC=>?_) λC=>ci (H.f 41)<|od H (av _ _ ax) aP aq λt a b aN a3 bv na au bd aK aA=>eE bd rfl ?_
 ·refine af _ _ av (.inl rfl) ?_;unfold cls;exact J (av _ _ ax)<|J (if_pos<|dL.mp C) rfl
 have x:=av.trans a3;unfold cls at af;replace af:=(if_neg λe=>C<|dL.mpr e)▸af;let E:Nat->Unit->List V:=λj q=>[.ref r,.int f,.int 8,.ref a,.int (j:Nat),.ref b];refine x0 (aM.drop f).length E (λj q Z=>Z=aN/\∀y∈(aM.drop f).take j,y=32) (a:=()) rfl ⟨rfl,λy L=>by replace L:=nS▸L;cases L⟩ λj q Z bu i=>?_;obtain⟨rfl,i⟩:=i;have g:(∀y,(aM.drop f)[j]?=Y y->y≠32)->A8 (d5 c 6 ad) (E j ()) [] Z:=λbw=>by replace af:=(dp<|dropWhile_at i bw)▸af;exact kt aA (dN<|eh aq) λd M K aH aV=>eC (K _ _ aK) aV (eD aq) (eh<|eh aq) rfl λe bz bn be bc=>af _ _ ((x.trans K).trans bn) (.inr<|(x.trans K).none be) bc
 refine dK aA (dN<|eh aq)<|db (λG=>?_) λw=>g λy L=>?_
 ·have l:=fl.mp G;have aL:(aM.drop f)[j]?=Y (aM.drop f)[j]:=eu l;refine ps aA aL (dN<|eh aq) (db (λhe=>(qo.mk (E:=E) () l ⟨rfl,λy L=>?_⟩)) λbw=>ps aA aL (dN<|eh aq)<|cr ((aP.drop f).get aL).yu<|(g λy L=>?_))
  ·replace L:=aL▸jZ▸L;rcases gO.mp L with L|L
   ·exact i y L
   ·exact(gD.mp L).trans he
  ·replace L:=aL▸L;cases L;exact bw
 ·exact(w<|fl.mpr (e8.mp L).1).elim
noncomputable def jT (n:Int):Str:=Aj<|toString n
theorem TT:∀n∈pX 204,(jT<|(n:Int) -3).cps.toList.all (λx=>decide<|32<=x/\x<127)=true/\(jT<|(n:Int) -3).cps.size<=3:=by decide+kernel
theorem qZ (ak: -3<=pt)(ao:pt<=200):(∀x∈(jT pt).cps.toList,32<=x/\x<127)/\(jT pt).cps.size<=3:=by obtain⟨a,b⟩:=TT (pt+3).toNat<|Jd.mpr<|mu (.lt aa<|.k 204) [.bW bh<|.k 200,.fE aa<|.a bh<|.k 3] ao rfl;rw[show(((pt+3).toNat:Nat):Int) -3=pt by exact mu (.Eq (.s (.c aa)<|.k 3) bh) [.bW (.g<|.k 3) bh,.fE aa<|.a bh<|.k 3] ak rfl] at a b;refine⟨λx aL=>?_,b⟩;have:=rr.mp a x aL;simpa using this
theorem GX (ak: -3<=pt)(ao:pt<=200):pt.natAbs<=200:=by
 rcases Int.natAbs_eq pt with e|e
 ·exact mu (.le aa<|.k 200) [.Eq bh<|.c aa,.bW bh<|.k 200] e ao
 ·exact mu (.le aa<|.k 200) [.Eq bh<|.g<|.c aa,.bW (.g<|.k 3) bh] e ak
theorem Fu (H:ba c)(ak: -3<=pt)(ao:pt<=200)(af:ad (.str<|jT pt) I):bk c 1 (.ref 432) [.int pt] ad I:=by
 refine MF (n:=0) H ⟨by decide,by decide,by decide,λB Q=>db (λq=>⟨?_,af⟩) λC=>(C ?_).elim⟩
 ·have:=GX ak ao;exact jY (a5 (Ym _) this) (by decide)
 ·refine J Q ?_;have C:(10:Nat)^3<=10^4000:=Nat.pow_le_pow_right (by decide) (by decide);have:(10:Int)^3<=(10:Int)^(4000:Int).toNat:=by exact_mod_cast C
  lia
noncomputable def d0 (s:Str):List Int:=s.cps.toList.map YQ
noncomputable def mz (w n:Int):Str:=q1 (jT n) ((jT w).length:Int)++" "
noncomputable def qY (w n:Int):List Int:=d0<|mz w n
theorem UB:(q1 w pt).cps.toList=eb (pt.toNat -w.cps.size) 32++w.cps.toList:=by
 unfold q1;split
 ·rename_i C;have aG:pt<=(w.cps.size:Int):=C;refine J (by exact ow (.eq aa b1) [.bW bh<|.c ab,.sub aa ah ab,.fE ah bh] aG rfl rfl:pt.toNat -w.cps.size=0) ?_;simp
 ·unfold XJ;refine(?_:(Yn (pt.toNat -w.cps.size) 32++w.cps++Yn 0 32).toList=_);simp
theorem Wo:(w++name).cps.toList=w.cps.toList++name.cps.toList:=by refine(?_:(w.cps++name.cps).toList=_);simp
theorem yJ {w n:Int}(ak: -3<=n)(ao:n<=200)(bp: -3<=w)(bI:w<=200):(∀x∈(mz w n).cps.toList,32<=x/\x<127)/\(mz w n).cps.toList.length<=7:=by
 obtain⟨a,b⟩:=qZ ak ao;obtain⟨-,a9⟩:=qZ bp bI;have aR:((jT w).length:Int).toNat<=3:=by refine(?_:((jT w).cps.size:Int).toNat<=3);exact bH (.le aa<|.k 3) [.le ab<|.k 3,.fE aa<|.c ab] a9 rfl
 have d:(" ":Str).cps.toList=[32]:=by decide+kernel
 unfold mz;refine J Wo<|J UB<|J d ?_;refine⟨λx aL=>?_,?_⟩
 ·rcases gO.mp aL with aL|aL
  ·rcases gO.mp aL with aL|aL
   ·refine J (vZ.mp aL).2 ?_;exact⟨by exact kN<|.le (.k 32)<|.k 32,by exact kN<|.lt (.k 32)<|.k 127⟩
   ·exact a x aL
  ·cases gD.mp aL;exact⟨by exact kN<|.le (.k 32)<|.k 32,by exact kN<|.lt (.k 32)<|.k 127⟩
 ·simp only[bK,nK,fe,ju,eN];exact ch (.le (.a (.a aa ab)<|.a b1 aC)<|.k 7) [.le ab<|.k 3,.le ah<|.k 3,.sub aa ah ab] b aR rfl
theorem H3 (C:∀x∈w.cps.toList,32<=x/\x<127):b9 (d0 w):=λx aL=>by refine a9 (eF.mp aL) λn aX bh=>?_;refine bm bh ?_;have:=C n aX;refine(?_:32<=(n:Int)/\(n:Int)<127);exact⟨cK (.bW (.k 32)<|.c aa) [.le (.k 32) aa] this.1,cK (.Lt (.c aa)<|.k 127) [.lt aa<|.k 127] this.2⟩
theorem vh (aq:w.cps.toList.length<=c5)(C:jA (br<|d0 w) I):n3 (.str w) (xd a3<|bi 0<|dS pc em bC) us jA I:=by
 refine(eV (λa3 aj Z=>Z=I/\a3<=w.cps.toList.length/\aj=(br<|d0 w).take a3) w.cps.toList.length aq ⟨rfl,dU _,rfl⟩ ?_);intro a3 aj K bo;refine fT bo λa an bh=>?_;clear bo;subst a;subst bh;have ap:(br<|d0 w).length=w.cps.toList.length:=by simp[d0]
 refine⟨by refine J cF<|J ap ?_;exact ch (.eq aa ab) [.le ab ah,.cN aa ab ah] an rfl,an,λe=>⟨?_,?_⟩,λG=>?_⟩
 ·refine(?_:am=_);refine J e<|bm kv<|J (nL<|c1 _) ?_;rfl
 ·refine J e<|J (ik<|bH (.le aa ab) [.eq aa ab] ap) ?_;exact C
 ·have aL:w.cps[a3]?=Y w.cps.toList[a3]:=by refine bm kv ?_;exact eu G
  refine(bj (.str ⟨#[w.cps.toList[a3]]⟩) (by refine(?_:Y _=_);refine J aL ?_;rfl) ?_);refine⟨rfl,rfl,G,?_⟩;have e:(br<|d0 w)[a3]?=Y (.int (w.cps.toList[a3]:Nat)):=by unfold d0;refine J rl<|J rl<|J (eu G) ?_;rfl
  refine J jZ<|J e ?_;rfl
noncomputable def Zb (bo bD:V):List (Str×V):=[(("sort":Str),bo),(("many":Str),bD)]
noncomputable def e9 (bo bD bw bR b4 ck cV cB c7 ag cy cH cX bZ af c4 dl cC cc cp:V):List (Str×V):=[(("number":Str),bo),(("name":Str),bD),(("text":Str),bw),(("markers":Str),bR),(("point":Str),b4),(("begv":Str),ck),(("zv":Str),cV),(("mark":Str),cB),(("is_live":Str),c7),(("is_read_only":Str),ag),(("ticks":Str),cy),(("codes_ticks":Str),cH),(("saved_ticks":Str),cX),(("listeners":Str),bZ),(("undo":Str),af),(("props":Str),c4),(("overlays":Str),dl),(("locals":Str),cC),(("syntax":Str),cc),(("file":Str),cp)]
variable{bD bw bR b4 ck cV cB c7 ag cy cH cX bZ af c4 dl cC cc cp:V}
theorem GC:(e9 bo bD bw bR b4 ck cV cB c7 ag cy cH cX bZ af c4 dl cC cc cp).lookup ("text":Str)=Y bw:=by kernel_rfl
theorem GB:(e9 bo bD bw bR b4 ck cV cB c7 ag cy cH cX bZ af c4 dl cC cc cp).lookup ("markers":Str)=Y bR:=by kernel_rfl
theorem Sd:(e9 bo bD bw bR b4 ck cV cB c7 ag cy cH cX bZ af c4 dl cC cc cp).lookup ("point":Str)=Y b4:=by kernel_rfl
theorem U1:bJ "point" u (e9 bo bD bw bR b4 ck cV cB c7 ag cy cH cX bZ af c4 dl cC cc cp)=e9 bo bD bw bR u ck cV cB c7 ag cy cH cX bZ af c4 dl cC cc cp:=by kernel_rfl
theorem R8:(e9 bo bD bw bR b4 ck cV cB c7 ag cy cH cX bZ af c4 dl cC cc cp).lookup ("begv":Str)=Y ck:=by kernel_rfl
theorem Sg:(e9 bo bD bw bR b4 ck cV cB c7 ag cy cH cX bZ af c4 dl cC cc cp).lookup ("zv":Str)=Y cV:=by kernel_rfl
theorem U3:bJ "zv" u (e9 bo bD bw bR b4 ck cV cB c7 ag cy cH cX bZ af c4 dl cC cc cp)=e9 bo bD bw bR b4 ck u cB c7 ag cy cH cX bZ af c4 dl cC cc cp:=by kernel_rfl
theorem Sb:(e9 bo bD bw bR b4 ck cV cB c7 ag cy cH cX bZ af c4 dl cC cc cp).lookup ("mark":Str)=Y cB:=by kernel_rfl
theorem U0:bJ "mark" u (e9 bo bD bw bR b4 ck cV cB c7 ag cy cH cX bZ af c4 dl cC cc cp)=e9 bo bD bw bR b4 ck cV u c7 ag cy cH cX bZ af c4 dl cC cc cp:=by kernel_rfl
theorem R9:(e9 bo bD bw bR b4 ck cV cB c7 ag cy cH cX bZ af c4 dl cC cc cp).lookup ("is_read_only":Str)=Y ag:=by kernel_rfl
theorem GD:(e9 bo bD bw bR b4 ck cV cB c7 ag cy cH cX bZ af c4 dl cC cc cp).lookup ("ticks":Str)=Y cy:=by kernel_rfl
theorem U2:bJ "ticks" u (e9 bo bD bw bR b4 ck cV cB c7 ag cy cH cX bZ af c4 dl cC cc cp)=e9 bo bD bw bR b4 ck cV cB c7 ag u cH cX bZ af c4 dl cC cc cp:=by kernel_rfl
theorem UZ:bJ "codes_ticks" u (e9 bo bD bw bR b4 ck cV cB c7 ag cy cH cX bZ af c4 dl cC cc cp)=e9 bo bD bw bR b4 ck cV cB c7 ag cy u cX bZ af c4 dl cC cc cp:=by kernel_rfl
theorem Sa:(e9 bo bD bw bR b4 ck cV cB c7 ag cy cH cX bZ af c4 dl cC cc cp).lookup ("listeners":Str)=Y bZ:=by kernel_rfl
theorem Sf:(e9 bo bD bw bR b4 ck cV cB c7 ag cy cH cX bZ af c4 dl cC cc cp).lookup ("undo":Str)=Y af:=by kernel_rfl
theorem Se:(e9 bo bD bw bR b4 ck cV cB c7 ag cy cH cX bZ af c4 dl cC cc cp).lookup ("props":Str)=Y c4:=by kernel_rfl
theorem Sc:(e9 bo bD bw bR b4 ck cV cB c7 ag cy cH cX bZ af c4 dl cC cc cp).lookup ("overlays":Str)=Y dl:=by kernel_rfl
theorem Tq:(e9 bo bD bw bR b4 ck cV cB c7 ag cy cH cX bZ af c4 dl cC cc cp).lookup ("begin":Str)=am:=by kernel_rfl
theorem Tr:(e9 bo bD bw bR b4 ck cV cB c7 ag cy cH cX bZ af c4 dl cC cc cp).lookup ("end":Str)=am:=by kernel_rfl
theorem G9:(e9 bo bD bw bR b4 ck cV cB c7 ag cy cH cX bZ af c4 dl cC cc cp).lookup ("size":Str)=am:=by kernel_rfl
theorem G8:(e9 bo bD bw bR b4 ck cV cB c7 ag cy cH cX bZ af c4 dl cC cc cp).lookup ("code_at":Str)=am:=by kernel_rfl
theorem yA:(e9 bo bD bw bR b4 ck cV cB c7 ag cy cH cX bZ af c4 dl cC cc cp).lookup ("codes":Str)=am:=by kernel_rfl
theorem yB:(e9 bo bD bw bR b4 ck cV cB c7 ag cy cH cX bZ af c4 dl cC cc cp).lookup ("goto":Str)=am:=by kernel_rfl
theorem Ts:(e9 bo bD bw bR b4 ck cV cB c7 ag cy cH cX bZ af c4 dl cC cc cp).lookup ("touch":Str)=am:=by kernel_rfl
theorem Gx:(e9 bo bD bw bR b4 ck cV cB c7 ag cy cH cX bZ af c4 dl cC cc cp).length=20:=rfl
theorem SN:bJ "file" cp (bJ "syntax" cc<|bJ "locals" cC<|bJ "overlays" dl<|bJ "props" c4<|bJ "undo" af<|bJ "listeners" bZ<|bJ "saved_ticks" cX<|bJ "codes_ticks" cH<|bJ "ticks" cy<|bJ "is_read_only" ag<|bJ "is_live" c7<|bJ "mark" cB<|bJ "zv" cV<|bJ "begv" ck<|bJ "point" b4<|bJ "markers" bR<|bJ "text" bw<|bJ "name" bD<|bJ "number" bo<|[])=e9 bo bD bw bR b4 ck cV cB c7 ag cy cH cX bZ af c4 dl cC cc cp:=by kernel_rfl
noncomputable def nf (bo bD bw bR b4 ck:V):List (Str×V):=[(("rows":Str),bo),(("order":Str),bD),(("current":Str),bw),(("last_number":Str),bR),(("last_marker":Str),b4),(("listeners":Str),ck)]
theorem R7:(nf bo bD bw bR b4 ck).lookup ("rows":Str)=Y bo:=by kernel_rfl
theorem R6:(nf bo bD bw bR b4 ck).lookup ("current":Str)=Y bw:=by kernel_rfl
theorem Tp:(nf bo bD bw bR b4 ck).lookup ("by_number":Str)=am:=by kernel_rfl
theorem SO:bJ "listeners" ck (bJ "last_marker" b4<|bJ "last_number" bR<|bJ "current" bw<|bJ "order" bD<|bJ "rows" bo<|[])=nf bo bD bw bR b4 ck:=by kernel_rfl
noncomputable def jH (bo bD bw bR b4 ck cV cB c7 ag cy cH cX bZ af c4 dl cC cc cp dt dm dC au aW aY a b c d e f g:V):List (Str×V):=[(("buffers":Str),bo),(("commands":Str),bD),(("global_map":Str),bw),(("local_maps":Str),bR),(("minor_maps":Str),b4),(("question_map":Str),ck),(("questions":Str),cV),(("asker":Str),cB),(("kills":Str),c7),(("registers":Str),ag),(("abbrevs":Str),cy),(("windows":Str),cH),(("files":Str),cX),(("machine":Str),bZ),(("rules":Str),af),(("further":Str),c4),(("matches":Str),dl),(("loop":Str),cC),(("goals":Str),cc),(("undoing":Str),cp),(("marks":Str),dt),(("amalgam":Str),dm),(("message":Str),dC),(("is_echo_old":Str),au),(("is_shifting":Str),aW),(("signal_text":Str),aY),(("panes":Str),a),(("modes":Str),b),(("fill_column":Str),c),(("tab_width":Str),d),(("rectangle":Str),e),(("last_expansion":Str),f),(("replacing":Str),g)]
variable{dt dm dC au aW aY bO bn:V}
theorem Sh:(jH bo bD bw bR b4 ck cV cB c7 ag cy cH cX bZ af c4 dl cC cc cp dt dm dC au aW aY ar aS u bl bP bO bn).lookup ("buffers":Str)=Y bo:=by kernel_rfl
theorem Sk:(jH bo bD bw bR b4 ck cV cB c7 ag cy cH cX bZ af c4 dl cC cc cp dt dm dC au aW aY ar aS u bl bP bO bn).lookup ("registers":Str)=Y ag:=by kernel_rfl
theorem U5:bJ "registers" u (jH bo bD bw bR b4 ck cV cB c7 ag cy cH cX bZ af c4 dl cC cc cp dt dm dC au aW aY ar aS bl bP bO bn bq)=jH bo bD bw bR b4 ck cV cB c7 u cy cH cX bZ af c4 dl cC cc cp dt dm dC au aW aY ar aS bl bP bO bn bq:=by kernel_rfl
theorem Si:(jH bo bD bw bR b4 ck cV cB c7 ag cy cH cX bZ af c4 dl cC cc cp dt dm dC au aW aY ar aS u bl bP bO bn).lookup ("marks":Str)=Y dt:=by kernel_rfl
theorem Sl:(jH bo bD bw bR b4 ck cV cB c7 ag cy cH cX bZ af c4 dl cC cc cp dt dm dC au aW aY ar aS u bl bP bO bn).lookup ("tab_width":Str)=Y bl:=by kernel_rfl
theorem Sj:(jH bo bD bw bR b4 ck cV cB c7 ag cy cH cX bZ af c4 dl cC cc cp dt dm dC au aW aY ar aS u bl bP bO bn).lookup ("rectangle":Str)=Y bP:=by kernel_rfl
theorem U4:bJ "rectangle" u (jH bo bD bw bR b4 ck cV cB c7 ag cy cH cX bZ af c4 dl cC cc cp dt dm dC au aW aY ar aS bl bP bO bn bq)=jH bo bD bw bR b4 ck cV cB c7 ag cy cH cX bZ af c4 dl cC cc cp dt dm dC au aW aY ar aS bl bP u bn bq:=by kernel_rfl
theorem Tt:(jH bo bD bw bR b4 ck cV cB c7 ag cy cH cX bZ af c4 dl cC cc cp dt dm dC au aW aY ar aS u bl bP bO bn).lookup ("current":Str)=am:=by kernel_rfl
theorem RZ:(jH bo bD bw bR b4 ck cV cB c7 ag cy cH cX bZ af c4 dl cC cc cp dt dm dC au aW aY ar aS u bl bP bO bn).length=33:=rfl
theorem SP:bJ "replacing" bn (bJ "last_expansion" bO<|bJ "rectangle" bP<|bJ "tab_width" bl<|bJ "fill_column" u<|bJ "modes" aS<|bJ "panes" ar<|bJ "signal_text" aY<|bJ "is_shifting" aW<|bJ "is_echo_old" au<|bJ "message" dC<|bJ "amalgam" dm<|bJ "marks" dt<|bJ "undoing" cp<|bJ "goals" cc<|bJ "loop" cC<|bJ "matches" dl<|bJ "further" c4<|bJ "rules" af<|bJ "machine" bZ<|bJ "files" cX<|bJ "windows" cH<|bJ "abbrevs" cy<|bJ "registers" ag<|bJ "kills" c7<|bJ "asker" cB<|bJ "questions" cV<|bJ "question_map" ck<|bJ "minor_maps" b4<|bJ "local_maps" bR<|bJ "global_map" bw<|bJ "commands" bD<|bJ "buffers" bo<|[])=jH bo bD bw bR b4 ck cV cB c7 ag cy cH cX bZ af c4 dl cC cc cp dt dm dC au aW aY ar aS u bl bP bO bn:=by kernel_rfl
noncomputable def hx (bo bD bw bR:V):List (Str×V):=[(("room":Str),bo),(("cells":Str),bD),(("gap_start":Str),bw),(("gap_end":Str),bR)]
theorem Sp:(hx bo bD bw bR).lookup ("room":Str)=Y bo:=by kernel_rfl
theorem Sm:(hx bo bD bw bR).lookup ("cells":Str)=Y bD:=by kernel_rfl
theorem So:(hx bo bD bw bR).lookup ("gap_start":Str)=Y bw:=by kernel_rfl
theorem U7:bJ "gap_start" u (hx bo bD bw bR)=hx bo bD u bR:=by kernel_rfl
theorem Sn:(hx bo bD bw bR).lookup ("gap_end":Str)=Y bR:=by kernel_rfl
theorem U6:bJ "gap_end" u (hx bo bD bw bR)=hx bo bD bw u:=by kernel_rfl
theorem Hb:(hx bo bD bw bR).lookup ("size":Str)=am:=by kernel_rfl
theorem Tu:(hx bo bD bw bR).lookup ("code":Str)=am:=by kernel_rfl
theorem Ha:(hx bo bD bw bR).lookup ("codes":Str)=am:=by kernel_rfl
theorem yC:(hx bo bD bw bR).lookup ("move_gap":Str)=am:=by kernel_rfl
theorem Tz:(hx bo bD bw bR).lookup ("widen_gap":Str)=am:=by kernel_rfl
theorem Tw:(hx bo bD bw bR).lookup ("insert":Str)=am:=by kernel_rfl
theorem Tv:(hx bo bD bw bR).lookup ("delete":Str)=am:=by kernel_rfl
theorem Gy:(hx bo bD bw bR).length=4:=rfl
theorem SQ:bJ "gap_end" bR (bJ "gap_start" bw<|bJ "cells" bD<|bJ "room" bo<|[])=hx bo bD bw bR:=by kernel_rfl
noncomputable def Zc (bo:V):List (Str×V):=[(("number":Str),bo)]
noncomputable def ma (bo bD bw:V):List (Str×V):=[(("most":Str),bo),(("markers":Str),bD),(("last":Str),bw)]
theorem Ss:(ma bo bD bw).lookup ("most":Str)=Y bo:=by kernel_rfl
theorem Sr:(ma bo bD bw).lookup ("markers":Str)=Y bD:=by kernel_rfl
theorem U9:bJ "markers" u (ma bo bD bw)=ma bo u bw:=by kernel_rfl
theorem Sq:(ma bo bD bw).lookup ("last":Str)=Y bw:=by kernel_rfl
theorem U8:bJ "last" u (ma bo bD bw)=ma bo bD u:=by kernel_rfl
theorem Gz:(ma bo bD bw).length=3:=rfl
theorem SR:bJ "last" bw (bJ "markers" bD<|bJ "most" bo<|[])=ma bo bD bw:=by kernel_rfl
noncomputable def g9 (bo bD bw bR:V):List (Str×V):=[(("number":Str),bo),(("advances":Str),bD),(("buffer":Str),bw),(("position":Str),bR)]
theorem Sv:(g9 bo bD bw bR).lookup ("number":Str)=Y bo:=by kernel_rfl
theorem Su:(g9 bo bD bw bR).lookup ("advances":Str)=Y bD:=by kernel_rfl
theorem uW:(g9 bo bD bw bR).lookup ("buffer":Str)=Y bw:=by kernel_rfl
theorem Va:bJ "buffer" u (g9 bo bD bw bR)=g9 bo bD u bR:=by kernel_rfl
theorem Sw:(g9 bo bD bw bR).lookup ("position":Str)=Y bR:=by kernel_rfl
theorem Hw:bJ "position" u (g9 bo bD bw bR)=g9 bo bD bw u:=by kernel_rfl
theorem x3:(g9 bo bD bw bR).length=4:=rfl
theorem SS:bJ "position" bR (bJ "buffer" bw<|bJ "advances" bD<|bJ "number" bo<|[])=g9 bo bD bw bR:=by kernel_rfl
noncomputable def kF (bo:V):List (Str×V):=[(("rows":Str),bo)]
theorem GE:(kF bo).lookup ("rows":Str)=Y bo:=by kernel_rfl
theorem yD:(kF bo).lookup ("numbers":Str)=am:=by kernel_rfl
theorem TD:(kF bo).lookup ("put":Str)=am:=by kernel_rfl
theorem TC:(kF bo).lookup ("inserted":Str)=am:=by kernel_rfl
theorem TB:(kF bo).lookup ("deleted":Str)=am:=by kernel_rfl
theorem TF:(kF bo).lookup ("replaced":Str)=am:=by kernel_rfl
theorem SU:bJ "rows" bo ([])=kF bo:=by kernel_rfl
noncomputable def r4 (bo:V):List (Str×V):=[(("contents":Str),bo)]
theorem GF:(r4 bo).lookup ("contents":Str)=Y bo:=by kernel_rfl
theorem SV:bJ "contents" bo ([])=r4 bo:=by kernel_rfl
noncomputable def og (bo bD bw bR b4:V):List (Str×V):=[(("low":Str),bo),(("high":Str),bD),(("rows":Str),bw),(("first":Str),bR),(("last":Str),b4)]
theorem SA:(og bo bD bw bR b4).lookup ("low":Str)=Y bo:=by kernel_rfl
theorem Sy:(og bo bD bw bR b4).lookup ("high":Str)=Y bD:=by kernel_rfl
theorem SB:(og bo bD bw bR b4).lookup ("rows":Str)=Y bw:=by kernel_rfl
theorem Sx:(og bo bD bw bR b4).lookup ("first":Str)=Y bR:=by kernel_rfl
theorem Sz:(og bo bD bw bR b4).lookup ("last":Str)=Y b4:=by kernel_rfl
theorem SW:bJ "last" b4 (bJ "first" bR<|bJ "rows" bw<|bJ "high" bD<|bJ "low" bo<|[])=og bo bD bw bR b4:=by kernel_rfl
theorem BP (H:ba c)(ah:ar≠.aD)(o:aS≠.aD)(f:u≠.aD)(g:bo≠.aD)(B:bw≠.aD) (af:∀a d Z,hX 566 a d (og ar aS u bo bw) I Z->ad (.ref a) Z):bk c 2 (.ref 566) [ar,aS,u,bo,bw] ad I:=by refine mx H.ok (H.k 9) λa d ay m=>Md (n:=0) H<|qX ah<|e7 m (H.d 75) (by kernel_rfl) ?_;intro L aN m;refine qX o<|e7 m (H.d 76) (by kernel_rfl) ?_;intro G M m;refine qX f<|e7 m (H.d 77) (by kernel_rfl) ?_;intro U bz m;refine qX g<|e7 m (H.d 78) (by kernel_rfl) ?_;intro v bN m;refine qX B<|e7 m (H.d 79) (by kernel_rfl) ?_;intro l bM m;exact⟨rfl,af _ _ _<|m.as SW⟩
noncomputable def gH:Nat->List Int->List Int->Nat
 |m+1,x::Q,y::bG=>if x=y then gH m Q bG+1 else 0
 |_,_,_=>0
theorem w5 {m:Nat}:∀{Q bG:List Int},gH m Q bG<=m/\gH m Q bG<=Q.length/\gH m Q bG<=bG.length:=by
 have z {a b d:Nat}:0<=a/\0<=b/\0<=d:=⟨dU _,dU _,dU _⟩;induction m with
 |zero=>exact z
 |succ m B=>intro Q bG;cases Q with
  |nil=>exact z
  |cons x Q=>cases bG with
   |nil=>exact z
   |cons y bG=>
    by_cases C:x=y
    ·have e:gH (m+1) (x::Q) (y::bG)=gH m Q bG+1:=if_pos C;refine J e ?_;exact⟨hR B.1,hR B.2.1,hR B.2.2⟩
    ·have e:gH (m+1) (x::Q) (y::bG)=0:=if_neg C;exact J e z
theorem EP {m:Nat}:∀{Q bG:List Int},Q.take (gH m Q bG)=bG.take (gH m Q bG):=by
 induction m with
 |zero=>exact rfl
 |succ m B=>intro Q bG;cases Q with
  |nil=>exact rfl
  |cons x Q=>cases bG with
   |nil=>exact rfl
   |cons y bG=>
    by_cases C:x=y
    ·have e:gH (m+1) (x::Q) (y::bG)=gH m Q bG+1:=if_pos C;refine J e ?_;exact J C (congrArg (y:: ·) B)
    ·have e:gH (m+1) (x::Q) (y::bG)=0:=if_neg C;exact J e rfl
theorem EO:∀{m j:Nat} {Q bG:List Int},(∀x y,j<m->Q[j]?=Y x->bG[j]?=Y y->x≠y)->gH (m -j) (Q.drop j) (bG.drop j)=0:=by
 intro m j Q bG C;cases e:m -j with
 |zero=>rfl
 |succ k=>
  cases bv:Q.drop j with
  |nil=>rfl
  |cons x a=>
   cases bE:bG.drop j with
   |nil=>rfl
   |cons y b=>exact if_neg<|C x y (Yk<|e▸Av k) (by rw[<-Yo,bv];rfl) (by rw[<-Yo,bE];rfl)
theorem N4 (hm:j<b)(ak:Q[j]?=Y pt)(ao:A[j]?=Y pt):gH (b -j) (Q.drop j) (A.drop j)=gH (b -(j+1)) (Q.drop<|j+1) (A.drop<|j+1)+1:=by obtain⟨aL,ex⟩:=e8.mp ak;obtain⟨L,d⟩:=e8.mp ao;rw[show b -j=b -(j+1)+1 from(Nat.succ_pred_eq_of_pos<|Au hm).symm,Aw aL,Aw L,ex,d];exact if_pos rfl
theorem EW (H:ba c)(ax:I ae=Y (.list<|br Q))(U:I cl=Y (.list<|br A))(aq:Q.length<=200000)(P:A.length<=200000) (af:ad (.int<|gH b Q A) I):bk c 1 (.ref 605) [.ref ae,.ref cl,.int b] ad I:=by
 refine Mm (n:=0) H ?_;let E:Nat->Unit->List V:=λj q=>[.ref ae,.ref cl,.int b,.int (j:Nat)];refine x0 Q.length E (λj q Z=>Z=I/\gH b Q A=j+gH (b -j) (Q.drop j) (A.drop j)) (a:=()) rfl ⟨rfl,(Ax _).symm⟩ λj q Z bu a1=>?_;obtain⟨rfl,a1⟩:=a1;have fin:gH (b -j) (Q.drop j) (A.drop j)=0->ad (.int (j:Nat)) Z:=λC=>by replace a1:=(p2 _)▸C▸a1;rw[<-a1];exact af
 refine li ax (by rw[e1];exact jY aq<|by decide)<|li U (by rw[e1];exact jY P<|by decide) ?_;rw[e1,e1];refine db (p:=(j:Int)<min (min (b:Int) (Q.length:Nat)) (A.length:Nat)) (λG=>?_) λw=>fin<|EO λx y hm ex d=>?_
 ·have ao:j<A.length:=fl.mp<|p3 G<|Yp ..;have bp:=p3 G<|Yq ..;have ak:j<Q.length:=fl.mp<|p3 bp<|Yp ..;have h0:j<b:=fl.mp<|p3 bp<|Yq ..;have aL:Q[j]?=Y Q[j]:=eu ak;have L:A[j]?=Y A[j]:=eu ao;refine ps ax aL (a5 aq<|by decide) (ps U L (a5 P<|by decide)<|db (λhe=>(qo.mk (E:=E) () ak ⟨rfl,?_⟩)) λbw=>(fin<|EO λx y q ex d=>?_))
  ·rw[a1,N4 h0 aL<|he▸L,Yj _ 1,<-Ay]
  ·replace ex:=aL▸ex;replace d:=L▸d;cases ex;cases d;exact bw
 ·have ak:=(e8.mp ex).1;have ao:=(e8.mp d).1;exact(w<|Yr.mpr ⟨Yr.mpr ⟨fl.mpr hm,fl.mpr ak⟩,fl.mpr ao⟩).elim
theorem Vy (H:ba c)(ax:I ae=Y (.list<|br Q))(aP:b9 Q)(aq:Q.length<=50000)(P:bf<=50000) (af:∀Z,bF I Z->ad (.int Q.length) Z):bk c 5 (.ref 682) [.ref ae,.int bf,.int 8] ad I:=by refine Nw (n:=4) H ⟨(H.f 37),fu rfl rfl λa ay av n₁ aZ=>TM aZ P λb aN a3 o O=>?_⟩;have x:=av.trans a3;refine eC O (x _ _ ax) (hO P) aq rfl λd M K aH aV=>ca<|oJ H aV (b9.V8.append aP) (jc (hO P) aq) λbz bn=>dP ?_;rw[bK,nK,Jh,Jj,As];exact af _<|(x.trans K).trans bn
theorem KF (H:ba c)(hf:I ae=Y (.list us))(U:I cl=Y (.list b6))(ap:us.getLast?=Y (.ref N))(ax:b6.getLast?=Y (.ref bT))(aL:I N=Y (.list<|br Q))(L:I bT=Y (.list<|br A)) (g:b9 Q)(h:b9 A)(d:us.length<=100000)(J:b6.length<=100000)(b:Q.length<=100000)(l:A.length<=50000)(lH:bf<=50000) (af:∀Z,bF I Z->ad (.int (min Q.length (bf+A.length):Nat)) Z):bk c 6 (.ref 675) [.ref ae,.int bf,.ref cl,.int 8] ad I:=by
 have i:us[us.length -1]?=Y (.ref N):=by rw[<-ap,ru]
 have lw:b6[b6.length -1]?=Y (.ref bT):=by rw[<-ax,ru]
 have v:0<us.length:=by cases us with|nil=>exact bX ap|cons=>exact Av _
 have u:0<b6.length:=by cases b6 with|nil=>exact bX ax|cons=>exact Av _
 refine Me (n:=5) H<|li hf (fd d)<|xJ hf (sU v) i (fd d) ⟨(H.f 70),li U (fd J)<|xJ U (sU u) lw (fd J)<|ca<|Vy H L h l lH λay av=>?_⟩;let E:Nat->Unit->List V:=λj q=>[.ref ae,.int bf,.ref cl,.int 8,.int (j:Nat),.ref N,.int (j:Nat),.int A.length];refine x0 Q.length E (λj q Z=>bF I Z/\j<=bf+A.length) (a:=()) rfl ⟨av,dU _⟩ λj q aN bu C=>?_;have a3:=C.1;refine dK (a3 _ _ aL) (dN b)<|db (λG=>?_) λw=>?_
 ·have G:=fl.mp G;refine db (λe=>⟨(H.f 37),up (k:=j+1) (a3 _ _ aL) (dN b) λa M K aH aV=>ca<|oJ H aV (g.take _) (eD b) λbz bn=>?_⟩) λw=>?_
  ·rw[cF,dG G];exact qo.mk (E:=E) () G ⟨(a3.trans K).trans bn,fl.mp e⟩
  ·have:=af _ a3;rwa[<-Jq C.2 (dL.mp<|il.mp w),j1 bu] at this
 ·have:=af _ a3;rw[<-Jq bu (dL.mp<|il.mp w),dG C.2] at this;exact this
noncomputable def iG:List (List Int)×List Int->Int->List (List Int)×List Int:=λs x=>if x=10 then(s.1++[s.2],[]) else(s.1,s.2++[x])
noncomputable def hP (cs:List Int):List (List Int)×List Int:=cs.foldl iG ([],[])
noncomputable def fL (cs:List Int):List (List Int):=(hP cs).1++[(hP cs).2]
theorem zk:hP (A++[pt])=iG (hP A) pt:=by unfold hP;refine J Ys ?_;rfl
theorem HV {cs:List Int}:(hP cs).1.length<=cs.length/\(hP cs).2.length<=cs.length:=by
 have g:∀(n:Nat) (cs:List Int),cs.length=n->(hP cs).1.length<=n/\(hP cs).2.length<=n:=by
  intro n;induction n with
  |zero=>intro cs C;cases kZ.mp C;simp[hP]
  |succ n B=>intro cs C;obtain⟨bG,y,rfl⟩:∃bG y,cs=bG++[y]:=⟨cs.dropLast,cs.getLast (λe=>by rw[e] at C;cases C),(v0 _).symm⟩;have:=B bG (by simpa using C);refine J zk ?_;unfold iG;split<;>simp<;>(first|exact bH (.le aa ab) [.le aa ab] this.1|exact⟨bH (.le aa<|.a ab aC) [.le aa ab] this.1,bH (.le aa ab) [.le aa ab] this.2⟩)
 exact g _ cs rfl
noncomputable def aT:List (List Int)->List Int
 |[]=>[]
 |[r]=>r
 |r::s::rs=>r++10::aT (s::rs)
theorem qL:∀{rs:List (List Int)} {r:List Int},aT (rs++[r])=if rs=[] then r else aT rs++10::r
 |[],r=>rfl
 |[s],r=>rfl
 |s::t::rs,r=>by have:=@qL (t::rs) r;rw[if_neg λX=>by cases X] at this;refine(?_:s++10::aT ((t::rs)++[r])=_);refine J this<|J (if_neg λX=>by cases X)<|(?_:_=(s++10::aT (t::rs))++10::r);simp
theorem uD {l:Addr}:br Q≠us++[.ref l]:=λC=>by
 have:V.ref l∈br Q:=by refine J C ?_;simp
 refine a9 (eF.mp this) λx q e=>?_;cases e
theorem D8 {c aq:av->fm->Prop}:∀{as:List av} {bs:List fm},bY c as bs->(∀a b,a∈as->c a b->aq a b)->bY aq as bs:=by
 intro D;induction D with
 |nil=>
  intro f;cases f with
  |nil=>intro o K;exact trivial
  |cons _ _=>intro d l;first|exact d.elim|exact l.elim|cases d|cases l
 |cons e i B=>
  intro f;cases f with
  |nil=>intro d l;first|exact d.elim|exact l.elim|cases d|cases l
  |cons h j=>intro g C;obtain⟨x,y⟩:=g;exact⟨C _ _ (.head _) x,B y λa b m=>C a b<|.tail _ m⟩
def gf (y I:aI)(u:V)(Q:List Int):Prop:=∃a,u=.ref a/\y a=am/\I a=Y (.list<|br Q)
theorem gf.Q8 (C:gf Z I u Q)(az:eJ aJ Z):IsL aJ I u Q:=d8 C λa e n g=>⟨a,e,az.fresh n,g⟩
theorem gf.Kt (C:gf ay I u Q)(x:bF Z ay):gf Z I u Q:=d8 C λa e n g=>⟨a,e,x.none n,g⟩
theorem gf.on (C:gf ay I u Q)(k:∀b,u=.ref b->ay b=am->I b=Y (.list<|br Q)->Z b=Y (.list<|br Q)):gf ay Z u Q:=d8 C λa e n g=>⟨a,e,n,k a e n g⟩
structure m0 (I Z:aI)(a:Addr)(s:List (List Int)×List Int)(us:List V)(l:Addr):Prop where
 x:bF I Z
 aK:Z a=Y (.list (us++[.ref l]))
 nl:I l=am
 e2:l≠a
 ne:∀w∈us,w≠.ref l
 ap:Z l=Y (.list (br s.2))
 all:bY (gf I Z) us s.1
variable{af:List (List Int)×List Int}
theorem m0.more (C:m0 I Z a af us ae)(na:I a=am)(bn:bF Z ay)(be:Z cl=am)(bc:ay cl=Y (.list []))(s:Upd ay aN a (.list<|(us++[.ref ae])++[.ref cl])):m0 I aN a (iG af 10) (us++[.ref ae]) cl:=by
 have c:cl≠a:=(cQ C.aK be).symm;refine⟨s.ext (C.x.trans bn) na,s.at,C.x.none be,c,λw aR e=>?_,(s.ne c).trans bc,bY.append (C.all.mono λw bG aG=>aG.on λb e q aA=>?_) ⟨(dj ae rfl C.nl<|(s.ne C.e2).trans<|bn _ _ C.ap),trivial⟩⟩
 ·subst e;rcases gO.mp aR with aR|aR
  ·obtain⟨k,an⟩:=Az.mp aR;refine bA λco aB=>ig (C.all.get' an) λbG q b e q aA=>aB ?_;cases e;exact cQ aA be rfl
  ·cases gD.mp aR;exact cQ C.ap be rfl
 ·exact(s.ne<|gc aA C.aK λX=>uD<|O.list.inj X).trans<|bn _ _ aA
theorem m0.step (C:m0 I Z a af us ae)(L:pt≠10)(bf:Upd Z ay ae (.list<|br<|af.2++[pt])):m0 I ay a (iG af pt) us ae:=by unfold iG;exact J (if_neg L)<|⟨bf.ext C.x C.nl,(bf.ne<|hT C.e2).trans C.aK,C.nl,C.e2,C.ne,bf.at,D8 C.all λw bG aR aG=>aG.on λb e q aA=>(bf.ne λX=>C.ne w aR<|by exact J e<|J X rfl).trans aA⟩
theorem HH (H:ba c)(ax:I ae=Y (.list<|br A))(aq:A.length<=100000) (af:∀a us Z,bF I Z->I a=am->Z a=Y (.list us)->bY (gf I Z) us (fL A)->ad (.ref a) Z):bk c 1 (.ref 577) [.ref ae] ad I:=by
 refine Nx (n:=0) H<|fu rfl rfl λl ay av n₁ aZ=>fu rfl rfl λa aN a3 o O=>hB (a3 _ _<|av _ _ ax) ?_;have na:I a=am:=av.none o;let E:Nat->V×List V×Addr->List V:=λq p=>[.ref ae,p.1,.ref a];let P:Nat->V×List V×Addr->aI->Prop:=λj p Z=>m0 I Z a (hP<|A.take j) p.2.1 p.2.2;refine uQ E P (a:=(.aD,[],l)) rfl ⟨av.trans a3,O,n₁,cQ aZ o,jR,a3 _ _ aZ,trivial⟩ (λj p Z C=>C.x _ _ ax) (λj p M u C aU=>?_) λp M C=>?_
 ·refine a9 (oq aU) λy aL bh=>?_;refine J bh ?_;have g:hP (A.take<|j+1)=iG (hP<|A.take j) y:=by refine J jZ<|J aL ?_;exact zk
  have bL:=@HV<|A.take j;have bu:=eD (k:=j) aq;have S:p.2.1.length<=100000:=C.all.length▸a5 bL.1 bu;have z:(p.2.1++[V.ref p.2.2]).length<=100001:=jc (n:=1) S<|c1 1;refine db (λhe=>⟨ty_list C.aK,fu rfl rfl λN bz bn be bc=>Eb (bn _ _ C.aK) z λbN s=>fM.mk (E:=E<|j+1) (P:=P<|j+1) (.int y,p.2.1++[.ref p.2.2],N) ?_⟩) λbw=>li C.aK (jY z<|by decide)<|dP<|xJ C.aK (k:=p.2.1.length) ?_ List.getElem?_concat_length (jY z<|by decide)<|Ea C.ap (a5 bL.2 bu) λbz bf=>fM.mk (E:=E<|j+1) (P:=P<|j+1) (.int y,p.2.1,p.2.2) ?_
  ·refine(?_:m0 I bN a (hP<|A.take<|j+1) _ N);refine J g<|J he ?_;exact C.more na bn be bc s
  ·refine J bK ?_;exact As (p.2.1.length:Int) 1
  ·refine(?_:m0 I bz a (hP<|A.take<|j+1) _ p.2.2);refine J g ?_;exact C.step bw bf
 ·have ap:=C.ap;have i:=C.all;rw[e1,k0] at ap i;exact af _ _ _ C.x na C.aK<|i.append ⟨(dj _ rfl C.nl ap),trivial⟩
def hZ (I:aI)(u:V)(Q:List Int):Prop:=∃a,u=.ref a/\I a=Y (.list<|br Q)
theorem hZ.ext (C:hZ I u Q)(x:bF I Z):hZ Z u Q:=a9 C λa e g=>⟨a,e,x _ _ g⟩
theorem IsL.rw (C:IsL aJ I u Q):hZ I u Q:=d8 C λa e q g=>⟨a,e,g⟩
theorem sy {rs:List (List Int)}:∀{k:Nat},(aT<|rs.take k).length<=(aT rs).length:=by
 induction rs with
 |nil=>intro k;cases k<;>exact c1 _
 |cons r rs B=>intro k;cases k with
  |zero=>exact dU _
  |succ k=>cases rs with
   |nil=>cases k<;>exact c1 _
   |cons s rs=>cases k with
    |zero=>refine(?_:r.length<=(r++10::aT (s::rs)).length);exact J bK<|nU _ _
    |succ k=>refine(?_:(r++10::aT ((s::rs).take<|k+1)).length<=(r++10::aT (s::rs)).length);exact J bK<|J bK<|Js (hR<|B (k:=k+1)) _
theorem Gb {rs:List (List Int)}{k:Nat}{r:List Int}(C:rs[k]?=Y r):aT (rs.take<|k+1)=if k=0 then r else aT (rs.take k)++10::r:=by
 have an:=(e8.mp C).1;refine J jZ<|J C<|J (tn _)<|J qL ?_;by_cases h0:k=0
 ·refine J h0 ?_;simp
 ·rw[if_neg h0,if_neg];intro e;have:=congrArg rv e;rw[cF,ju] at this;exact ch .nh [.lt aa ab,.ne aa b1,.eq ah b1,.cN ah aa ab] an h0 this rfl
theorem zy (H:ba c)(ax:I a=Y (.list us))(aQ:bY (hZ I) us h)(aq:h.length<=100000)(bu:(aT h).length<=1000000) (af:jB ad I (aT h)):bk c 1 (.ref 584) [.ref a] ad I:=by
 have ap:=aQ.length;refine NH (n:=0) H<|fu rfl rfl λb ay av n₁ aZ=>li (av _ _ ax) (fd<|ap▸aq)<|sX (ap▸aq) ?_;let E:Nat->V->List V:=λq u=>[.ref a,.ref b,u];let P:Nat->V->aI->Prop:=λj q Z=>bF I Z/\Z b=Y (.list<|br<|aT<|h.take j);refine Gk E P rfl ⟨av,aZ⟩ (λk u aN C an=>?_) λu aN C=>?_
 ·have aL:=eu<|ap▸an;refine bA λco aB=>?_;refine kq (aQ.get aL) λw aR d bt hd=>?_;subst bt;refine aB ?_;have e:=Gb aL;have bL:=a5 (@sy h<|k+1) bu;have last:∀{M:aI} {cs:List Int},bF I M->M b=Y (.list<|br cs)->cs++h[k]'(ap▸an)=aT (h.take<|k+1)->wx (x8 (d5 c 0 ad) (fM (E<|k+1)<|P<|k+1)<|bi 1 bC) [.ref a,.ref b,.int (k:Nat)] [] M:=λK aV a7=>by refine⟨ty_list aV,cU (K _ _ ax) aR (fd<|ap▸aq)<|W1 aV (K _ _ hd) (by refine J a7 ?_;exact bL) λbz bf=>fM.mk (E:=E<|k+1) (P:=P<|k+1) (.int k) ⟨bf.ext K n₁,?_⟩⟩;exact J bf.at<|J a7 rfl
  refine db (λh0=>?_) λh0=>?_
  ·rw[if_neg λX=>by rw[X] at h0;exact absurd h0<|by decide] at e;refine⟨ty_list C.2,Kc C.2 ?_ λM o=>last (o.ext C.1 n₁) o.at (by refine J e<|J (en _ _ _) ?_;rfl)⟩;rw[e,bK] at bL;exact a5 (nU ..) bL
  ·have f:k=0:=Yt.mp<|dL.mp<|il.mp h0;rw[if_pos f] at e;have ao:=C.2;rw[f,nS] at ao;exact last C.1 ao (by refine J e ?_;rfl)
 ·have ao:=C.2;rw[ap,k0] at ao;exact af _ _ C.1 n₁ ao
noncomputable def gY (aE:List (List Int))(f:Nat)(b:Int):List (List Int):=aE.mapIdx λk aM=>eU aM f<|qY (b+aE.length)<|b+k
theorem TW (H:ba c)(ax:I ae=Y (.list us))(aQ:bY (hZ I) us h)(aP:∀aM∈h,b9 aM/\aM.length<=100000)(hf:l<=100000)(aA: -3<=pt)(j:pt+h.length<=200) (af:∀a aj Z,bF I Z->I a=am->Z a=Y (.list aj)->bY (gf I Z) aj (gY h l pt)->ad (.ref a) Z):bk c 8 (.ref 549) [.ref ae,.int l,.int pt,.int 8] ad I:=by
 have ap:=aQ.length;have i:us.length<=100000:=by exact jQ (.le aa<|.k 100000) [.bW (.g<|.k 3) bh,.bW (.a bh<|.c ab)<|.k 200,.eq aa ab] aA j ap
 have F:pt+(h.length:Nat)<=200:=j;have m: -3<=pt+(h.length:Nat):=tp aA<|Yu<|mR _;refine Na (n:=7) H ⟨(H.f 34),li ax (fd i) ?_⟩;refine J ap ?_;have aR:=(qZ m F).2;refine ca<|Fu H m F ⟨jY aR<|by decide,fu rfl rfl λa ay av na aZ=>li (av _ _ ax) (fd i)<|sX i ?_⟩;let E:Nat->V×V->List V:=λq p=>[.ref ae,.int l,.int pt,.int 8,.ref a,p.1,p.2,.int (jT<|pt+h.length).length];let P:Nat->V×V->aI->Prop:=λk q Z=>∃aj,bF I Z/\Z a=Y (.list aj)/\bY (gf I Z) aj ((gY h l pt).take k)/\∀v∈aj,v≠.ref a;refine Gk E P (a:=(.aD,.aD)) rfl (mM ([]) av aZ trivial jR) (λk p aN C an=>?_) λp aN C=>?_
 ·refine mA C λaj a3 O a6 aK=>?_;clear C;have G:k<h.length:=ap▸an;have aL:=eu G;refine bA λco aB=>?_;refine kq (aQ.get aL) λv aW d bt hd=>?_;subst bt;obtain⟨bR,bo⟩:=aP _<|d1 aL;refine aB ?_;have ah:pt+(k:Nat)<=200:=tp (Int.add_le_add_left (dL.mpr<|hp G) pt) F;have o: -3<=pt+(k:Nat):=tp aA<|Yu<|mR _;have U:=yJ o ah m F;have x:=(qZ o ah).2;have aF:aj.length<=100000:=by rw[a6.length,cF,gY,k1];exact a5 (nP ..) (a5 (hp an) i)
  have t:(mz (pt+h.length)<|pt+k).length<=c5:=a5 U.2 (by refine J eI ?_;decide);refine⟨(H.f 34),ca<|Fu H o ah ⟨rfl,YV (dL.mpr aR)<|by decide,jY x<|by decide,p3 (by decide)<|mR _,?_,t⟩⟩;refine⟨ty_list O,(H.f 49),cU (a3 _ _ ax) aW (fd i) ⟨?_,vh t λe M aH=>?_⟩⟩
  ·refine(?_:(mz (pt+h.length)<|pt+k).cps.all _=true);refine bm Jt<|mJ rr ?_;exact λy L=>decide_eq_true<|v1 (U.1 y L).2 (by decide)
  ·have kK:(d0<|mz (pt+h.length)<|pt+k).length<=100000:=by unfold d0;refine J (fx _) ?_;exact a5 U.2 (by decide)
   have K:=a3.trans aH.ext;have aV:=aH.ext _ _ O;refine ca<|Hy H (K _ _ hd) aH.at bR bo hf kK λw bz bn u A=>Eb (bn _ _ aV) (a5 aF<|by decide) λbN s=>fM.mk (E:=E<|k+1) (P:=P<|k+1) (.int k,_)<|mM _ (s.ext (K.trans bn) na) s.at ?_ λv b X=>?_
   ·have bJ:(gY h l pt)[k]?=Y (eU h[k] l<|qY (pt+h.length)<|pt+k):=by unfold gY;refine J hq<|J aL ?_;rfl
    refine J jZ<|J bJ ?_;exact bY.append (D8 a6 λv Q hm aG=>aG.on λpt a7 q aG=>(s.ne λX=>aK v hm<|by exact J a7<|J X rfl).trans<|bn _ _<|aH.ext _ _ aG) ⟨(dj w rfl (K.none u)<|(s.ne<|hT<|cQ aV u).trans A),trivial⟩
   ·rcases gO.mp b with b|b
    ·exact aK v b X
    ·cases gD.mp b;cases X;exact cQ aV u rfl
 ·refine mA C λaj a3 O a6 aK=>?_;clear C;rw[ik<|by unfold gY;refine J k1<|J ap ?_;exact c1 _] at a6;exact af _ _ _ a3 na O a6
theorem s0 {l:List av}(C:e<=b):l.take e++(l.take b).drop e=l.take b:=by have:=ho e<|l.take b;rwa[tm,dG C] at this
theorem HU {a b:Nat}{l:List av}(C:a<=b):l.take a++(l.take b).drop a++l.drop b=l:=by exact J (s0 C)<|J (ho _ _) rfl
theorem Ol {d b a:Nat}{l:List av}(ak:a<=b)(ao:b<=d)(bp:b<=l.length):(l.take d).drop a=(l.take b).drop a++(l.take d).drop b:=by exact bm (s0 ao (l:=l))<|J (rx<|by rw[cF];exact cn (.le aa ab) [.le aa ah,.le ah az,.cN ab ah az] ak bp rfl)<|J (s0 ao) rfl
theorem Ec {pre post aL:List av}{e:Nat}(C:e<=pre.length):(pre++aL++post).take e=(pre++post).take e:=by exact J (en _ _ _)<|J (tq C)<|J (tq C) rfl
theorem FL {pre post aL:List av}{e:Nat}(C:pre.length<=e):(pre++aL++post).take (e+aL.length)=pre++aL++post.take (e -pre.length):=by exact J (by rw[bK];exact cn (.eq (.a aa ab)<|.a (.a ah ab) az) [.le ah aa,.sub az aa ah] C rfl:e+aL.length=(pre++aL).length+(e -pre.length))<|J (v2 _) rfl
theorem xx (C:pre.length<=b)(aF:List av):(pre++aL++aF).drop (b+aL.length)=aF.drop (b -pre.length):=by exact J (by rw[bK];exact cn (.eq (.a aa ab)<|.a (.a ah ab) az) [.le ah aa,.sub az aa ah] C rfl:b+aL.length=(pre++aL).length+(b -pre.length))<|J (tr _) rfl
theorem yV {pre post:List av}{e:Nat}(C:pre.length<=e):(pre++post).take e=pre++post.take (e -pre.length):=by conv=>lhs;rw[show e=pre.length+(e -pre.length) by exact ch (.eq aa<|.a ab ah) [.le ab aa,.sub ah aa ab] C rfl,v2]
theorem yU (C:pre.length<=b)(aF:List av):(pre++aF).drop b=aF.drop (b -pre.length):=by conv=>lhs;rw[show b=pre.length+(b -pre.length) by exact ch (.eq aa<|.a ab ah) [.le ab aa,.sub ah aa ab] C rfl,tr]
theorem QB {pre post aL:List av}{e s:Nat}(C:pre.length<=s)(aG:s<=e):((pre++aL++post).take<|e+aL.length).drop (s+aL.length)=((pre++post).take e).drop s:=by exact J (FL<|a5 C aG)<|J (xx C _)<|J (yV<|a5 C aG)<|J (yU C _) rfl
theorem pre_take {a c b:List av}:(a++b++c).take a.length=a:=by exact J (en _ _ _)<|J v3 rfl
theorem xy {pre post aL:List av}{e:Nat}(C:pre.length<=e):((pre++aL++post).take<|e+aL.length).drop (pre.length+aL.length)=post.take (e -pre.length):=by exact J (FL C)<|J (xx (c1 _) _)<|J (rt _)<|J tk rfl
theorem Hs {a c b:List av}:(a++b++c).drop (a.length+b.length)=c:=by exact bm bK<|J v4 rfl
theorem QA {pre post aL:List av}{e s:Nat}(C:s<=pre.length)(aG:pre.length<=e):((pre++aL++post).take pre.length).drop s++((pre++aL++post).take<|e+aL.length).drop (pre.length+aL.length)=((pre++post).take e).drop s:=by exact J pre_take<|J (xy aG)<|J (yV aG)<|J (rx C) rfl
theorem Tg {pre post aL:List av}{k:Nat}(C:k<=pre.length):(pre++aL++post).take (k+aL.length)++((pre++aL++post).take pre.length).drop k++(pre++aL++post).drop (max (k+aL.length)<|pre.length+aL.length)= (pre++aL++post).take k++((pre++aL++post).take<|k+aL.length).drop k++(((pre++aL++post).take pre.length).drop k++(pre++aL++post).drop (pre.length+aL.length)):=by exact J (nV<|AA C _)<|J (s0<|nU k _)<|J (en _ _ _) rfl
theorem Th {pre post aL:List av}{k:Nat}(C:k<=pre.length):((pre++aL++post).take pre.length).drop k++(pre++aL++post).drop (pre.length+aL.length)=(pre++post).drop k:=by exact J pre_take<|J Hs<|J (rx C) rfl
theorem Tj {pre post aL:List av}{k:Nat}(C:pre.length<=k):(pre++aL++post).take pre.length++((pre++aL++post).take<|k+aL.length).drop (pre.length+aL.length)++(pre++aL++post).drop (max pre.length k)= (pre++aL++post).take pre.length++((pre++aL++post).take<|k+aL.length).drop (pre.length+aL.length)++((pre++aL++post).take<|k+aL.length).drop k++(pre++aL++post).drop (k+aL.length):=by
 refine J (nV C)<|J (en _ (Yv k _) _) ?_;congr 1;have:=congrArg (Yv k)<|ho (k+aL.length)<|pre++aL++post;by_cases X:k<=((pre++aL++post).take<|k+aL.length).length
 ·rw[rx X] at this;exact this.symm
 ·rw[cF,bK,bK] at X;refine J (i6<|by simp only[bK];exact de (.le (.a (.a aa ab) ah) az) [.jn az a8,.cN a8 (.a az ab)<|.a (.a aa ab) ah] X rfl)<|J (i6<|by simp only[cF,bK];exact bH (.le aa ab) [.jn ab aa] X)<|J (i6<|by simp only[bK];exact de (.le (.a (.a aa ab) ah)<|.a az ab) [.jn az a8,.cN a8 (.a az ab)<|.a (.a aa ab) ah] X rfl) ?_;rfl
theorem Tk {pre post aL:List av}{k:Nat}(C:pre.length<=k):(pre++aL++post).take pre.length++((pre++aL++post).take<|k+aL.length).drop (pre.length+aL.length)=(pre++post).take k:=by exact J pre_take<|J (xy C)<|J (yV C) rfl
theorem Ti {pre post aL:List av}{k:Nat}(C:pre.length<=k):(pre++aL++post).drop (k+aL.length)=(pre++post).drop k:=by exact J (xx C _)<|J (yU C _) rfl
theorem WU {av:Type}{pre post aL:List av}{m:List av}:(pre++aL++post).take (pre.length+aL.length)++m++(pre++aL++post).drop (max (pre.length+aL.length)<|pre.length+aL.length)=pre++(aL++m)++post:=by exact J (Nat.max_self _)<|J Hs<|bm bK<|J v3<|J (en pre _ _) rfl
theorem QW {av:Type}{B aL W:List av}{k:Nat}{cs:List av}(C:W.length=k)(aG:cs.length<=aL.length):(W++aL++B).take k++cs++(W++aL++B).drop (max k<|k+cs.length)=W++cs++aL.drop cs.length++B:=by exact bm C<|J pre_take<|J (nV<|nU _ _)<|J (en W aL _)<|J (tr _)<|J (rx aG)<|J (en (W++cs) _ _) rfl
theorem Oo {pre post:List av}{e s:Nat}(C:s<=pre.length)(aG:pre.length<=e):(pre++post).take s++(pre++post).drop e=pre.take s++post.drop (e -pre.length):=by exact J (tq C)<|J (yU aG _) rfl
theorem Op {pre post aL:List av}{s k:Nat}(C:s<=pre.length):pre++aL++post=pre.take s++(pre.drop s++aL++post.take k)++post.drop k:=by simp only[<-en,ho];simp only[en,ho]
theorem Ta (C:b<=aL.length -e):pre++aL.take b++(aL.take<|aL.length -e).drop b++(aL.drop (aL.length -e)++bG)=pre++aL++bG:=by exact J (en pre _ _)<|J (s0 C)<|J (en pre _ _)<|bm (en (AB _ _) _ _)<|J (ho _ _)<|J (en pre _ _) rfl
def wB (L D ae:Addr->Prop)(a:Addr):O->Prop
 |.list _=>¬ L a
 |.cP _=>¬ D a
 |.fQ _=>¬ D a
 |.attrs K _=>¬ ae K
 |_=>True
structure Fr (L D ae:Addr->Prop)(I Z:aI):Prop where
 keep:∀a o,I a=Y o->wB L D ae a o->Z a=Y o
 gI:∀a o,I a=Y o->∃q,Z a=Y q
variable{L D:Addr->Prop}
theorem Fr.cg {ae:Addr->Prop}(x:bF I Z):Fr L D ae I Z:=⟨λa o C q=>x a o C,λa o C=>⟨o,x a o C⟩⟩
theorem Fr.trans (x:Fr L D aJ I ay)(y:Fr L D aJ ay aN):Fr L D aJ I aN:= ⟨λa o C s=>y.keep a o (x.keep a o C s) s,λa o C=>dr (x.gI a o C) λq aG=>y.gI a q aG⟩
theorem Fr.none (x:Fr L D aJ I Z)(C:Z a=am):I a=am:=by
 cases e:I a with
 |none=>rfl
 |some o=>obtain⟨q,a7⟩:=x.gI a o e;rw[a7] at C;exact gB C
theorem Fr.upd {aE q:O}(u:Upd I Z a q)(C:I a=Y aE)(U:¬ wB L D aJ a aE):Fr L D aJ I Z:=by
 refine⟨λb cm aA s=>?_,λb cm aA=>?_⟩
 ·by_cases X:b=a
  ·subst X;rw[aA] at C;cases C;exact(U s).elim
  ·refine J (u.ne X) ?_;exact aA
 ·by_cases X:b=a
  ·clear C U;subst X;exact⟨_,u.at⟩
  ·exact⟨cm,by refine J (u.ne X) ?_;exact aA⟩
theorem Fr.mL {q:O}(u:Upd I Z a q)(C:I a=Y (.list us))(U:L a):Fr L D aJ I Z:=.upd u C λs=>s U
theorem Fr.i3 {ae:Addr->Prop}{q:O}(u:Upd I Z a q)(C:I a=Y (.attrs cl ce))(U:ae cl):Fr L D ae I Z:=.upd u C λs=>s U
theorem Fr.s5 {q:O}(u:Upd I Z a q)(C:I a=Y (.cP aO))(U:D a):Fr L D aJ I Z:=.upd u C λs=>s U
theorem Fr.mono {c:Addr->Prop}{b:Addr->Prop}(x:Fr L D c I Z)(c3:∀a,L a->aJ a)(ax:∀a,D a->aF a)(bi:∀a,c a->b a):Fr aJ aF b I Z:= ⟨λa o C s=>x.keep a o C (by clear C;cases o<;>first|exact trivial|exact λX=>s (c3 _ X)|exact λX=>s (ax _ X)|exact λX=>s<|bi _ X),x.gI⟩
theorem Fr.list {ae L D:Addr->Prop}{I Z:aI}(x:Fr L D ae I Z){a:Addr}{us:List V}(C:I a=Y (.list us))(n:¬ L a):Z a=Y (.list us):=x.keep _ _ C n
theorem Fr.inst (x:Fr L D aJ I Z)(C:I a=Y (.inst cl N)):Z a=Y (.inst cl N):=x.keep _ _ C trivial
theorem Fr.tup {ae L D:Addr->Prop}{I Z:aI}(x:Fr L D ae I Z){a:Addr}{us:List V}(C:I a=Y (.tup us)):Z a=Y (.tup us):=x.keep _ _ C trivial
theorem Fr.attrs (x:Fr L D aJ I Z)(C:I a=Y (.attrs cl ce))(n:¬ aJ cl):Z a=Y (.attrs cl ce):=x.keep _ _ C n
theorem Fr.cP (x:Fr L D aJ I Z)(C:I a=Y (.cP aO))(n:¬ D a):Z a=Y (.cP aO):=x.keep _ _ C n
theorem eJ.fr {ae:Addr->Prop}(C:eJ aJ I)(x:Fr L D ae I Z):eJ aJ Z:=λa m=>dr (C a m) λo e=>x.gI a o e
theorem IsL.fr {ae:Addr->Prop}(C:IsL aJ I u Q)(x:Fr L D ae I Z)(az:∀a,L a->aJ a):IsL aJ Z u Q:= d8 C λa e n g=>⟨a,e,n,x.list g λl=>n<|az a l⟩
structure hr (g bT cl:Addr)(I:aI)(pre aL post:List Int):Prop where
 a4:I g=Y (.inst 922 bT)
 hd:I bT=Y (.attrs 922 (hx (.int 8) (.ref cl) (.int (pre.length:Nat)) (.int (pre.length+aL.length:Nat))))
 a1:I cl=Y (.list (br (pre++aL++post)))
 aq:pre.length+aL.length+post.length<=150000
abbrev cO (cl:Addr):Addr->Prop:=λa=>a=cl
abbrev No:Addr->Prop:=λq=>False
abbrev k5:Addr->Prop:=λa=>a=922
variable{a0:List Int}
theorem hr.grow (G:hr a bT cl I A a0 Q)(x:bF I Z):hr a bT cl Z A a0 Q:=⟨x _ _ G.a4,x _ _ G.hd,x _ _ G.a1,G.aq⟩
theorem hr.ap (G:hr a bT cl I A a0 Q):(A++a0++Q).length<=150000:=by refine J bK<|J bK ?_;exact G.aq
structure iu (g bT cl:Addr)(I:aI)(Q:List Int)(a b:Nat):Prop where
 a4:I g=Y (.inst 922 bT)
 hd:I bT=Y (.attrs 922 (hx (.int 8) (.ref cl) (.int a) (.int b)))
 a1:I cl=Y (.list (br Q))
theorem hr.n (G:hr a bT cl I A a0 Q):iu a bT cl I (A++a0++Q) A.length (A.length+a0.length):=⟨G.a4,G.hd,G.a1⟩
theorem iu.grow (G:iu ae bT cl I Q e b)(x:bF I Z):iu ae bT cl Z Q e b:=⟨x _ _ G.a4,x _ _ G.hd,x _ _ G.a1⟩
theorem lE (e:pt=last)(C:ad (.int last) I):ad (.int pt) I:=e▸C
theorem ke (G:iu ae bT cl I Q e b)(C:co (.ref cl)):eo I ae "cells" co:=c8 G.a4 G.hd Sm C
theorem iy (G:iu ae bT cl I Q e b)(C:co (.int e)):eo I ae "gap_start" co:=c8 G.a4 G.hd So C
theorem jf (G:iu ae bT cl I Q e b)(C:co (.int b)):eo I ae "gap_end" co:=c8 G.a4 G.hd Sn C
theorem FJ (G:iu ae bT cl I Q e b)(C:co (.int 8)):eo I ae "room" co:=c8 G.a4 G.hd Sp C
theorem ud (H:ba c)(G:iu N bT cl I Q l b)(k:Nat)(e:pt=k)(C:∀Z,Fr (cO cl) No k5 I Z->iu N bT cl Z Q k b->aZ Z): ∃aJ d al,I N=Y (.inst aJ d)/\I d=Y (.attrs aJ al)/\fP c.K aJ "gap_start"=true/\al.length<900/\∀D,Upd I D d (.attrs aJ<|bJ "gap_start" (.int pt) al)->aZ D:= iE G.a4 G.hd (H.d 63) (by refine J Gy ?_;decide) λD u=>C D (.i3 u G.hd rfl) ⟨u.keep G.hd G.a4,by exact J u.at<|J U7<|J e rfl,u.keep G.hd G.a1⟩
theorem ue (H:ba c)(G:iu N bT cl I Q l b)(k:Nat)(e:pt=k)(C:∀Z,Fr (cO cl) No k5 I Z->iu N bT cl Z Q l k->aZ Z): ∃aJ d al,I N=Y (.inst aJ d)/\I d=Y (.attrs aJ al)/\fP c.K aJ "gap_end"=true/\al.length<900/\∀D,Upd I D d (.attrs aJ<|bJ "gap_end" (.int pt) al)->aZ D:= iE G.a4 G.hd (H.d 64) (by refine J Gy ?_;decide) λD u=>C D (.i3 u G.hd rfl) ⟨u.keep G.hd G.a4,by exact J u.at<|J U6<|J e rfl,u.keep G.hd G.a1⟩
theorem UF (aX:us.length=e):mE (gN e (Y (l:Int))<|Y (b:Int)).1 (gN e (Y (l:Int))<|Y (b:Int)).2 b6 us=us.take l++b6++us.drop (max l b):=by
 unfold mE gN;simp only[Ar,tU];subst aX;congr 1
 ·congr 1;refine mJ Yb ?_;exact cn (.eq aa ab) [.cN ab ah az,.cN aa ab az] rfl rfl
 ·by_cases C:max l b<=us.length
  ·exact J (by exact kO (.eq aa ab) [.le ab ah,.e4 ab az a8,.e4 aa bS dQ,.cN dQ a8 ah,.cN bS az ah] C rfl rfl rfl rfl:max (min l us.length) (min b us.length)=max l b) rfl
  ·exact J (i6 (by exact bH (.le aa ab) [.jn ab aa] C:us.length<=max l b))<|J (i6<|by exact kO (.le aa ab) [.jn ah aa,.e4 ah az a8,.e4 ab bS dQ,.cN dQ a8 aa,.cN bS az aa] C rfl rfl rfl rfl) rfl
theorem oK (C:I ae=Y (.list<|br Q))(f a:Nat)(d:pt=f)(c:last=a)(aq:Q.length<=1000000)(af:∀b D,bF I D->I b=am->D b=Y (.list<|br<|(Q.take a).drop f)->aw b D): ∃us,I ae=Y (.list us)/\us.length<=c5/\∀b D,dI I D b (.list<|cut (Y pt) (Y last) us)->aw b D:= oL C (qK aq) λb D n=>af b D n.ext n.1 (by exact J n.at<|J d<|J c<|J E1<|J uE<|J xK rfl)
theorem uc (G:iu N bT cl I Q e b)(hm:I ae=Y (.list<|br A))(bw:ae≠cl)(f a:Nat)(d:pt=f)(c:last=a)(aq:Q.length+A.length<=1000000) (C:∀Z,Fr (cO cl) No k5 I Z->iu N bT cl Z (Q.take f++A++Q.drop (max f a)) e b->Z ae=Y (.list<|br A)->aZ Z): ∃us b6,cl≠ae/\I cl=Y (.list us)/\I ae=Y (.list b6)/\us.length+b6.length<=c5/\∀D,Upd I D cl (.list<|mE (gN us.length (Y pt)<|Y last).1 (gN us.length (Y pt)<|Y last).2 b6 us)->aZ D:= (rb _ _ (hT bw) G.a1 hm (by refine J e1<|J e1<|J eI ?_;exact a5 aq<|by decide) λD u=>C D (.mL u G.a1 rfl) ⟨u.keep G.a1 G.a4,u.keep G.a1 G.hd,by exact J u.at<|J d<|J c<|J (UF rfl)<|J uE<|J xK<|J mq<|J mq rfl⟩<|(u.ne bw).trans hm)
theorem HR (H:ba c)(G:hr a bT cl I A a0 Q)(af:ad (.int (A++Q).length) I):bk c 1 (.ref 856) [.ref a] ad I:= LS (n:=0) H<|ke G.n<|dK G.a1 (a5 G.ap<|by decide)<|jf G.n<|dP<|iy G.n<|d3<|lE (by refine J bK<|J bK<|J bK ?_;exact kk<|.Eq (.a (.s (.c<|.a (.a aa ab) ah)<|.c<|.a aa ab)<|.c aa)<|.c<|.a aa ah) af
theorem Oa (H:ba c)(G:hr a bT cl I A a0 Q)(an:(A++Q)[b]?=Y pt)(af:ad (.int pt) I):bk c 1 (.ref 863) [.ref a,.int b] ad I:=by
 have P:(A++a0++Q).length<=1000000:=a5 G.ap (by decide);refine LM (n:=0) H<|iy G.n<|db (λC=>ke G.n<|ps G.a1 ?_ P af) λC=>ke G.n<|iy G.n<|dP<|jf G.n<|d3<|FZ G.a1 (k:=b+a0.length) (kk<|.Eq (.a (.s (.c aa)<|.c ab)<|.c<|.a ab ah)<|.c<|.a aa ah) ?_ P af
 ·have C:=fl.mp C;refine J (en _ _ _)<|J (z9 C) ?_;rwa[z9 C] at an
 ·have C:=dL.mp<|il.mp C;refine J (vO<|by rw[bK];exact AA C _)<|J bK<|J (Nat.add_sub_add_right _ _ _) ?_;rwa[vO C] at an
theorem ET (H:ba c)(G:hr ae bT cl I A a0 Q)(U:l<=e)(he:e<=(A++Q).length)(af:jB ad I (((A++Q).take e).drop l)):bk c 1 (.ref 870) [.ref ae,.int l,.int e] ad I:=by
 have P:(A++a0++Q).length<=1000000:=a5 G.ap (by decide);refine LN (n:=0) H<|jf G.n<|iy G.n<|dP<|iy G.n<|db (λC=>ke G.n<|oK G.a1 l e rfl rfl P λa ay av n₁ aZ=>?_) λC=>iy G.n<|db (λaG=>ke G.n<|oK G.a1 (l+a0.length) (e+a0.length) (kk<|.Eq (.a (.c aa)<|.s (.c<|.a ab ah)<|.c ab)<|.c<|.a aa ah) (kk<|.Eq (.a (.c aa)<|.s (.c<|.a ab ah)<|.c ab)<|.c<|.a aa ah) P λa ay av n₁ aZ=>?_) λaG=>ke G.n<|iy G.n<|oK G.a1 l A.length rfl rfl P λa ay av n₁ aZ=>?_
 ·rw[Ec<|dL.mp C] at aZ;exact af _ _ av n₁ aZ
 ·rw[QB (dL.mp aG) U] at aZ;exact af _ _ av n₁ aZ
 ·have f:=G.n.grow av;refine ke f<|jf f<|oK f.a1 (A.length+a0.length) (e+a0.length) rfl (kk<|.Eq (.a (.c aa)<|.s (.c<|.a ab ah)<|.c ab)<|.c<|.a aa ah) P λb aN a3 o O=>eC (a3 _ _ aZ) O (eh<|eD G.ap) (eh<|eD G.ap) rfl λd M K aH aV=>?_;rw[QA (hp<|fl.mp<|Jr.mp aG)<|hp<|fl.mp<|Jr.mp C] at aV;exact af _ _ ((av.trans a3).trans K) ((av.trans a3).none aH) aV
theorem iu.p (G:iu ae bT cl I (A++a0++Q) e b)(aK:e=A.length)(aA:b=e+a0.length)(aq:(A++Q).length+a0.length<=150000):hr ae bT cl I A a0 Q:= ⟨G.a4,by exact J G.hd<|J aA<|J aK rfl,G.a1,by rw[bK] at aq;exact ch (.le (.a (.a aa ab) ah)<|.k 150000) [.le (.a (.a aa ah) ab)<|.k 150000] aq⟩
theorem Tb (C:b+e<=pre.length):((pre.take<|b+e).drop b).length=e:=by exact J dz<|J cF<|J (dG C)<|J (Ju _ _) rfl
theorem yq (H:ba c)(G:hr ae bT cl I A a0 Q)(an:b<=A.length+Q.length) (af:∀j Z,Fr (cO cl) No k5 I Z->hr ae bT cl Z ((A++Q).take b) j ((A++Q).drop b)->j.length=a0.length->ad .none Z):bk c 1 (.ref 877) [.ref ae,.int b] ad I:=by
 have aq:=G.aq;have P:(A++a0++Q).length<=1000000:=a5 G.ap (by decide);have bJ:((((A++a0++Q).take<|b+a0.length).drop b)).length=a0.length:=Tb (by refine J bK<|J bK ?_;exact cn (.le (.a aa ab)<|.a (.a ah ab) az) [.le aa<|.a ah az] an);have fin:∀{ay:aI},Fr (cO cl) No k5 I ay->iu ae bT cl ay ((A++Q).take b++((A++a0++Q).take<|b+a0.length).drop b++(A++Q).drop b) b (b+a0.length)->ad .none ay:=λF f=> af _ _ F (f.p (by exact J cF<|J bK<|J (dG an) rfl) (by exact J bJ rfl)<|by refine J (ho _ _)<|J bJ<|J bK ?_;exact ch (.le (.a (.a aa ab) ah)<|.k 150000) [.le (.a (.a aa ah) ab)<|.k 150000] aq) bJ;refine LR (n:=0) H<|iy G.n<|db (λC=>ke G.n<|iy G.n<|oK G.a1 b A.length rfl rfl P λa ay av n₁ aZ=>?_) λC=>ke G.n<|jf G.n<|jf G.n<|d3<|iy G.n<|dP<|oK G.a1 (A.length+a0.length) (b+a0.length) rfl (kk<|.Eq (.s (.a (.c<|.a aa ab)<|.c ah)<|.c aa)<|.c<|.a ah ab) P λa ay av n₁ aZ=>?_
 ·have C:=hp<|fl.mp C;have f:=G.n.grow av;have hm:(((A++a0++Q).take A.length).drop b).length=A.length -b:=by exact J pre_take<|J dz rfl
  have W:(((A++a0++Q).take A.length).drop b).length<=150000:=by refine J hm ?_;exact de (.le aa<|.k 150000) [.le (.a (.a ab ah) az)<|.k 150000,.sub aa ab a8] aq rfl
  refine ke f<|jf f<|dK aZ (a5 W<|by decide)<|dP<|jf f<|uc f aZ (cQ G.a1 n₁).symm (b+a0.length) (A.length+a0.length) (by refine J hm ?_;exact cn (.Eq (.s (.c<|.a aa ab)<|.c ah)<|.c<|.a az ab) [.Lt (.c az)<|.c aa,.sub ah aa az] ‹_› rfl) rfl (a5 (nQ G.ap W)<|by decide) λaN bg d O=>?_;refine jf d<|dK O (a5 W<|by decide)<|dP<|ue H d (b+a0.length) (by refine J hm ?_;exact cn (.Eq (.s (.c<|.a aa ab)<|.c ah)<|.c<|.a az ab) [.Lt (.c az)<|.c aa,.sub ah aa az] ‹_› rfl) λM bF i=>ud H i b rfl λbz a2 g=>?_;rw[Tg C,Ec C,Th C] at g;exact fin (((Fr.cg av).trans bg).trans<|bF.trans a2) g
 ·have C:=dL.mp<|il.mp C;have f:=G.n.grow av;have hm:(((A++a0++Q).take<|b+a0.length).drop<|A.length+a0.length).length=b -A.length:=by refine J (xy C)<|J cF ?_;exact de (.eq aa ab) [.le ah<|.a az a8,.sub ab ah az,.cN aa ab a8] an rfl rfl
  have W:(((A++a0++Q).take<|b+a0.length).drop<|A.length+a0.length).length<=150000:=by refine J hm ?_;exact de (.le aa<|.k 150000) [.le ab<|.a ah az,.le (.a (.a ah a8) az)<|.k 150000,.sub aa ab ah] an aq rfl
  refine ke f<|iy f<|iy f<|dK aZ (a5 W<|by decide)<|d3<|uc f aZ (cQ G.a1 n₁).symm A.length b rfl (by refine J hm ?_;exact ch (.Eq (.a (.c aa)<|.c ab)<|.c ah) [.hY (.c ah)<|.c aa,.sub ab ah aa] ‹_› rfl) (a5 (nQ G.ap W)<|by decide) λaN bg d O=>?_;refine jf d<|dK O (a5 W<|by decide)<|d3<|ue H d (b+a0.length) (by refine J hm ?_;exact cn (.Eq (.a (.c<|.a aa ab)<|.c ah)<|.c<|.a az ab) [.hY (.c az)<|.c aa,.sub ah az aa] ‹_› rfl) λM bF i=>ud H i b rfl λbz a2 g=>?_;rw[Tj C,Tk C,Ti C] at g;exact fin (((Fr.cg av).trans bg).trans<|bF.trans a2) g
theorem WV (H:ba c)(G:hr ae bT cl I A a0 Q)(an:A.length+Q.length+e<=140000) (af:∀j Z,Fr (cO cl) No k5 I Z->hr ae bT cl Z A j Q->e<=j.length->ad .none Z):bk c 1 (.ref 884) [.ref ae,.int e] ad I:=by
 have aq:=G.aq;refine LU (n:=0) H<|jf G.n<|iy G.n<|dP<|dP<|db (p:=0<(e:Int) -(((A.length+a0.length:Nat):Int) -(A.length:Nat))) (λC=>fu rfl rfl λa ay av n₁ aZ=>?_) λC=>af a0 I (.cg .refl) G<|ch (.le aa ab) [.hY b1<|.s (.c aa)<|.s (.c<|.a ah ab)<|.c ah] C;have f:=G.n.grow av;obtain⟨m,hm⟩:∃m:Nat,m=e -a0.length+8:=⟨_,rfl⟩;have W:m<=150000:=by exact e3 (.le aa<|.k 150000) [.le (.a (.a ab ah) az)<|.k 140000,.eq aa<|.a a8<|.k 8,.sub a8 az bS] an hm rfl
 refine FJ f<|d3<|my aZ (m:=m) (de (.Eq (.a (.s (.c aa)<|.s (.c<|.a ab ah)<|.c ab)<|.k 8)<|.c az) [.Lt b1<|.s (.c aa)<|.s (.c<|.a ab ah)<|.c ab,.eq az<|.a a8<|.k 8,.sub a8 aa ah] C hm rfl) (a5 W<|by decide) λb aN a3 o O=>?_;have d:=f.grow a3;have ap:(a0++eb m (0:Int)).length=a0.length+m:=by exact J bK<|J nK rfl
 refine ke d<|jf d<|jf d<|uc d O (cQ f.a1 o).symm (A.length+a0.length) (A.length+a0.length) rfl rfl (a5 (nQ G.ap<|hO W)<|by decide) λM bF i aV=>jf i<|d3<|FJ i<|d3<|ue H i (A.length+(a0.length+m)) (de (.Eq (.a (.a (.c<|.a aa ab)<|.s (.c ah)<|.s (.c<|.a aa ab)<|.c aa)<|.k 8)<|.c<|.a aa<|.a ab az) [.Lt b1<|.s (.c ah)<|.s (.c<|.a aa ab)<|.c aa,.eq az<|.a a8<|.k 8,.sub a8 ah ab] C hm rfl) λbz a2 g=>?_;rw[WU] at g;exact af _ bz (((Fr.cg<|av.trans a3).trans bF).trans a2) (g.p rfl (by exact J ap rfl)<|by refine J ap<|J bK ?_;exact e3 (.le (.a (.a aa ab)<|.a ah az)<|.k 150000) [.le (.a (.a aa ab) a8)<|.k 140000,.Lt b1<|.s (.c a8)<|.s (.c<|.a aa ah)<|.c aa,.eq az<|.a bS<|.k 8,.sub bS a8 ah] an C hm rfl) (by refine J ap ?_;exact cn (.le aa<|.a ab ah) [.eq ah<|.a az<|.k 8,.sub az aa ab] hm rfl)
def gP (g bT cl:Addr)(I:aI)(A:List Int):Prop:=∃Q aM a0,A=Q++a0/\hr g bT cl I Q aM a0
theorem hr.Qc (G:hr a bT cl I A a0 Q)(x:Fr L D aJ I Z)(c3:¬ L cl)(bi:¬ aJ 922):hr a bT cl Z A a0 Q:=⟨x.inst G.a4,x.attrs G.hd bi,x.list G.a1 c3,G.aq⟩
theorem Q0 (H:ba c)(G:gP ae bT cl I A)(ax:I a=Y (.list<|br Q))(aw:a≠cl)(an:b<=A.length)(aq:A.length+Q.length<=100000) (af:∀Z,Fr (cO cl) No k5 I Z->gP ae bT cl Z (A.take b++Q++A.drop b)->ad .none Z):bk c 2 (.ref 891) [.ref ae,.int b,.ref a] ad I:=by
 refine bA λco aB=>?_;obtain⟨pre,aL,post,rfl,G⟩:=G;refine aB ?_;rw[bK] at an aq;have h:Q.length<=1000000:=by exact ch (.le aa<|.k 1000000) [.le (.a (.a ab ah) aa)<|.k 100000] aq
 refine LQ (n:=1) H<|dq G.a4 G.hd Tz (H.m 9)<|dK ax h<|ca<|WV H G (ch (.le (.a (.a aa ab) ah)<|.k 140000) [.le (.a (.a aa ab) ah)<|.k 100000] aq) λj ay bC f bJ=>dq f.a4 f.hd yC (H.m 8)<|ca<|yq H f an λu aN bg d q=>?_;have K:=bg.list (bC.list ax aw) aw;have x:((pre++post).take b).length=b:=by exact J cF<|J bK<|J (dG an) rfl
 have e:Q.length<=u.length:=q▸bJ;refine ke d.n<|dK K h<|d3<|uc d.n K aw b (b+Q.length) rfl rfl (a5 (nQ d.ap<|a5 (ry ..) aq)<|by decide) λM bF i bG=>dK bG h<|d3<|ud H i (b+Q.length) rfl λbz a2 g=>?_;rw[QW x e] at g;have t:=d.aq;exact af bz (((bC.trans bg).trans bF).trans a2)<|i4 _ _ _ rfl<|g.p (by exact J bK<|J x rfl) (by exact J x<|J dz<|J (Ay _ _ _)<|J (AD e) rfl) (by simp only[bK,dz,x] at t⊢;exact e3 (.le (.a (.a (.a aa ab) ah) az)<|.k 150000) [.le ab a8,.eq bS a8,.le (.a (.a aa bS) ah)<|.k 150000,.sub az bS ab] bJ q t rfl)
theorem Ow (H:ba c)(G:gP ae bT cl I A)(U:b<=e)(he:e<=A.length)
  (af:∀a Z,Fr (cO cl) No k5 I Z->gP ae bT cl Z (A.take b++A.drop e)->I a=am->Z a=Y (.list<|br<|(A.take e).drop b)->ad (.ref a) Z):bk c 2 (.ref 898) [.ref ae,.int b,.int e] ad I:=by
 refine bA λco aB=>?_
 obtain⟨pre,aL,post,rfl,G⟩:=G
 refine aB<|LO (n:=1) H<|dq G.a4 G.hd Ha (H.m 7)<|ca<|ET H G U he λa ay av na aK=>?_
 rw[bK] at he
 have f:=G.grow av
 have bw:a≠cl:=(cQ G.a1 na).symm
 --bC last two B,from b<=y<=e on
 have last:∀{h j o:List Int} {aN:aI},Fr (cO cl) No k5 ay aN->hr ae bT cl aN h j o->h++o=pre++post->b<=h.length->h.length<=e->wm (d5 c 1 ad) [.ref ae,.int b,.int e,.ref a] [] aN:=λ{h j o aN} bg d bv ak ao=>by
  have v:h.length+o.length=pre.length+post.length:=by exact bm bK<|J bv<|J bK rfl
  have w:e -h.length<=o.length:=by exact e3 (.le aa ab) [.le ah<|.a az a8,.eq (.a bS ab)<|.a az a8,.sub aa ah bS] he v rfl
  have c3:(h.drop b++j++o.take (e -h.length)).length=h.length -b+j.length+(e -h.length):=by exact J bK<|J bK<|J dz<|J cF<|J (dG w) rfl
  refine jf d.n<|d3<|iy d.n<|dP<|ue H d.n (j.length+e) (kk<|.Eq (.s (.a (.c<|.a aa ab)<|.c ah)<|.c aa)<|.c<|.a ab ah) λM bF i=>ud H i b rfl λbz a2 g=>?_
  rw[Op (k:=e -h.length) ak] at g
  have t:=d.aq
  refine af a bz (((Fr.cg av).trans bg).trans<|bF.trans a2) (i4 _ _ _ (by refine bm bv ?_;exact Oo ak ao)<|g.p (by exact J cF<|J (dG ak) rfl) (by refine J c3 ?_;exact e3 (.eq (.a aa ab)<|.a ah<|.a (.a az aa) a8) [.le ah bS,.le bS ab,.sub a8 ab bS,.sub az bS ah] ak ao rfl rfl)<|by refine J c3<|J bK<|J cF<|J dz<|J (dG ak) ?_;exact kO (.le (.a (.a aa ab)<|.a (.a ah az) a8)<|.k 150000) [.le aa bS,.le a8 dQ,.le (.a (.a bS az) dQ)<|.k 150000,.sub ab dQ a8,.sub ah bS aa] ak w t rfl rfl) na<|(bg.trans<|bF.trans a2).list aK bw
 have l:∀{k},(pre++post).take k++(pre++post).drop k=pre++post:=ho ..
 refine iy f.n<|db (λC=>dq f.a4 f.hd yC (H.m 8)<|ca<|yq H f he λu aN bg d q=>iy d.n ?_) λC=>iy f.n<|db (λaG=>dq f.a4 f.hd yC (H.m 8)<|ca<|yq H f (a5 U he) λu aN bg d q=>?_) λaG=>?_
 ·have x:((pre++post).take e).length=e:=by exact J cF<|J bK<|J (dG he) rfl
  exact cr (p:=((((pre++post).take e).length:Nat):Int)<(b:Nat)) (by refine J x ?_;exact λC=>rC.mpr U<|fl.mp C)<|last bg d l (by refine J x ?_;exact U) (by refine J x ?_;exact c1 _)
 ·have x:((pre++post).take b).length=b:=by exact J cF<|J bK<|J (dG<|a5 U he) rfl
  exact last bg d l (by refine J x ?_;exact c1 _) (by refine J x ?_;exact U)
 ·exact last (.cg .refl) f rfl (dL.mp<|il.mp aG)<|dL.mp<|il.mp C
theorem JW (H:ba c)(ax:I ae=Y (.list []))(af:∀N bT cl Z,bF I Z->I N=am->I bT=am->I cl=am->gP N bT cl Z []->ad (.ref N) Z):bk c 2 (.ref 922) [.ref ae,.int 8] ad I:=by refine mx H.ok (H.k 4) λa d ay m=>LP (n:=0) H<|e7 m (H.d 61) (by kernel_rfl) ?_;intro L aN e;have K:=e.ext _ _ ax;refine(dj _ (.inl K) (dU _) λb M aH=>fu rfl rfl λbB bz bn be bc=>my bc (m:=8) rfl (by decide) λo bN aS y ao=>eC (Q:=[]) (aS _ _<|bn _ _ aH.at) ao (c1 0) (hO<|c1 8) rfl λcl bM bE aR aX=>?_);have x:=((aH.ext.trans bn).trans aS).trans bE;have S:I cl=am:=e.ext.none<|((aH.ext.trans bn).trans aS).none aR;refine gn (e.grow x) (H.d 62) (by kernel_rfl) ?_;intro G bQ i f;refine dK (Q:=[]) (f.ext _ _ ax) (dU _)<|gn f (H.d 63) (by kernel_rfl) ?_;intro U bV j g;refine dK (Q:=[]) (g.ext _ _ ax) (dU _)<|d3<|gn g (H.d 64) (by kernel_rfl) ?_;intro v bW l h;exact⟨rfl,af a d cl _ h.ext h.na h.fb S ⟨[],eb 8 0,[],rfl,h.fB,(h.as SQ).id,l (j (i aX nofun) nofun) nofun,by decide⟩⟩
structure lR where
 b:Addr
 bd:Addr
 g:Addr
 bT:Addr
 cl:Addr
 m:Addr
 km:Addr
 ek:Addr
 ls:Addr
structure hD where
 num:Int
 a:Addr
 d:Addr
 pos:Int
structure gg (W:lR)(I:aI)(aW:List hD):Prop where
 hm:I W.m=Y (.inst 201 W.km)
 ic:I W.km=Y (.attrs 201 (kF (.ref W.ek)))
 f7:I W.ek=Y (.cP (aW.map fun e=>(e.num,.ref e.a)))
 gW:∀e∈aW,I e.a=Y (.inst 133 e.d)/\I e.d=Y (.attrs 133 (g9 (.int e.num) (.bool false) (.ref W.b) (.int e.pos)))
 nn:(aW.map (·.num)).Nodup
 fb:(aW.map (·.d)).Nodup
 nl:aW.length<60
abbrev j4:Addr->Prop:=λa=>a=133
variable{W:lR}{aW:List hD}
theorem gg.fr {ae:Addr->Prop}(C:gg W I aW)(x:Fr L D ae I Z)(ax:¬ D W.ek)(ak:¬ ae 201)(ao:¬ ae 133):gg W Z aW:= ⟨x.inst C.hm,x.attrs C.ic ak,x.cP C.f7 ax,λe he=>⟨x.inst (C.gW e he).1,x.attrs (C.gW e he).2 ao⟩,C.nn,C.fb,C.nl⟩
theorem u3 (C:gg W I aW)(aP:co (.ref W.ek)):eo I W.m "rows" co:=c8 C.hm C.ic GE aP
variable{ag:hD}
theorem mr (C:gg W I aW)(he:ag∈aW)(aP:co (.int ag.pos)):eo I ag.a "position" co:=c8 (C.gW ag he).1 (C.gW ag he).2 Sw aP
theorem Rq (C:gg W I aW)(he:ag∈aW)(aP:co (.bool false)):eo I ag.a "advances" co:=c8 (C.gW ag he).1 (C.gW ag he).2 Su aP
theorem sz (H:ba c)(C:gg W I aW)(he:ag∈aW)(aP:∀D,Upd I D ag.d (.attrs 133<|g9 (.int ag.num) (.bool false) (.ref W.b)<|.int pt)->aZ D): ∃ae d al,I ag.a=Y (.inst ae d)/\I d=Y (.attrs ae al)/\fP c.K ae "position"=true/\al.length<900/\∀D,Upd I D d (.attrs ae<|bJ "position" (.int pt) al)->aZ D:= iE (C.gW ag he).1 (C.gW ag he).2 (H.d 72) (by refine J x3 ?_;decide) λD u=>aP D<|Hw▸u
theorem yK (H:ba c)(C:gg W I aW)(af:∀a g Z,bF I Z->I a=am->sw (aW.map (·.num)) g->Z a=Y (.list<|br g)->ad (.ref a) Z):bk c 1 (.ref 156) [.ref W.m] ad I:=by exact L0 (n:=0) H (u3 C (dj (aW.map (·.num)) (.inr<|bj _ C.f7<|by refine J p4 ?_;rfl) (by refine J (fx _) ?_;exact v1 C.nl<|by decide) λg aO a ay n₁=>af _ _ _ n₁.ext n₁.1 aO n₁.at))
noncomputable def upTo (f:Int->Int)(seen:List Int)(aW:List hD):List hD:=aW.map λe=>if e.num∈seen then{e with pos:=f e.pos} else e
noncomputable def el (f:Int->Int)(aW:List hD):List hD:=aW.map λe=>{e with pos:=f e.pos}
variable{b7:Int->Int}
theorem zE:(upTo b7 A aW).map (·.num)=aW.map (·.num):=by unfold upTo;refine J p4 ?_;apply nW;intro e q;simp only[Ag];split<;>rfl
theorem zD:(upTo b7 A aW).map (·.d)=aW.map (·.d):=by unfold upTo;refine J p4 ?_;apply nW;intro e q;simp only[Ag];split<;>rfl
theorem vA:(upTo b7 A aW).map (λe=>(e.num,V.ref e.a))=aW.map (λe=>(e.num,V.ref e.a)):=by unfold upTo;refine J p4 ?_;apply nW;intro e q;simp only[Ag];split<;>rfl
theorem yF {f:av->fm}(C:(pre.map f).Nodup)(aK:aB∈pre)(aA:jI∈pre)(e:f aB=f jI):aB=jI:=by
 induction pre with
 |nil=>cases aK
 |cons x pre B=>
  replace C:=pU.mp C;rcases fF.mp aK with ak|ak<;>rcases fF.mp aA with ao|ao
  ·exact ak.trans ao.symm
  ·exact(C.1<|by refine bm ak<|J e ?_;exact ts ao).elim
  ·exact(C.1<|by refine bm ao<|bm e ?_;exact ts ak).elim
  ·exact B C.2 ak ao
theorem zb (C:(aW.map (·.num)).Nodup)(he:ag∈aW):(aW.map λag=>(ag.num,V.ref ag.a)).lookup ag.num=Y (.ref ag.a):=by
 induction aW with
 |nil=>cases he
 |cons x aW B=>
  replace C:=pU.mp C;refine J hQ<|J g4 ?_;rcases fF.mp he with rfl|he
  ·simp
  ·have:(ag.num==x.num)=false:=by apply beq_eq_false_iff_ne.mpr;intro X;exact C.1 (eF.mpr ⟨ag,he,X⟩)
   exact J this<|B C.2 he
theorem GR {f:Int->Int}{seen:List Int}{e:hD}(C:gg W I (upTo f seen aW))(he:e∈aW)(U:e.num∉seen) (u:Upd I Z e.d (.attrs 133<|g9 (.int e.num) (.bool false) (.ref W.b)<|.int<|f e.pos)\/(f e.pos=e.pos/\I=Z)):gg W Z (upTo f (seen++[e.num]) aW):=by
 have G:=C.nn;have B:=C.fb;rw[zE] at G;rw[zD] at B;have c:e∈upTo f seen aW:=eF.mpr<|bj e he<|if_neg U;have d4:=(C.gW e c).2;have ap:=C.nl;have low:∀a7∈aW,a7≠e->(if a7.num∈seen++[e.num] then{a7 with pos:=f a7.pos} else a7)=(if a7.num∈seen then{a7 with pos:=f a7.pos} else a7):=λa7 w bw=>by have:a7.num≠e.num:=λX=>bw<|yF G w he X;simp[this]
 have self:(if e.num∈seen++[e.num] then{e with pos:=f e.pos} else e)={e with pos:=f e.pos}:=if_pos (by simp);have a:∀x∈upTo f (seen++[e.num]) aW,x={e with pos:=f e.pos}\/(x∈upTo f seen aW/\x.d≠e.d):=λx aL=>by
  refine a9 (eF.mp aL) λa7 w bh=>?_;refine bm bh ?_;by_cases X:a7=e
  ·left;refine J X ?_;exact self
  ·right;have hd:a7.d≠e.d:=λz=>X<|yF B w he z;refine J (low a7 w X) ?_;exact⟨eF.mpr<|bj a7 w rfl,by split<;>exact hd⟩
 rcases u with u|⟨bv,rfl⟩
 ·refine⟨u.keep d4 C.hm,?_,?_,λx aL=>?_,?_,?_,?_⟩
  ·refine(u.ne<|gc C.ic d4 ?_).trans C.ic;intro X;cases X
  ·refine J vA ?_;have:=C.f7;rw[vA] at this;exact u.keep d4 this
  ·rcases a x aL with rfl|⟨m,hd⟩
   ·exact⟨u.keep d4 (C.gW e c).1,u.at⟩
   ·exact⟨u.keep d4 (C.gW x m).1,(u.ne hd).trans (C.gW x m).2⟩
  ·refine J zE ?_;exact G
  ·refine J zD ?_;exact B
  ·unfold upTo at ap⊢;rw[fx] at ap⊢;exact ap
 ·refine⟨C.hm,C.ic,?_,λx aL=>?_,?_,?_,?_⟩
  ·refine J vA ?_;have:=C.f7;rw[vA] at this;exact this
  ·rcases a x aL with rfl|⟨m,hd⟩
   ·refine J bv ?_;exact C.gW e c
   ·exact C.gW x m
  ·refine J zE ?_;exact G
  ·refine J zD ?_;exact B
  ·unfold upTo at ap⊢;rw[fx] at ap⊢;exact ap
theorem xn (f:Int->Int)(E:av->List V)(g:ai=E aB)(C:gg W I aW)(ax:I a=Y (.list<|br A))(aO:sw (aW.map (·.num)) A) (U:∀x ay aE e K,gg W ay aE->e∈aE->(∀y aN,(Upd ay aN e.d (.attrs 133<|g9 (.int e.num) (.bool false) (.ref W.b)<|.int<|f e.pos)\/(f e.pos=e.pos/\ay=aN))->K kx.next (E y) aN)->B ((E x).set i<|.int e.num) K ay) (he:∀x ay,Fr No No j4 I ay->gg W ay (el f aW)->dJ .next (E x) ay):j7 (.list a) i B dJ ai I:=by
 have n:A.Nodup:=aO.1.nodup_iff.mpr C.nn;have h:upTo f [] aW=aW:=(nW λe q=>if_neg z7).trans<|AE _;let P:Nat->av->aI->Prop:=λj q ay=>Fr No No j4 I ay/\gg W ay (upTo f (A.take j) aW);refine uQ (λq=>E) P g ⟨.cg .refl,by refine J nS<|J h ?_;exact C⟩ (λj q ay ak=>ak.1.list ax id) (λj x ay u ak aU=>?_) λx ay ak=>?_
 ·refine a9 (oq aU) λy aL bh=>?_;refine J bh ?_;refine a9 (eF.mp<|aO.1.mem_iff.mp<|d1 aL) λe m bh=>?_;subst bh;have l:e.num∉A.take j:=λX=>by obtain⟨k,an⟩:=Az.mp X;have G:=(e8.mp an).1;rw[cF] at G;have G:=Jv G<|nP ..;rw[oZ,if_pos G] at an;exact lQ G ((JL (e8.mp an).1 n).mp<|an.trans aL.symm)
  have c:e∈upTo f (A.take j) aW:=eF.mpr<|bj e m<|if_neg l;refine U x ay _ e _ ak.2 c λy aN u=>fM.mk (E:=E) (P:=P<|j+1) y ⟨?_,?_⟩
  ·rcases u with u|u
   ·exact ak.1.trans<|.i3 u (ak.2.gW e c).2 rfl
   ·exact u.2▸ak.1
  ·show gg W aN (upTo f (A.take<|j+1) aW);refine J jZ<|J aL ?_;exact GR ak.2 m l u
 ·refine he x ay ak.1 ?_;have ao:=ak.2;rw[e1,k0] at ao;have e:upTo f A aW=el f aW:=nW λe he=>if_pos<|aO.1.mem_iff.mpr<|ts he;rwa[e] at ao
noncomputable def ot (s e:Int)(p:Int):Int:=if p>s then p+e -s else p
theorem Q2 (H:ba c)(C:gg W I aW)(af:∀Z,Fr No No j4 I Z->gg W Z (el (ot pt last) aW)->ad .none Z):bk c 2 (.ref 184) [.ref W.m,.int pt,.int last,.bool false] ad I:=by refine LZ (n:=1) H<|dq C.hm C.ic yD (H.m 0)<|ca<|yK H C λa g ay av na aO aK=>hB aK ?_;let E:V×V->List V:=λp=>[.ref W.m,.int pt,.int last,.bool false,p.1,p.2];refine xn (ot pt last) E (aB:=(.aD,.aD)) rfl (C.fr (L:=No) (D:=No) (ae:=No) (.cg av) id id id) aK aO (λp aN e k K O an bU=>?_) λp aN F O=>af _ ((Fr.cg av).trans F) O;have no:¬ k.pos>pt->K .next (E (.ref k.a,.int k.num)) aN:=λaG=>bU _ _<|.inr ⟨if_neg aG,rfl⟩;refine u3 O<|pr O.f7 (zb O.nn an)<|mr O an<|db (λaG=>(mr O an<|d3<|dP<|sz H O an λM o=>bU (.ref k.a,.int k.num) _<|.inl ?_)) λaG=>mr O an<|db (λq=>(Rq O an<|((((no aG)))))) λq=>((no aG));rw[ot,if_pos aG];exact o
noncomputable def pf (s e:Int)(p:Int):Int:=if p>e then p -(e -s) else if p>s then s else p
theorem Ox (H:ba c)(C:gg W I aW)(af:∀Z,Fr No No j4 I Z->gg W Z (el (pf pt last) aW)->ad .none Z):bk c 2 (.ref 191) [.ref W.m,.int pt,.int last] ad I:=by
 refine LX (n:=1) H<|dq C.hm C.ic yD (H.m 0)<|ca<|yK H C λa g ay av na aO aK=>hB aK ?_;let E:V×V->List V:=λp=>[.ref W.m,.int pt,.int last,p.1,p.2];refine xn (pf pt last) E (aB:=(.aD,.aD)) rfl (C.fr (L:=No) (D:=No) (ae:=No) (.cg av) id id id) aK aO (λp aN e k K O an bU=>?_) λp aN F O=>af _ ((Fr.cg av).trans F) O;refine u3 O<|pr O.f7 (zb O.nn an)<|mr O an<|db (λaG=>mr O an<|dP<|dP<|sz H O an λM o=>bU (.ref k.a,.int k.num) _<|.inl ?_) λaG=>mr O an<|db (λf=>sz H O an λM o=>bU (.ref k.a,.int k.num) _<|.inl ?_) λf=>bU (.ref k.a,.int k.num) _<|.inr ⟨?_,rfl⟩
 ·rw[pf,if_pos aG];exact o
 ·rw[pf,if_neg aG,if_pos f];exact o
 ·rw[pf,if_neg aG,if_neg f]
noncomputable def pM (s e a:Int)(p:Int):Int:=if p>=e then p+a -(e -s) else if p>s then s else p
theorem Vm (H:ba c)(C:gg W I aW)(af:∀Z,Fr No No j4 I Z->gg W Z (el (pM pt last aQ) aW)->ad .none Z):bk c 2 (.ref 198) [.ref W.m,.int pt,.int last,.int aQ] ad I:=by
 refine Mb (n:=1) H<|dq C.hm C.ic yD (H.m 0)<|ca<|yK H C λa g ay av na aO aK=>hB aK ?_;let E:V×V->List V:=λp=>[.ref W.m,.int pt,.int last,.int aQ,p.1,p.2];refine xn (pM pt last aQ) E (aB:=(.aD,.aD)) rfl (C.fr (L:=No) (D:=No) (ae:=No) (.cg av) id id id) aK aO (λp aN e k K O an bU=>?_) λp aN F O=>af _ ((Fr.cg av).trans F) O;refine u3 O<|pr O.f7 (zb O.nn an)<|mr O an<|db (λaG=>mr O an<|d3<|dP<|dP<|sz H O an λM o=>bU (.ref k.a,.int k.num) _<|.inl ?_) λaG=>mr O an<|db (λf=>sz H O an λM o=>bU (.ref k.a,.int k.num) _<|.inl ?_) λf=>bU (.ref k.a,.int k.num) _<|.inr ⟨?_,rfl⟩
 ·rw[pM,if_pos aG];exact o
 ·rw[pM,if_neg aG,if_pos f];exact o
 ·rw[pM,if_neg aG,if_neg f]
theorem AV (H:ba c)(af:∀a d Z,hX 133 a d (g9 (.int pt) (.bool cL) .none<|.int 0) I Z->ad (.ref a) Z):bk c 2 (.ref 133) [.int pt,.bool cL] ad I:=by refine mx H.ok (H.k 6) λa d ay m=>LW (n:=0) H<|e7 m (H.d 69) (by kernel_rfl) ?_;intro L aN m;refine e7 m (H.d 70) (by kernel_rfl) ?_;intro G M m;refine e7 m (H.d 71) (by kernel_rfl) ?_;intro U bz m;refine e7 m (H.d 72) (by kernel_rfl) ?_;intro v bN m;exact⟨rfl,af _ _ _<|m.as SS⟩
theorem JY (H:ba c)(af:∀a d r Z,bF I Z->I a=am->I d=am->I r=am->Z a=Y (.inst 201 d)->Z d=Y (.attrs 201<|kF<|.ref r)->Z r=Y (.cP [])->ad (.ref a) Z):bk c 2 (.ref 201) [] ad I:=by refine mx H.ok (H.k 7) λa d ay m=>LY (n:=0) H λr aN o=>gn (m.grow o.ext) (H.d 73) (by kernel_rfl) ?_;intro L M j b;exact⟨rfl,af _ _ _ _ b.ext b.na b.fb (m.ext.none o.1) b.fB (b.as SU).id<|j o.at (λX=>by cases X)⟩
noncomputable abbrev nd (W:lR)(n:Nat)(pt:Int)(mk:V)(v h i:Int):List (Str×V):=e9 (.int 1) (.str "a") (.ref W.g) (.ref W.m) (.int pt) (.int 1) (.int (n+1:Nat)) mk (.bool true) (.bool false) (.int v) (.int h) (.int i) (.ref W.ls) .none .none .none .none .none .none
structure d2 (W:lR)(I:aI)(n:Nat)(pt:Int)(mk:V)(aW:List hD):Prop where
 aA:I W.b=Y (.inst 1028 W.bd)
 dB:∃v h i:Int,I W.bd=Y (.attrs 1028 (nd W n pt mk v h i))
 ap:I W.ls=Y (.list [])
 kK:W.ls≠W.cl
 hm:gg W I aW
 an:mk=.none\/∃a,mk=.ref a
structure b3 (W:lR)(I:aI)(A:List Int)(pt:Int)(mk:V)(aW:List hD):Prop where
 R:d2 W I A.length pt mk aW
 T:gP W.g W.bT W.cl I A
abbrev dk:Addr->Prop:=λa=>a=1028\/a=922\/a=133
theorem d2.fr {ae:Addr->Prop}{n:Nat}(C:d2 W I n pt ar aW)(x:Fr L D ae I Z)(c3:¬ L W.ls)(ax:¬ D W.ek)(ak:¬ ae 1028)(ao:¬ ae 201)(bp:¬ ae 133):d2 W Z n pt ar aW:= ⟨x.inst C.aA,fU (C.dB) λv h i e=>⟨v,h,i,x.attrs e ak⟩,x.list C.ap c3,C.kK,C.hm.fr x ax ao bp,C.an⟩
theorem gP.fr {ae:Addr->Prop}(C:gP a bT cl I A)(x:Fr L D ae I Z)(c3:¬ L cl)(bi:¬ ae 922):gP a bT cl Z A:= fi C λpre aL post e G=>⟨pre,aL,post,e,G.Qc x c3 bi⟩
theorem b3.fr {ae:Addr->Prop}(C:b3 W I A pt ar aW)(x:Fr L D ae I Z)(c3:¬ L W.ls)(a:¬ L W.cl)(ax:¬ D W.ek)(ak:¬ ae 1028)(ao:¬ ae 201)(bp:¬ ae 133)(bI:¬ ae 922):b3 W Z A pt ar aW:= ⟨C.R.fr x c3 ax ak ao bp,C.T.fr x a bI⟩
theorem b3.ext (C:b3 W I A pt ar aW)(x:bF I Z):b3 W Z A pt ar aW:=C.fr (L:=No) (D:=No) (ae:=No) (.cg x) id id id id id id id
variable{cm:Int}
theorem d2.set (C:d2 W I b pt aS aW)(u:Upd I Z W.bd (.attrs 1028<|nd W l last ar aQ st cm))(an:ar=.none\/∃a,ar=.ref a):d2 W Z l last ar aW:=by
 refine fU (C.dB) λf j m e=>?_;have bi:¬ j4 1028:=by decide
 refine⟨u.keep e C.aA,(oM aQ st cm u.at),u.keep e C.ap,C.kK,?_,an⟩;exact C.hm.fr (L:=No) (D:=No) (ae:=λa=>a=1028) (.i3 u e rfl) id (by decide) (by decide)
theorem d2.HM (C:d2 W I b pt aS aW)(T:gP W.g W.bT W.cl I A)(u:Upd I Z W.bd (.attrs 1028<|nd W l last ar aQ st cm)):gP W.g W.bT W.cl Z A:=by exact fU (C.dB) λf j m e=>T.fr (L:=No) (D:=No) (ae:=λa=>a=1028) (.i3 u e rfl) id (by decide)
theorem d2.HK (C:d2 W I b pt aS aW)(u:Upd I Z W.bd (.attrs 1028<|nd W l last ar aQ st cm)):Fr (cO W.cl) No dk I Z:=by exact fU (C.dB) λf j m e=>.i3 u e<|.inl rfl
theorem t8 (x:Fr (cO W.cl) No k5 I Z):Fr (cO W.cl) No dk I Z:=x.mono (λq C=>C) (λq C=>C) λq C=> .inr<|.inl C
theorem t9 (x:Fr No No j4 I Z):Fr (cO W.cl) No dk I Z:=x.mono (λq C=>C.elim) (λq C=>C) λq C=> .inr<|.inr C
theorem la (B:d2 W I b pt ar aW)(ap:∀v h i,(nd W b pt ar v h i).lookup w=Y u)(C:cY u (co u)):eo I W.b w co:=fU (B.dB) λq q q hd=>c8 B.aA hd (ap ..) C
theorem rP (B:d2 W I b pt ar aW)(C:co (.ref W.g)):eo I W.b "text" co:=la B (λq q q=>GC) C
theorem wS (B:d2 W I b pt ar aW)(C:co (.ref W.m)):eo I W.b "markers" co:=la B (λq q q=>GB) C
theorem k9 (B:d2 W I b pt ar aW)(C:co (.int pt)):eo I W.b "point" co:=la B (λq q q=>Sd) C
theorem o9 (B:d2 W I b pt ar aW)(C:co (.int (b+1:Nat))):eo I W.b "zv" co:=la B (λq q q=>Sg) C
theorem tK (B:d2 W I b pt ar aW)(C:co (.int 1)):eo I W.b "begv" co:=la B (λq q q=>R8) C
theorem Ep (B:d2 W I b pt ar aW)(C:co (.ref W.ls)):eo I W.b "listeners" co:=la B (λq q q=>Sa) C
theorem Eu (B:d2 W I b pt ar aW)(C:co .none):eo I W.b "undo" co:=la B (λq q q=>Sf) C
theorem Es (B:d2 W I b pt ar aW)(C:co .none):eo I W.b "props" co:=la B (λq q q=>Se) C
theorem Er (B:d2 W I b pt ar aW)(C:co .none):eo I W.b "overlays" co:=la B (λq q q=>Sc) C
theorem ob (B:d2 W I b pt ar aW)(C:co ar):eo I W.b "mark" co:=la B (λq q q=>Sb)<|yY (by rcases B.an with e|⟨_,e⟩<;>refine J e ?_<;>trivial) C
theorem kD (B:d2 W I b pt ar aW)(ap:∀v h i,(nd W b pt ar v h i).lookup w=am)(hm:jz c.K 1028 w a)(C:aJ a): ∃ae d al a,I W.b=Y (.inst ae d)/\I d=Y (.attrs ae al)/\al.lookup w=am/\jz c.K ae w a/\aJ a:=fU (B.dB) λq q q hd=>dq B.aA hd (ap ..) hm C
theorem tJ (B:d2 W I l pt aS aW)(T:gP W.g W.bT W.cl I A)(hd:fP c.K 1028 w=true)(aP:∀v h i,∃f j m,bJ w u (nd W l pt aS v h i)=nd W b last ar f j m)(an:ar=.none\/∃a,ar=.ref a) (C:∀Z,Fr (cO W.cl) No dk I Z->d2 W Z b last ar aW->gP W.g W.bT W.cl Z A->aZ Z): ∃ae d al,I W.b=Y (.inst ae d)/\I d=Y (.attrs ae al)/\fP c.K ae w=true/\al.length<900/\∀D,Upd I D d (.attrs ae<|bJ w u al)->aZ D:= let⟨v,h,i,e⟩:=B.dB;let⟨_,_,_,a7⟩:=aP v h i;iE B.aA e hd (by refine J Gx ?_;decide) λD k=>C D (B.HK<|a7▸k) (B.set (a7▸k) an)<|B.HM T<|a7▸k
theorem o8 (H:ba c)(B:d2 W I b pt ar aW)(T:gP W.g W.bT W.cl I A)(C:∀Z,Fr (cO W.cl) No dk I Z->d2 W Z b last ar aW->gP W.g W.bT W.cl Z A->aZ Z): ∃ae d al,I W.b=Y (.inst ae d)/\I d=Y (.attrs ae al)/\fP c.K ae "point"=true/\al.length<900/\∀D,Upd I D d (.attrs ae<|bJ "point" (.int last) al)->aZ D:= tJ B T (H.d 6) (λq q q=>(oM _ _ _ U1)) B.an C
theorem Et (H:ba c){m:Nat}(B:d2 W I b pt ar aW)(T:gP W.g W.bT W.cl I A)(e:last=(m+1:Nat))(C:∀Z,Fr (cO W.cl) No dk I Z->d2 W Z m pt ar aW->gP W.g W.bT W.cl Z A->aZ Z): ∃ae d al,I W.b=Y (.inst ae d)/\I d=Y (.attrs ae al)/\fP c.K ae "zv"=true/\al.length<900/\∀D,Upd I D d (.attrs ae<|bJ "zv" (.int last) al)->aZ D:=by refine J e ?_;exact tJ B T (H.d 8) (λq q q=>(oM _ _ _ U3)) B.an C
theorem Fz (B:d2 W I b pt ar aW)(F:Fr (cO W.cl) No k5 I Z):d2 W Z b pt ar aW:=B.fr F (λX=>B.kK X) id (by decide) (by decide) (by decide)
variable{aY:List hD}
theorem b3.marks (B:b3 W I A pt ar aW)(F:Fr No No j4 I Z)(m:gg W Z aY):b3 W Z A pt ar aY:= ⟨⟨F.inst B.R.aA,fU (B.R.dB) λa b d e=>⟨a,b,d,F.attrs e<|by decide⟩,F.list B.R.ap id,B.R.kK,m,B.R.an⟩,B.T.fr F id<|by decide⟩
theorem KD (H:ba c)(B:d2 W I b pt ar aW)(af:ad (.int 1) I):bk c 1 (.ref 962) [.ref W.b] ad I:=LC (n:=0) H<|tK B af
theorem OX (H:ba c)(B:d2 W I b pt ar aW)(af:ad (.int (b+1:Nat)) I):bk c 1 (.ref 969) [.ref W.b] ad I:=LG (n:=0) H<|o9 B af
theorem Ey (H:ba c)(B:b3 W I A pt ar aW)(af:ad (.int A.length) I):bk c 2 (.ref 976) [.ref W.b] ad I:=by refine bA λco aB=>fi (B.T) λpre aL post bt G=>?_;subst bt;exact aB<|EA (n:=1) H<|rP B.R<|dq G.a4 G.hd Hb (H.m 5)<|ca<|HR H G af
theorem ES (H:ba c)(B:b3 W I A pt ar aW)(an:A[b]?=Y last)(af:ad (.int last) I):bk c 2 (.ref 983) [.ref W.b,.int<|(b:Int)+1] ad I:=by have x:=(e8.mp an).1;refine bA λco aB=>?_;refine fi (B.T) λpre aL post bt G=>?_;subst bt;refine aB ?_;refine LD (n:=1) H<|tK B.R ?_;refine o9 B.R<|cr (p:=((pre++post).length+1:Nat)<=(b:Int)+1) (by exact bH (.iQ (.c<|.a aa aC)<|.a (.c ab) aC) [.lt ab aa] x)<|(rP B.R<|dq G.a4 G.hd Tu (H.m 6)<|dP ?_);refine J l5 ?_;exact ca<|Oa H G an af
theorem tL (H:ba c)(B:b3 W I A pt ar aW){s:Nat}(U:s<=e)(he:e<=A.length)(af:jB ad I ((A.take e).drop s)):bk c 2 (.ref 990) [.ref W.b,.int<|(s:Int)+1,.int<|(e:Int)+1] ad I:=by refine bA λco aB=>fi (B.T) λpre aL post bt G=>?_;subst bt;refine aB<|LF (n:=1) H<|rP B.R<|dq G.a4 G.hd Ha (H.m 7)<|dP<|dP ?_;refine J l5<|J l5 ?_;exact ca<|ET H G U he af
theorem ug (H:ba c)(B:b3 W I A pt ar aW)(ak:1<=last)(ao:last<=A.length+1)(af:∀Z,Fr (cO W.cl) No dk I Z->b3 W Z A last ar aW->ad (.int last) Z):bk c 1 (.ref 997) [.ref W.b,.int last] ad I:=by refine LH (n:=0) H<|tK B.R<|sG (p5 ak)<|o9 B.R<|yp<|o8 H B.R B.T λay bC g f=>?_;rw[lM (show last<=((A.length+1:Nat):Int) from ao)] at g;exact k9 g<|af _ bC ⟨g,f⟩
theorem WE (H:ba c)(B:b3 W I A pt ar aW)(af:∀Z,Fr (cO W.cl) No dk I Z->b3 W Z A pt ar aW->ad .none Z):bk c 1 (.ref 1025) [.ref W.b,.bool true] ad I:=by refine fU (B.R.dB) λv h i hd=>LJ (n:=0) H<|c8 B.R.aA hd GD<|kr<|d3<|tJ B.R B.T (H.d 12) (λq q q=>(oM _ _ _ U2)) B.R.an λay bC g f=>?_;exact fU (g.dB) λv h i hd=>c8 g.aA hd GD<|kr<|tJ g f (H.d 13) (λq q q=>(oM _ _ _ UZ)) g.an λaN bg L t=>af _ (bC.trans bg) ⟨L,t⟩
theorem yv (H:ba c)(B:d2 W I b pt ar aW)(af:ad .none I):bk c 1 (.ref 310) [.ref W.b] ad I:= M8 (n:=0) H<|la B (λq q q=>R9) af
theorem G0 (H:ba c)(B:b3 W I A pt ar aW)(hm:A.length+last<=4194304)(af:ad .none I):bk c 3 (.ref 317) [.ref W.b,.int last] ad I:= M7 (n:=2) H<|kD B.R (λq q q=>G9) (H.m 14)<|ca<|Ey H B<|d3<|cr (il.mpr hm) af
theorem y3 (H:ba c)(B:d2 W I b pt ar aW)(ak:1<=last)(ao:last<=b+1)(bp:1<=aQ)(bI:aQ<=b+1)(af:∀t Z,bF I Z->Z t=Y (.tup [.int<|min last aQ,.int<|max last aQ])->ad (.ref t) Z):bk c 1 (.ref 324) [.ref W.b,.int last,.int aQ] ad I:=by refine Np (n:=0) H<|yp<|qQ<|kp rfl rfl λt ay av n₁ aZ=>eE aZ rfl ?_;have al:=B.fr (L:=No) (D:=No) (ae:=No) (.cg av) id id id id id;exact tK al<|cr (il.mpr<|Int.le_min.mpr ⟨ak,bp⟩)<|o9 al<|cr (il.mpr<|Int.max_le.mpr ⟨ao,bI⟩)<|(kp rfl rfl λF aN a3 o O=>af _ _ (av.trans a3) O)
theorem yE (C:I ae=Y (.list []))(af:dJ .next ai I):j7 (.list ae) i B dJ ai I:= xX (λ_ (_:Unit)=>ai) (λq q=>True) (a:=()) rfl trivial C (λq q q q C=>nomatch C) λq q=>af
theorem tV (C:I ae=Y (.list us))(aq:us.length<=c5)(af:∀a D,bF I D->I a=am->D a=Y (.list us)->ad (.ref a) D):m8 [.ref ae] ad I:=(dj us (.inl C) aq λa D n=>af a D n.ext n.1 n.at)
theorem zw (H:ba c)(B:d2 W I b pt ar aW)(af:∀Z,bF I Z->ad .none Z):bk c 1 (.ref 331) [.ref W.b,.int last,.int aQ] ad I:= ND (n:=0) H<|Ep B<|tV B.ap (dU _) λa ay av n₁ aZ=>hB aZ<|yE aZ<|af _ av
theorem zx (H:ba c)(B:b3 W I A pt ar aW)(af:∀Z,Fr (cO W.cl) No dk I Z->b3 W Z A pt ar aW->ad .none Z):bk c 2 (.ref 338) [.ref W.b,.int last,.int aQ,.int st] ad I:= NE (n:=1) H<|kD B.R (λq q q=>Ts) (H.m 18)<|ca<|WE H B λy aJ d=>Ep d.R<|tV d.R.ap (dU _) λa ay av n₁ aZ=>hB aZ<|yE aZ<|af _ (aJ.trans<|.cg av)<|d.ext av
theorem FV (H:ba c)(B:d2 W I b pt ar aW)(af:ad .none I):bk c 1 (.ref 359) [.ref W.b,.int last,.int aQ] ad I:=MI (n:=0) H<|Es B<|Er B af
theorem FU (H:ba c){n:Nat}(B:d2 W I n pt ar aW)(af:ad .none I):bk c 1 (.ref 366) [.ref W.b,.int last,.int aQ,.bool cL] ad I:=MH (n:=0) H<|Es B<|Er B af
noncomputable def vi (s e p:Int):Int:=if p>s then max s (p -(e -s)) else p
noncomputable def nt (s n p:Int):Int:=if p>s then p+n else p
noncomputable def eY (s e n p:Int):Int:=if s=e then(if p>s then p+n else p) else if p>=e then p+n -(e -s) else if p>s then s else p
theorem yZ (C:∀p,b7 p=p):el b7 aW=aW:=(nW λe q=>by exact J (C _) rfl).trans<|AE _
variable{af:Int->Int}
theorem pI (C:∀p,b7 p=af p):el b7 aW=el af aW:=by exact J (funext C:b7=af) rfl
theorem b3.as (B:b3 W I A pt ar aW)(bv:A=Q)(bE:pt=last)(dA:aW=aY):b3 W I Q last ar aY:=by subst bv bE dA;exact B
theorem d2.as (B:d2 W I b pt ar aW)(bv:b=e)(bE:pt=last):d2 W I e last ar aW:=by subst bv bE;exact B
variable{b0:Addr}
theorem FI (T:gP b0 bT cl I A)(ap:∀a b d e,(hx a b d e).lookup w=am)(hm:jz c.K 922 w N)(C:aJ N):∃ae d al N,I b0=Y (.inst ae d)/\I d=Y (.attrs ae al)/\al.lookup w=am/\jz c.K ae w N/\aJ N:= fi T λq q q q G=>dq G.a4 G.hd (ap ..) hm C
theorem gP.ne (T:gP ae bT cl I A)(C:I a=am):a≠cl:=fi T λq q q q G=>(cQ G.a1 C).symm
theorem yf (m:gg W I aW)(ap:(kF<|.ref W.ek).lookup w=am)(hm:jz c.K 201 w a)(C:aJ a):∃ae d al a,I W.m=Y (.inst ae d)/\I d=Y (.attrs ae al)/\al.lookup w=am/\jz c.K ae w a/\aJ a:=dq m.hm m.ic ap hm C
theorem yT (U:b<=e)(he:e<=A.length):(A.take b++A.drop e).length=A.length -(e -b):=by refine J bK<|J cF<|J dz ?_;exact kO (.eq (.a aa ab) ah) [.le az a8,.le a8 bS,.sub ah bS dQ,.sub dQ a8 az,.sub ab bS a8,.cN aa az bS] U he rfl rfl rfl rfl
theorem QU (an:b<=A.length):(A.take b++Q++A.drop b).length=A.length+Q.length:=by refine J bK<|J bK<|J cF<|J dz ?_;exact de (.eq (.a (.a aa ab) ah)<|.a az ab) [.cN aa a8 az,.sub ah az a8] rfl rfl
theorem Ig (H:ba c)(B:b3 W I A pt ar aW)(U:b<=e)(he:e<=A.length) (af:∀a Z,Fr (cO W.cl) No dk I Z->b3 W Z (A.take b++A.drop e) (vi (b+1) (e+1) pt) ar aW->I a=am->Z a=Y (.list<|br<|(A.take e).drop b)->ad (.ref a) Z): bk c 3 (.ref 345) [.ref W.b,.int<|(b:Int)+1,.int<|(e:Int)+1] ad I:=by
 refine NI (n:=2) H<|Eu B.R<|rP B.R<|FI B.T (λq q q q=>Tv) (H.m 11)<|i2 l5<|i2 l5<|ca<|Ow H B.T U he λa ay bC f na aK=>?_;have g:=Fz B.R bC;have bw:=B.T.ne na;refine o9 g<|dP<|dP<|Et H g f (m:=(A.take b++A.drop e).length) (by refine J (yT U he) ?_;exact de (.Eq (.s (.c<|.a aa aC)<|.s (.a (.c ab) aC)<|.a (.c ah) aC)<|.c<|.a az aC) [.le ah ab,.le ab aa,.sub az aa a8,.sub a8 ab ah] U he rfl rfl) λaN bg L t=>k9 L<|db (λC=>k9 L<|dP<|dP<|qQ<|o8 H L t λM bF u d=>?_) λC=>?_
 ·exact af a M (((t8 bC).trans bg).trans bF) ⟨u.as rfl (if_pos C).symm,d⟩ na<|(bg.trans bF).list aK bw
 ·exact af a aN ((t8 bC).trans bg) ⟨L.as rfl (if_neg C).symm,t⟩ na<|bg.list aK bw
theorem Ie (H:ba c)(B:b3 W I A pt ar aW)(ax:I a=Y (.list<|br Q))(aw:a≠W.cl)(an:b<=A.length)(aq:A.length+Q.length<=100000) (af:∀Z,Fr (cO W.cl) No dk I Z->b3 W Z (A.take b++Q++A.drop b) (nt (b+1) Q.length pt) ar aW->ad .none Z): bk c 3 (.ref 352) [.ref W.b,.int<|(b:Int)+1,.ref a] ad I:=by
 have h:Q.length<=1000000:=by exact bH (.le aa<|.k 1000000) [.le (.a ab aa)<|.k 100000] aq
 refine NG (n:=2) H<|Eu B.R<|rP B.R<|FI B.T (λq q q q=>Tw) (H.m 10)<|i2 l5<|ca<|Q0 H B.T ax aw an aq λay bC f=>?_;have g:=Fz B.R bC;have e:=bC.list ax aw;refine o9 g<|dK e h<|d3<|Et H g f (m:=(A.take b++Q++A.drop b).length) (by refine J (QU an) ?_;exact hI<|.Eq (.a (.c<|.a aa aC)<|.c ab)<|.c<|.a (.a aa ab) aC) λaN bg L t=>k9 L<|db (λC=>k9 L<|dK (bg.list e aw) h<|d3<|o8 H L t λM bF u d=>?_) λC=>?_
 ·exact af M (((t8 bC).trans bg).trans bF) ⟨u.as rfl (if_pos C).symm,d⟩
 ·exact af aN ((t8 bC).trans bg) ⟨L.as rfl (if_neg C).symm,t⟩
theorem HA (H:ba c)(B:d2 W I b pt ar aW)(U:l<=e)(he:e<=b)(af:∀t Z,bF I Z->Z t=Y (.tup [.int<|(l:Int)+1,.int<|(e:Int)+1])->ad (.ref t) Z): bk c 1 (.ref 324) [.ref W.b,.int<|(l:Int)+1,.int<|(e:Int)+1] ad I:= y3 H B one_le (pE<|a5 U he) one_le (pE he) λt Z x C=>af t Z x (by exact J C<|J (lM<|ox U)<|J (oY<|ox U) rfl)
theorem QX:ot pt (pt+(0:Nat)) last=last:=by unfold ot;split;(· exact RQ<|.Eq (.s (.a bh<|.a g7<|.c b1) g7) bh);(· rfl)
theorem QT:nt pt (0:Nat) last=last:=by unfold nt;split;(· exact rk _);(· rfl)
theorem Hx (H:ba c)(B:b3 W I A pt ar aW){b:Bool}(ax:I a=Y (.list<|br Q))(aw:a≠W.cl)(an:l<=A.length)(aq:A.length+Q.length<=100000)(aA:b=true->pt=l+1) (af:∀Z,Fr (cO W.cl) No dk I Z->b3 W Z (A.take l++Q++A.drop l) (if b then l+1+Q.length else nt (l+1) Q.length pt) ar (el (ot (l+1)<|l+1+Q.length) aW)->ad .none Z): bk c 4 (.ref 373) [.ref W.b,.int<|(l:Int)+1,.ref a,.bool false,.bool b] ad I:=by
 have h:Q.length<=1000000:=by exact bH (.le aa<|.k 1000000) [.le (.a ab aa)<|.k 100000] aq
 have tail:∀{N:Int} {bz:aI},Fr (cO W.cl) No dk I bz->b3 W bz (A.take l++Q++A.drop l) N ar aW->N=(if b then(l:Int)+1+Q.length else nt (l+1) Q.length pt)->wv (d5 c 3 ad) [.ref W.b,.int<|(l:Int)+1,.ref a,.bool false,.bool b] [] bz:=λ{N bz} a2 aL e=>by replace aL:=e▸aL;have o:=a2.list ax aw;refine wS aL.R<|yf aL.R.hm TC (H.m 2)<|dK o h<|d3<|ca<|Q2 H aL.R.hm λbN bv g=>?_;have D:=aL.marks bv g;have i:=bv.list o id;exact⟨(H.f 25),dK i h<|ca<|FU H D.R ⟨(H.f 21),dK i h<|d3<|ca<|zx H D λbM a1 ai=>af _ ((a2.trans<|t9 bv).trans a1) ai⟩⟩
 refine Nk (n:=3) H<|ci (H.f 17)<|yv H B.R<|ci (H.f 19)<|y3 H B.R one_le (pE an) one_le (pE an) λt ay av bd=>dK (av _ _ ax) h<|db (λh0=>?_) λh0=>?_
 ·have aY:Q=[]:=kZ.mp<|Jw.mp h0;clear h0;subst aY;refine af _ (.cg av)<|(B.ext av).as (by exact J (hV _)<|J (ho _ _) rfl) ?_ (yZ λq=>QX).symm;split
  ·rename_i pp;refine J (aA pp) ?_;exact(rk _).symm
  ·exact QT.symm
 ·have al:=B.ext av;refine⟨(H.f 18),dK (av _ _ ax) h<|ca<|G0 H al (bH (.bW (.a (.c aa)<|.c ab)<|.k 4194304) [.le (.a aa ab)<|.k 100000] aq)<|ci (H.f 20)<|zw H al.R λaN a3=>ci (H.f 23)<|Ie H (al.ext a3) (a3 _ _<|av _ _ ax) aw an aq λM bF aG=>?_⟩;have d:Fr (cO W.cl) No dk I M:=(Fr.cg<|av.trans a3).trans bF;clear aA af;cases b with
  |true=>exact lf<|dK (d.list ax aw) h<|d3<|o8 H aG.R aG.T λbz a2 j p=>tail (d.trans a2) ⟨j,p⟩ rfl
  |false=>exact(tail d aG rfl)
theorem F2:el (ot (pt+1)<|pt+1+last) aW=el (eY (pt+1) (pt+1) last) aW:=pI λp=>by unfold ot eY;refine J (if_pos rfl) ?_;split<;>(first|exact RR (.Eq (.s (.a bh<|.a (.a g7 aC) jD)<|.a g7 aC)<|.a bh jD)|exact RP<|.Eq bh bh)
theorem QS:nt (pt+1) last aQ=eY (pt+1) (pt+1) last aQ:=by unfold nt eY;exact J (if_pos rfl) rfl
theorem F4 (H:ba c)(B:b3 W I A pt ar aW){k:Nat}(ax:I a=Y (.list<|br Q))(aw:a≠W.cl)(an:k<=A.length)(aq:A.length+Q.length<=100000) (af:∀Z,Fr (cO W.cl) No dk I Z->b3 W Z (A.take k++Q++A.drop k) (eY (k+1) (k+1) Q.length pt) ar (el (eY (k+1) (k+1) Q.length) aW)->ad .none Z): bk c 5 (.ref 381) [.ref W.b,.int<|(k:Int)+1,.ref a] ad I:= MK (n:=4) H<|ci (H.f 26)<|Hx H (b:=false) B ax aw an aq (λX=>by cases X) λay bC al=>af _ bC<|al.as rfl QS F2
theorem UQ:(b:Int)+1+e=((b+e:Nat):Int)+1:=by exact hI<|.Eq (.a (.a (.c aa) aC)<|.c ab)<|.a (.c<|.a aa ab) aC
theorem QZ (H:ba c)(B:b3 W I A ((e:Int)+1) ar aW)(ax:I a=Y (.list<|br Q))(aw:a≠W.cl)(an:e<=A.length)(aq:A.length+Q.length<=100000) (af:∀Z,Fr (cO W.cl) No dk I Z->b3 W Z (A.take e++Q++A.drop e) ((e+Q.length:Nat)+1) ar (el (eY (e+1) (e+1) Q.length) aW)->ad .none Z): bk c 5 (.ref 389) [.ref W.b,.ref a] ad I:= MJ (n:=4) H ⟨(H.f 26),k9 B.R<|ca<|Hx H (b:=true) B ax aw an aq (λq=>rfl) λay bC al=>af _ bC<|al.as rfl UQ F2⟩
theorem ne1 (C:b<e):¬ ((b:Int)+1=(e:Int)+1):=by exact bH (.Ne (.a (.c aa) aC)<|.a (.c ab) aC) [.lt aa ab] C
theorem GO (C:b<e):(b:Int)+1<(e:Int)+1:=bH (.Lt (.a (.c aa) aC)<|.a (.c ab) aC) [.lt aa ab] C
theorem outI (C:pt<last):(if aQ>pt then max pt (aQ -(last -pt)) else aQ)=if aQ>=last then aQ+0 -(last -pt) else if aQ>pt then pt else aQ:=by
 by_cases ak:aQ>=last
 ·exact J (if_pos<|p3 C ak)<|J (if_pos ak)<|J (rk aQ)<|oY<|uS (.bW bh<|.s g7<|.s jD bh) [.bW jD g7] ak
 ·refine J (if_neg ak) ?_;by_cases ao:aQ>pt
  ·exact J (if_pos ao)<|J (if_pos ao)<|p5<|uS (.bW (.s g7<|.s jD bh) bh) [.iQ jD g7] ak
  ·exact J (if_neg ao) (if_neg ao).symm
theorem Os (C:pt<last):(if aQ>last then aQ -(last -pt) else if aQ>pt then pt else aQ)=if aQ>=last then aQ+0 -(last -pt) else if aQ>pt then pt else aQ:=by
 by_cases ak:aQ>last
 ·exact J (if_pos ak)<|J (if_pos<|rA ak)<|J (rk aQ) rfl
 ·refine J (if_neg ak) ?_;by_cases bp:aQ>=last
  ·exact J (if_pos<|p3 C bp)<|J (if_pos bp)<|uS (.Eq bh<|.s (.a g7 b1)<|.s jD bh) [.hY jD g7,.bW jD g7] ak bp
  ·exact(if_neg bp).symm
theorem Hl (C:b<e):vi (b+1) (e+1) pt=eY (b+1) (e+1) 0 pt:=by unfold vi eY;exact J (if_neg<|ne1 C)<|outI<|GO C
theorem Oq (C:b<e)(p:Int):pf (b+1) (e+1) p=eY (b+1) (e+1) 0 p:=by unfold pf eY;exact J (if_neg<|ne1 C)<|Os<|GO C
theorem EI:eY pt pt 0 last=last:=by unfold eY;exact J (if_pos rfl)<|J (rk _)<|J (ite_self _) rfl
theorem Ov (H:ba c)(B:b3 W I A pt ar aW)(U:b<=e)(he:e<=A.length) (af:∀a Z,Fr (cO W.cl) No dk I Z->b3 W Z (A.take b++A.drop e) (eY (b+1) (e+1) 0 pt) ar (el (eY (b+1) (e+1) 0) aW)->ad (.ref a) Z): bk c 4 (.ref 396) [.ref W.b,.int<|(b:Int)+1,.int<|(e:Int)+1] ad I:=by
 refine Mp (n:=3) H<|ci (H.f 17)<|yv H B.R<|ci (H.f 19)<|HA H B.R U he λt ay av bd=>eE bd rfl<|db (λC=>?_) λC=>?_
 ·have l:b=e:=by exact bH (.eq aa ab) [.Eq (.a (.c aa) aC)<|.a (.c ab) aC] C
  clear bd;subst l;exact fu rfl rfl λa aN a3 o O=>af a aN (.cg<|av.trans a3)<|(B.ext<|av.trans a3).as (ho ..).symm EI.symm (yZ λq=>EI).symm
 ·have G:b<e:=AF U λX=>C (by exact J X rfl);refine ci (H.f 20)<|zw H (B.ext av).R λaN a3=>ci (H.f 22)<|Ig H ((B.ext av).ext a3) U he λa M bF aG na aK=>wS aG.R<|yf aG.R.hm TB (H.m 3)<|ca<|Ox H aG.R.hm λbz a2 h=>?_;have aL:=(aG.marks a2 h).as rfl (Hl G)<|pI<|Oq G;exact ci (H.f 24)<|FV H aL.R ⟨(H.f 21),dP<|ca<|zx H aL λbN bv D=>af _ _ ((((Fr.cg<|av.trans a3).trans bF).trans<|t9 a2).trans bv) D⟩
theorem VD (U:b<=A.length):(A.take b++A.drop e).take b++Q++(A.take b++A.drop e).drop b=A.take b++Q++A.drop e:=by
 have ap:(A.take b).length=b:=by exact J cF<|J (dG U) rfl
 exact J (Jx ap)<|J (Yw ap) rfl
theorem VC (C:b<e)(p:Int):pM (b+1) (e+1) pt p=eY (b+1) (e+1) pt p:=by unfold pM eY;exact J (if_neg<|ne1 C) rfl
theorem QV (C:b<e)(aP:¬ pt>=(e:Int)+1):nt (b+1) l (vi (b+1) (e+1) pt)=eY (b+1) (e+1) l pt:=by
 unfold eY nt;refine J (if_neg<|ne1 C)<|J (if_neg aP)<|J (Hl C) ?_;unfold eY;refine J (if_neg<|ne1 C)<|J (if_neg aP) ?_;by_cases X:pt>(b:Int)+1
 ·exact J (if_pos X)<|if_neg<|YU _
 ·exact J (if_neg X)<|if_neg X
theorem Vl (H:ba c)(B:b3 W I A pt ar aW)(ax:I ae=Y (.list<|br Q))(aw:ae≠W.cl)(U:b<=e)(he:e<=A.length)(aq:A.length+Q.length<=100000) (af:∀a Z,Fr (cO W.cl) No dk I Z->b3 W Z (A.take b++Q++A.drop e) (eY (b+1) (e+1) Q.length pt) ar (el (eY (b+1) (e+1) Q.length) aW)->ad (.ref a) Z): bk c 6 (.ref 404) [.ref W.b,.int<|(b:Int)+1,.int<|(e:Int)+1,.ref ae] ad I:=by
 have h:Q.length<=1000000:=by exact bH (.le aa<|.k 1000000) [.le (.a ab aa)<|.k 100000] aq
 refine Nr (n:=5) H<|ci (H.f 17)<|yv H B.R<|ci (H.f 19)<|HA H B.R U he λt ay av bd=>eE bd rfl<|db (λC=>?_) λC=>dK (av _ _ ax) h<|db (λh0=>?_) λh0=>?_
 ·have l:b=e:=by exact bH (.eq aa ab) [.Eq (.a (.c aa) aC)<|.a (.c ab) aC] C
  clear bd;subst l;exact ci (H.f 27)<|F4 H (B.ext av) (av _ _ ax) aw he aq λaN bg aj=>fu rfl rfl λa M K aH aV=>af _ _ (((Fr.cg av).trans bg).trans<|.cg K)<|aj.ext K
 ·have aY:Q=[]:=kZ.mp<|Jw.mp h0;clear h0;subst aY;exact ci (H.f 29)<|Ov H (B.ext av) U he λa aN bg aj=>af a aN ((Fr.cg av).trans bg)<|aj.as (by exact J (hV _) rfl) rfl rfl
 have G:b<e:=AF U λX=>C (by exact J X rfl);have al:=B.ext av;have x:=a5 U he;have v:(A.take b++A.drop e).length<=A.length:=by refine J (yT U he) ?_;exact j0 ..
 refine⟨(H.f 18),dK (av _ _ ax) h<|dP<|dP<|ca<|G0 H al (by exact cn (.bW (.a (.c aa)<|.s (.c ab)<|.s (.a (.c ah) aC)<|.a (.c az) aC)<|.k 4194304) [.le az ah,.le (.a aa ab)<|.k 100000] U aq)<|k9 al.R<|ci (H.f 20)<|zw H al.R λaN a3=>ci (H.f 22)<|Ig H (al.ext a3) U he λa M bF aG na aK=>?_⟩;have d:Fr (cO W.cl) No dk I M:=(Fr.cg<|av.trans a3).trans bF;refine ci (H.f 23)<|Ie H aG (d.list ax aw) aw (by refine J (yT U he) ?_;exact de (.le aa ab) [.le aa ah,.le ah az,.sub ab az a8,.sub a8 ah aa] U he rfl rfl) (a5 (AA v _) aq) λbz a2 aL=>?_;have g:=d.trans a2;have aL:=aL.as (VD x) rfl rfl;have tail:∀{N:Int} {bN:aI},Fr (cO W.cl) No dk I bN->b3 W bN (A.take b++Q++A.drop e) N ar aW->N=eY (b+1) (e+1) Q.length pt->ww (d5 c 5 ad) [.ref W.b,.int<|(b:Int)+1,.int<|(e:Int)+1,.ref ae,.none,.ref a,.int<|(e:Int)+1,.int<|(b:Int)+1,.int pt] [] bN:=λ{N bN} bv D e=>by subst e;have i:=bv.list ax aw;refine wS D.R<|yf D.R.hm TF (H.m 4)<|dK i h<|ca<|Vm H D.R.hm λbM a1 y=>?_;have ai:=(D.marks a1 y).as rfl rfl<|pI<|VC G;have o:=a1.list i id;exact⟨(H.f 25),dK o h<|ca<|FU H ai.R<|ci (H.f 24)<|FV H ai.R<|bx (H.f 21)<|dK o h<|d3<|dP<|ca<|zx H ai λbQ bK j=>af _ _ ((bv.trans<|t9 a1).trans bK) j⟩
 exact db (p:=(e:Int)+1<=pt) (λaP=>dK (g.list ax aw) h<|d3<|dP<|dP<|o8 H aL.R aL.T λbN bv q u=>tail (g.trans bv) ⟨q,u⟩<|by unfold eY;exact J (if_neg<|ne1 G)<|J (if_pos aP) rfl) λaP=>tail g aL<|QV G aP
noncomputable def eB (A:List Int)(k:Nat):Nat:=k -((A.take k).reverse.takeWhile (· !=10)).length
noncomputable def dX (A:List Int)(k:Nat):Nat:=k+((A.drop k).takeWhile (· !=10)).length
theorem R3 (C:A[b]?=Y pt):eB A (b+1)=if pt=10 then b+1 else eB A b:=by
 unfold eB;refine J jZ<|J C<|J (tn _)<|J Yx<|(?_:b+1 -(List.takeWhile _<|pt::(A.take b).reverse).length=_);by_cases aL:pt=10
 ·refine J aL ?_;simp
 ·refine J (Yy<|by simpa using aL)<|J (if_neg aL)<|J fe ?_;exact cn (.eq aa ab) [.sub aa (.a ah aC)<|.a az aC,.sub ab ah az] rfl rfl
theorem sE {A:List Int}{k:Nat}:eB A k<=k:=j0 ..
theorem R4:eB A 0=0:=by simp[eB]
theorem R2 (C:A[b]?=Y pt):dX A b=if pt=10 then b else dX A (b+1):=by
 unfold dX;obtain⟨an,e⟩:=e8.mp C;refine J (Aw an)<|J e ?_;by_cases aL:pt=10
 ·refine J aL ?_;simp
 ·refine J (Yy<|by simpa using aL)<|J (if_neg aL)<|J fe ?_;exact hI<|.eq (.a aa<|.a ab aC)<|.a (.a aa aC) ab
theorem R1:dX A A.length=A.length:=by simp[dX]
theorem uU {A:List Int}{k:Nat}:k<=dX A k:=nU ..
theorem sD {A:List Int}{k:Nat}(C:k<=A.length):dX A k<=A.length:=by unfold dX;have:=(List.takeWhile_sublist (p:=(· !=(10:Int))) (l:=A.drop k)).length_le;rw[dz] at this;exact cn (.le (.a aa ab) ah) [.le aa ah,.le ab az,.sub az ah aa] C this rfl
theorem x7 (H:ba c)(B:b3 W I A pt ar aW)(an:b<=A.length)(af:ad (.int<|(eB A b:Nat)+1) I):bk c 3 (.ref 411) [.ref W.b,.int<|(b:Int)+1] ad I:=by
 let E:Nat->Unit->List V:=λm q=>[.ref W.b,.int<|(b:Int)+1,.int<|(m:Int)+1];refine M5 (n:=2) H<|xZ E (λm q=>m<=b/\eB A m=eB A b) (k:=b) (a:=()) rfl ⟨c1 _,rfl⟩ λm q C=>?_;refine kD B.R (λq q q=>Tq) (H.m 12)<|ca<|KD H B.R<|db (λaP=>?_) λaP=>?_
 ·obtain⟨j,rfl⟩:∃j,m=j+1:=⟨m -1,by exact bH (.eq aa<|.a ab aC) [.Lt aC<|.a (.c aa) aC,.sub ab aa aC] aP rfl⟩;have bu:j<A.length:=Jv (Nat.lt_of_succ_le C.1) an;have U:=R3<|eu bu;refine kD B.R (λq q q=>G8) (H.m 15) (i2 (m:=(j:Int)+1) l5<|ca<|ES H B (eu bu)<|fE (λbw=>?_) λhe=>?_)
  ·rw[if_neg bw] at U;exact(i2 l5<|bj j (tf j)<|iP.mk (E:=E j) () ⟨Jy C.1,U▸C.2⟩)
  ·rw[if_pos he] at U;rw[<-C.2,U] at af;exact af
 ·obtain rfl:m=0:=by exact cK (.eq aa b1) [.hY aC<|.a (.c aa) aC] aP
  rw[<-C.2,R4] at af;exact af
theorem x6 (H:ba c)(B:b3 W I A pt ar aW)(an:b<=A.length)(af:ad (.int<|(dX A b:Nat)+1) I):bk c 3 (.ref 418) [.ref W.b,.int<|(b:Int)+1] ad I:=by
 let E:Nat->Unit->List V:=λm q=>[.ref W.b,.int<|(b:Int)+1,.int<|((A.length -m:Nat):Int)+1];refine M4 (n:=2) H<|xZ E (λm q=>m<=A.length/\dX A (A.length -m)=dX A b) (k:=A.length -b) (a:=()) (by refine(?_:_=[_,_,V.int<|((A.length -(A.length -b):Nat):Int)+1]);refine J (Jz an) ?_;rfl) ⟨j0 ..,by exact J (Jz an) rfl⟩ λm q C=>?_;refine kD B.R (λq q q=>Tr) (H.m 13)<|ca<|OX H B.R<|db (λaP=>?_) λaP=>?_
 ·obtain⟨j,rfl⟩:∃j,m=j+1:=⟨m -1,by exact cn (.eq aa<|.a ab aC) [.Lt (.a (.c ah) aC)<|.c<|.a az aC,.sub ab aa aC,.sub ah az aa] aP rfl rfl⟩;have bu:A.length -(j+1)<A.length:=by exact bH (.lt aa ab) [.Lt (.a (.c aa) aC)<|.c<|.a ab aC] aP
  have U:=R2<|eu bu;refine kD B.R (λq q q=>G8) (H.m 15)<|ca<|ES H B (eu bu)<|fE (λbw=>?_) λhe=>?_
  ·rw[if_neg bw,show A.length -(j+1)+1=A.length -j by exact cn (.eq (.a aa aC) ab) [.le (.a ah aC) az,.sub aa az<|.a ah aC,.sub ab az ah] C.1 rfl rfl] at U;exact(tG (m:=((A.length -j:Nat):Int)+1) (cn (.Eq (.a (.a (.c aa) aC) aC)<|.a (.c ab) aC) [.le (.a ah aC) az,.sub ab az ah,.sub aa az<|.a ah aC] C.1 rfl rfl)<|bj j (tf j)<|iP.mk (E:=E j) () ⟨Jy C.1,U▸C.2⟩)
  ·rw[if_pos he] at U;rw[<-C.2,U] at af;exact af
 ·obtain rfl:m=0:=by exact ch (.eq aa b1) [.le aa ab,.hY (.a (.c ah) aC)<|.c<|.a ab aC,.sub ah ab aa] C.1 aP rfl
  rw[<-C.2,XZ,R1] at af;exact af
noncomputable def eZ (A:List Int)(k:Nat):Nat:=k -eB A k
def eK (A:List Int):Prop:=∀x∈A,x=10\/l0 x
theorem yk (C:pt∈A.takeWhile (· !=10)):pt∈A/\pt≠10:=by
 induction A with
 |nil=>cases C
 |cons a A B=>
  rw[Yz] at C;split at C
  ·rename_i aK;rcases fF.mp C with rfl|C
   ·exact⟨.head _,by simpa using aK⟩
   ·exact⟨.tail _ (B C).1,(B C).2⟩
  ·cases C
theorem zB:∀{l:List av},l.takeWhile dD=l.take (l.takeWhile dD).length:=by
 intro D;induction D with
 |nil=>simp
 |cons a l B=>
  refine J Yz ?_;split
  ·exact J fe<|J AG<|bm B rfl
  ·simp
theorem VI (aO:eK A)(an:b<=A.length):b9 ((A.take b).drop<|eB A b):=by
 intro x aL;have e:(A.take b).drop (eB A b)=((A.take b).reverse.takeWhile (· !=10)).reverse:=by refine J zB<|J AH<|J (JN _) ?_;unfold eB;exact J cF<|J (dG an) rfl
 rw[e] at aL;have:=yk<|JA.mp aL;exact(aO x<|lN<|JA.mp this.1).resolve_left this.2
theorem w8 {c:cG}{I:aI}{pt:Int}{W:lR}{aW:List hD}{mk:V}{ad:V->aI->Prop}{A:List Int}(H:ba c)(B:b3 W I A pt mk aW)(aO:eK A){k:Nat}(an:k<=A.length)(aq:A.length<=100000)(af:∀Z,bF I Z->ad (.int<|eZ A k) Z):bk c 4 (.ref 591) [.ref W.b,.int<|(k:Int)+1,.int 8] ad I:=by
 refine Ml (n:=3) H<|ci (H.f 31)<|x7 H B an ⟨(H.f 36),kD B.R (λq q q=>yA) (H.m 16)<|ca<|tL H B sE an λa ay av na aK=>i2 (m:=(eZ A k:Nat)) ?_<|ca<|EV H aK (VI aO an) ?_ ?_ λaN a3=>af _<|av.trans a3⟩
 ·have:=@sE A k;unfold eZ;exact ch (.Eq (.s (.a (.c aa) aC)<|.a (.c ab) aC)<|.c ah) [.le ab aa,.sub ah aa ab] this rfl
 ·refine J dz<|J cF<|J (dG an) ?_;exact c1 _
 ·refine J dz<|J cF ?_;exact de (.le aa<|.k 100000) [.le ab<|.k 100000,.sub aa ah az,.cN ah a8 ab] aq rfl rfl
theorem xk (aK:I a=Y (.list<|br Q))(aA:I ae=Y (.list<|br A))(k:Nat):ew I (k+1) (.ref a) (.ref ae) (decide<|Q=A):=by
 by_cases X:a=ae
 ·subst X;rw[aK] at aA;have:Q=A:=QQ (by simpa using aA);exact .of (.same aK) (by simp[this])
 ·skip;by_cases ap:Q.length=A.length
  ·refine .sF (λj=>decide<|Q[j]?=A[j]?) X aK aA (by rw[e1,e1];exact ap) (λj u w aU aR=>?_) ?_
   ·refine a9 (oq aU) λx aL bh=>?_;refine J bh ?_;refine a9 (oq aR) λy L bh=>?_;refine J bh ?_;rw[aL,L];exact .of (.int x y) (by rw[Al];simp)
   ·rw[Al,decide_eq_true_eq,rr];constructor
    ·rintro rfl j _;simp
    ·intro C;apply oT;intro j;by_cases bu:j<Q.length
     ·have:=C j (by rw[e1];exact Jd.mpr bu);simpa using this
     ·rw[nL<|by exact bH (.le aa ab) [.es ab aa] bu,nL<|by exact ch (.le aa ab) [.eq ah aa,.es ab ah] ap bu]
  ·refine .of (.len X aK aA<|by rw[e1,e1];exact ap) ?_;rw[decide_eq_false_iff_not];rintro rfl;exact ap rfl
theorem Hg (aK:I a=Y (.list<|br Q))(aA:I ae=Y (.list<|br A))(C:ad (.bool (!decide (Q=A))) I):i0 (.ref a) (.ref ae) ad I:=(eV (1) _ (kN<|.le aC<|.k 20) (xk aK aA 0) C)
theorem T1 {bG:List Int}(aK:I a=Y (.list<|br Q))(aA:I ae=Y (.list<|br bG))(C:ad (.bool<|decide<|Q=bG) I):oEq (.ref a) (.ref ae) ad I:=(eV (1) _ (kN<|.le aC<|.k 20) (xk aK aA 0) C)
theorem Td:[(b:Int),(e:Int)].Perm [((min b e:Nat):Int),((max b e:Nat):Int)]:=by
 rcases lL b e with C|C
 ·rw[dG C,nV C]
 ·rw[j1 C,v5 C];exact .swap ..
theorem UC (C:pt<=last):[pt,last].Pairwise (· <= ·):=.cons (λx aL=>by cases gD.mp aL;exact C)<|.cons (λq C=>nomatch C) .nil
theorem Rc (C:sw [(b:Int),(e:Int)] A):A=[((min b e:Nat):Int),((max b e:Nat):Int)]:= List.Perm.eq_of_pairwise (λq q q q=>Int.le_antisymm) C.2 (UC<|dL.mpr<|a5 (nP ..)<|AI ..)<|C.1.trans Td
theorem V5 (C:I a=Y (.list [.int b,.int e]))(af:∀r D,bF I D->D r=Y (.list [.int (min b e:Nat),.int (max b e:Nat)])->ad (.ref r) D):rT [.ref a] ad I:= (dj ([(b:Int),(e:Int)]) (.inl C) (by decide:2<64) λg aO r D n=>af r D n.ext<|by rw[n.at,Rc aO];rfl)
structure iR (I:aI)(sp d u:Addr)(us:List V)(lo a4 f l:Nat):Prop where
 fB:I sp=Y (.inst 566 d)
 id:I d=Y (.attrs 566 (og (.int ((lo:Int)+1)) (.int ((a4:Int)+1)) (.ref u) (.int (f:Nat)) (.int (l:Nat))))
 iB:I u=Y (.list us)
theorem iR.ext {d u:Addr}(C:iR I a d u us lo b e l)(x:bF I Z):iR Z a d u us lo b e l:=⟨x _ _ C.fB,x _ _ C.id,x _ _ C.iB⟩
theorem V7 (C:iR I cl a ae us lo b e l)(aP:co (.int<|(lo:Int)+1)):eo I cl "low" co:=c8 C.fB C.id SA aP
theorem V6 (C:iR I cl a ae us lo b e l)(aP:co (.int<|(b:Int)+1)):eo I cl "high" co:=c8 C.fB C.id Sy aP
theorem nD (C:iR I cl a ae us lo b e l)(aP:co (.ref ae)):eo I cl "rows" co:=c8 C.fB C.id SB aP
theorem lD (C:iR I cl a ae us lo b e l)(aP:co (.int (e:Nat))):eo I cl "first" co:=c8 C.fB C.id Sx aP
theorem nC (C:iR I cl a ae us lo b e l)(aP:co (.int (l:Nat))):eo I cl "last" co:=c8 C.fB C.id Sz aP
theorem uV (C:e<=b):eB A e<=dX A b:=a5 sE<|a5 C uU
theorem Vh (H:ba c)(B:d2 W I b pt ar aW)(U:l<=b)(he:e<=b)(af:∀t Z,bF I Z->Z t=Y (.tup [.int<|(min l e:Nat)+1,.int<|(max l e:Nat)+1])->ad (.ref t) Z): bk c 1 (.ref 324) [.ref W.b,.int<|(l:Int)+1,.int<|(e:Int)+1] ad I:= y3 H B one_le (pE U) one_le (pE he) λt Z x C=>af t Z x (by
  rw[C];rcases lL l e with X|X
  ·rw[lM<|ox X,oY<|ox X,dG X,nV X]
  ·rw[nT<|ox X,p5<|ox X,j1 X,v5 X])
theorem EU {s:Nat}:min (eZ A<|min s e) (eZ A<|max s e)=min (eZ A s) (eZ A e)/\max (eZ A<|min s e) (eZ A<|max s e)=max (eZ A s) (eZ A e):=by
 rcases lL s e with X|X
 ·rw[dG X,nV X];exact⟨rfl,rfl⟩
 ·rw[j1 X,v5 X];exact⟨Nat.min_comm ..,Yi ..⟩
theorem V9 (H:ba c)(B:b3 W I A pt ar aW)(aO:eK A)(U:i<=A.length)(he:e<=A.length)(aq:A.length<=100000) (af:∀sp d u us Z,bF I Z->iR Z sp d u us (eB A<|min i e) (dX A<|max i e) (min (eZ A i)<|eZ A e) (max (eZ A i)<|eZ A e)-> bY (gf I Z) us (fL<|(A.take<|dX A<|max i e).drop<|eB A<|min i e)->I u=am->ad (.ref sp) Z): bk c 5 (.ref 598) [.ref W.b,.int<|(i:Int)+1,.int<|(e:Int)+1,.int 8] ad I:=by refine NA (n:=4) H<|ci (H.f 19)<|Vh H B.R U he λt ay av bd=>eE bd rfl ?_;rw[<-(EU (A:=A) (s:=i) (e:=e)).1,<-(EU (A:=A) (s:=i) (e:=e)).2] at af;have aK:min i e<=A.length:=a5 (nP ..) U;have aA:max i e<=A.length:=tl.mpr ⟨U,he⟩;have T:min i e<=max i e:=a5 (nP ..)<|AI ..;generalize min i e=a at*;generalize max i e=b at*;have al:=B.ext av;refine ci (H.f 31)<|x7 H al aK<|ci (H.f 32)<|x6 H al aA<|kp rfl rfl λF aN a3 o O=>eE O rfl ?_;have aj:=al.ext a3;refine ci (H.f 55)<|w8 H aj aO aK aq λM K=>ci (H.f 55)<|w8 H (aj.ext K) aO aA aq λbz bn=>fu rfl rfl λl bN aS y ao=>V5 ao λr bM bE aX=>?_;have x:bF I bM:=((((av.trans a3).trans K).trans bn).trans aS).trans bE;have ai:=B.ext x;refine⟨(H.k 9).keep,(H.f 53),kD ai.R (λq q q=>yA) (H.m 16)<|ca<|tL H ai (uV T) (sD aA) λaG bQ bi aa ak=>ca<|HH H ak (eh<|eD aq) λu us bV bD v aU bb=>?_⟩;have j:=bD _ _<|bi _ _ aX;exact cU (k:=0) j rfl (da rfl)<|cU (k:=1) j rfl (da rfl)<|ca<|BP H (λX=>by cases X) (λX=>by cases X) (λX=>by cases X) (λX=>by cases X) (λX=>by cases X) λsp d bW h=>af sp d u us bW (((x.trans bi).trans bD).trans h.ext) ⟨h.fB,h.id,h.ext _ _ aU⟩ (bb.mono λw Q X=>(gf.Kt X<|x.trans bi).on λq q q g=>h.ext _ _ g)<|(x.trans bi).none v
noncomputable def ef (a:Nat)(dA new:List Int):Nat:=gH a dA new
noncomputable def cW (a b:Nat)(dA new:List Int):Nat:=gH b (dA.drop<|ef a dA new).reverse (new.drop<|ef a dA new).reverse
noncomputable def pK (p a b:Nat)(dA new:List Int):Int->Int:=eY (((p+ef a dA new:Nat):Int)+1) (((p+dA.length -cW a b dA new:Nat):Int)+1) ((new.length -cW a b dA new -ef a dA new:Nat):Int)
theorem vo {a:Nat}{dA new:List Int}:ef a dA new<=dA.length/\ef a dA new<=new.length:=⟨w5.2.1,w5.2.2⟩
theorem vp {a b:Nat}{dA new:List Int}:cW a b dA new<=dA.length -ef a dA new/\cW a b dA new<=new.length -ef a dA new:=by have:=@w5 b (dA.drop<|ef a dA new).reverse (new.drop<|ef a dA new).reverse;rw[qf,qf,dz,dz] at this;exact this.2
theorem Vp:A.take (ef b A Q)=Q.take (ef b A Q):=EP
theorem Vq:A.drop (A.length -cW b e A Q)=Q.drop (Q.length -cW b e A Q):=by have C:=@EP e (A.drop<|ef b A Q).reverse (Q.drop<|ef b A Q).reverse;have ap:=@vp b e A Q;have hf:=@vo b A Q;change AB (cW b e A Q) _=AB (cW b e A Q) _ at C;rw[AH,AH,List.reverse_inj,JB,JB,dz,dz] at C;rwa[Hd ap.1 hf.1,Hd ap.2 hf.2] at C
theorem Vz:(A++a0++Q).take (A.length+ef b a0 aM)++(aM.take<|aM.length -cW b e a0 aM).drop (ef b a0 aM)++(A++a0++Q).drop (A.length+a0.length -cW b e a0 aM)=A++aM++Q:=by
 have ap:=@vp b e a0 aM;have hf:=@vo b a0 aM;have bv:(A++a0++Q).take (A.length+ef b a0 aM)=A++aM.take (ef b a0 aM):=by rw[<-Vp,en,v2,tq hf.1]
 have bE:(A++a0++Q).drop (A.length+a0.length -cW b e a0 aM)=aM.drop (aM.length -cW b e a0 aM)++Q:=by rw[<-Vq,en,Nat.add_sub_assoc<|yx ap.1,tr,rx<|j0 ..]
 rw[bv,bE];exact Ta<|jn ap.2 hf.2
theorem Vx (ak:i<=e)(ao:i<=l)(bp:j<=e -i)(aq:b+e+t+l<=100000):b+i<=b+e -j/\b+e -j<=b+e+t/\b+e+t+(l -j -i)<=100000/\e<=100000:=⟨by exact e3 (.le (.a aa ab) ah) [.le ab az,.le a8 bS,.sub ah (.a aa az) a8,.sub bS az ab] ak bp rfl rfl,by exact de (.le aa<|.a (.a ab ah) az) [.sub aa (.a ab ah) a8] rfl,by exact sC (.le (.a (.a (.a aa ab) ah) az)<|.k 100000) [.le (.a (.a (.a aa ab) ah) a8)<|.k 100000,.sub az bS dQ,.sub bS a8 ht] aq rfl rfl,by exact cn (.le aa<|.k 100000) [.le (.a (.a (.a ab aa) ah) az)<|.k 100000] aq⟩
theorem to2 (C:b<=100000):b<=200000:=a5 C (by decide)
theorem Vd (H:ba c){aE:List Int}(B:b3 W I (A++Q++aE) pt ar aW)(aO:I a=Y (.list<|br Q))(aX:I ae=Y (.list<|br a0))(d:a0.length<=100000)(aq:A.length+Q.length+aE.length+a0.length<=100000) (af:∀Z,Fr (cO W.cl) No dk I Z->b3 W Z (A++a0++aE) (pK A.length b e Q a0 pt) ar (el (pK A.length b e Q a0) aW)->ad .none Z): bk c 7 (.ref 612) [.ref W.b,.int<|(A.length:Nat)+1,.ref a,.ref ae,.int b,.int e] ad I:=by
 have ap:=@vp b e Q a0;have hf:=@vo b Q a0;refine gM (Vx hf.1 hf.2 ap.1 aq) λbu bY i g=>?_;refine Nm (n:=6) H<|ci (H.f 57)<|EW H aO aX (to2 g) (to2 d) ⟨(H.f 57),kt (k:=ef b Q a0) aO (dN g) λw ay av n₁ aZ=>Iv aZ (eh<|dN g) λp aN a3 o O=>?_⟩;refine kt (k:=ef b Q a0) (a3 _ _<|av _ _ aX) (dN d) λD M K aH aV=>Iv aV (eh<|dN d) λE bz bn be bc=>ca<|EW H (bn _ _<|K _ _ O) bc (by rw[qf];exact to2<|eh g) (by rw[qf];exact to2<|eh d) ?_;have x:bF I bz:=((av.trans a3).trans K).trans bn;have h:=x _ _ aX;refine bx (H.f 30)<|tG (m:=((A.length+ef b Q a0:Nat):Int)+1) Kb<|dK (x _ _ aO) (dN g)<|d3<|i2 (m:=((A.length+Q.length -cW b e Q a0:Nat):Int)+1) (Wt<|yx ap.1)<|dK h (dN d)<|dP<|oK h (ef b Q a0) (a0.length -cW b e Q a0) rfl (H5<|yx ap.2) (dN d) λs bN aS y ao=>ca<|Vl H (B.ext<|x.trans aS) ao (B.T.ne<|x.none y) bu ?_ ?_ λj bM a1 ai=>?_
 ·rw[bK,bK];exact bY
 ·rw[bK,bK,dz,cF,dG<|j0 ..];exact i
 have bL:((a0.take<|a0.length -cW b e Q a0).drop<|ef b Q a0).length=a0.length -cW b e Q a0 -ef b Q a0:=by rw[dz,cF,dG<|j0 ..]
 exact af _ ((Fr.cg<|x.trans aS).trans a1)<|ai.as Vz (by rw[bL];rfl) (by rw[bL];rfl)
noncomputable def cw (lo:Nat)(aE:List (List Int))(k:Nat):Nat:=lo+((aE.take k).map λr=>r.length+1).sum
noncomputable def nE (lo first bf:Nat)(h bg:List (List Int))(k:Nat):Int->Int:=match h[k]?,bg[k]? with
 |some o,Y w=>if w=o then λp=>p else pK (cw lo h k) (min first o.length) (o.length -bf) o w
 |_,_=>λp=>p
noncomputable def ks (lo first bf:Nat)(h bg:List (List Int)):Nat->Int->Int
 |0=>λp=>p
 |j+1=>λp=>nE lo first bf h bg (h.length -(j+1))<|ks lo first bf h bg j p
theorem Hr:el b7 (el af aW)=el (λp=>b7<|af p) aW:=by unfold el;rw[p4];rfl
theorem oc (C:h[b]?=Y A):cw lo h (b+1)=cw lo h b+A.length+1:=by unfold cw;rw[jZ,C,tn,jv,o0];simp;exact kk<|.eq (.a aa<|.a ab<|.a ah aC)<|.a (.a (.a aa ab) ah) aC
theorem F9 {r:List Int}(C:h≠[]):aT (r::h)=r++10::aT h:=by
 cases h with
 |nil=>exact(C rfl).elim
 |cons s h=>rfl
noncomputable def fq (aE:List (List Int)):List Int:=(aE.map λr=>r++[10]).flatten
noncomputable def f9 (aE:List (List Int)):List Int:=(aE.map λr=>10::r).flatten
theorem Rj:aT (A::h)=A++f9 h:=by
 induction h generalizing A with
 |nil=>exact(hV A).symm
 |cons s h B=>refine(?_:A++10::aT (s::h)=A++f9 (s::h));refine J B ?_;rfl
theorem sx:∀{k:Nat} {r:List Int},h[k]?=Y r->aT h=fq (h.take k)++r++f9 (h.drop<|k+1):=by
 induction h with
 |nil=>intro k r C;exact bX C
 |cons s h B=>intro k r C;cases k with
  |zero=>cases C;exact Rj
  |succ k=>cases h with
   |nil=>exact bX C
   |cons t rs=>refine(?_:s++10::aT (t::rs)=fq (s::(t::rs).take k)++r++f9 ((t::rs).drop<|k+1));refine J (B C) ?_;simp[fq]
theorem uL:(fq h).length=(h.map λr=>r.length+1).sum:=by unfold fq;rw[List.length_flatten,p4];congr 1;apply nW;intro r q;simp
theorem iR.fr {ae:Addr->Prop}(C:iR I a cl N us lo b e l)(x:Fr L D ae I Z)(bi:¬ ae 566)(c3:¬ L N):iR Z a cl N us lo b e l:=⟨x.inst C.fB,x.attrs C.id bi,x.list C.iB c3⟩
theorem bY.ov (C:bY (IsL aF I) us h)(x:Fr L D aJ I Z)(az:∀a,L a->aF a):bY (IsL aF Z) us h:=C.mono λq q X=>X.fr x az
theorem xS (C:h[b]?=Y A):(fq<|h.take b).length+A.length<=(aT h).length/\A.length+(f9<|h.drop<|b+1).length<=(aT h).length:=by refine J (sx C)<|J bK<|J bK ?_;exact⟨nU ..,by refine J (Ay _ _ _) ?_;exact ry ..⟩
theorem WC (C:h[b]?=Y A):h.take (b+1)=h.take b++[A]:=by refine J jZ<|J C ?_;rfl
theorem ON (C:h[b]?=Y A):h.drop b=A::h.drop (b+1):=by obtain⟨ak,ao⟩:=e8.mp C;exact J (Aw ak)<|J ao rfl
variable{bg:List (List Int)}
theorem yn:aT (h++A::bg)=fq h++A++f9 bg:=by refine J (sx (k:=h.length) (r:=A)<|by rw[vO<|c1 _,rt];rfl)<|J v3<|J JC<|J (i6<|g5 _)<|J (Ju _ _) ?_;rfl
theorem GW (C:h[b]?=Y A):aT (h.take (b+1)++bg.drop (b+1))=fq (h.take b)++A++f9 (bg.drop<|b+1):=by refine J (WC C)<|J (en _ _ _) ?_;exact yn
theorem Te (C:bg[b]?=Y A):aT (h.take b++bg.drop b)=fq (h.take b)++A++f9 (bg.drop<|b+1):=by refine J (ON C) ?_;exact yn
theorem tM {k:Nat}:lo+(fq<|h.take k).length=cw lo h k:=by refine J uL ?_;rfl
theorem KG (C:h≠[]):cw lo h h.length=lo+(aT h).length+1:=by obtain⟨bG,y,rfl⟩:∃bG y,h=bG++[y]:=⟨h.dropLast,h.getLast C,(v0 _).symm⟩;refine J yn<|bm tM<|J k0<|J uL<|J jv<|J o0<|J bK<|J bK<|J uL<|J (Ay lo _ _) ?_;rfl
theorem UN (ak:l+t<=bc)(ao:j+i<=b)(aq:e+bc+b+bf<=100000):(e+l)+t+(i+bf)+j<=100000/\t<=100000/\j<=100000:=⟨by exact sC (.le (.a (.a (.a (.a aa ab) ah)<|.a az a8) bS)<|.k 100000) [.le (.a ab ah) dQ,.le (.a bS az) ht,.le (.a (.a (.a aa dQ) ht) a8)<|.k 100000] ak ao aq,by exact e3 (.le aa<|.k 100000) [.le (.a ab aa) ah,.le (.a (.a (.a az ah) a8) bS)<|.k 100000] ak aq,by exact e3 (.le aa<|.k 100000) [.le (.a aa ab) ah,.le (.a (.a (.a az a8) ah) bS)<|.k 100000] ao aq⟩
theorem KH (C:h[e]?=Y A):((cw b h (e+1):Nat):Int) -A.length=((b+(fq<|h.take e).length:Nat):Int)+1:=by refine J (oc C)<|bm tM ?_;exact kk<|.Eq (.s (.c<|.a (.a (.a aa ab) ah) aC)<|.c ah)<|.a (.c<|.a aa ab) aC
theorem vx (an:l<h.length)(p:Int):ks lo b bf h bg (h.length -l) p=nE lo b bf h bg l (ks lo b bf h bg (h.length -(l+1)) p):=by
 obtain⟨m,e⟩:∃m,h.length -l=m+1:=⟨h.length -l -1,(Ye<|Au an).symm⟩;have a7:h.length -(l+1)=m:=by refine J (Yg _ _ _)<|J e ?_;rfl
 have o:h.length -(m+1)=l:=by exact bm e<|J (Jz<|hp an) rfl
 refine J e<|J a7 ?_;refine(?_:nE lo b bf h bg (h.length -(m+1)) _=_);exact J o rfl
theorem H0 (ak:h[e]?=Y A)(ao:bg[e]?=Y Q)(C:¬ Q=A)(bJ:a0.length=cw lo h e)(p:Int):pK a0.length (A.take b).length (A.drop bf).length A Q p=nE lo b bf h bg e p:=by unfold nE;refine J ak<|J ao<|J bJ<|J cF<|J dz ?_;exact(congrFun (if_neg C) p).symm
theorem HZ (ak:h[e]?=Y A)(ao:bg[e]?=Y Q)(C:Q=A)(p:Int):p=nE lo b bf h bg e p:=by unfold nE;refine J ak<|J ao ?_;refine(?_:p=(if Q=A then(λp=>p) else _) p);exact J (if_pos C) rfl
theorem Hz (H:ba c)(B:b3 W I (A++aT h++Q) pt ar aW)(az:aJ W.cl)(ax:eJ aJ I)(g:iR I ae cl N us A.length e i l)(ag:e=A.length+(aT h).length) (av:N≠W.cl)(aO:bY (IsL aJ I) us h)(o:I bT=Y (.list b6))(aw:bT≠W.cl)(aX:bY (IsL aJ I) b6 bg)(ap:h.length=bg.length)(h0:h≠[])(aP:∀r∈h,b9 r)(aq:A.length+(aT h).length+(aT bg).length+Q.length<=100000) (aj:h.length<=50000) (af:∀Z,Fr (cO W.cl) No dk I Z->b3 W Z (A++aT bg++Q) (ks A.length i bf h bg h.length pt) ar (el (ks A.length i bf h bg h.length) aW)->ad .none Z): bk c 8 (.ref 619) [.ref W.b,.ref ae,.ref bT,.int bf,.int 8] ad I:=by
 have y:=aO.length;have S:=aX.length.trans ap.symm;have ai:h.length<=100000:=a5 aj (by decide);let E:Nat->V×V×V×V->List V:=λk x=>[.ref W.b,.ref ae,.ref bT,.int bf,.int 8,x.1,.int (cw A.length h k:Nat),x.2.1,x.2.2.1,x.2.2.2];let a8:Nat->V×V×V×V->aI->Prop:=λk q Z=>Fr (cO W.cl) No dk I Z/\b3 W Z (A++aT (h.take k++bg.drop k)++Q) (ks A.length i bf h bg (h.length -k) pt) ar (el (ks A.length i bf h bg<|h.length -k) aW);refine Nn (n:=7) H<|V6 g<|li o (fd<|S▸ai)<|i2 (m:=(h.length:Int) -1) (by exact J S rfl)<|Vu ai<|RC E a8 (a:=(.aD,.aD,.aD,.aD)) ?_ ⟨.cg .refl,?_⟩ (λk x ay C an=>?_) λx ay C=>?_
 ·refine(?_:_=[_,_,_,_,_,_,V.int (cw A.length h h.length:Nat),_,_,_]);refine J (KG h0)<|J ag ?_;rfl
 ·refine J (rt _)<|J k0<|J ap<|J List.drop_length<|J (hV _) ?_;exact B.as rfl rfl (yZ λq=>rfl).symm
 ·obtain⟨bC,al⟩:=C;obtain⟨dA,d⟩:∃r,h[k]?=Y r:=⟨_,eu an⟩;obtain⟨new,u⟩:∃r,bg[k]?=Y r:=⟨_,eu<|ap▸an⟩;have v:=g.fr bC (by decide) av;have T:=bC.list o aw;refine bA λco aB=>?_;refine ig ((aO.ov bC λa C=>C▸az).get d) λw aR aC bt aH s=>?_;subst bt;refine ig ((aX.ov bC λa C=>C▸az).get u) λaZ O zd bt aM X=>?_;subst bt;have G:=aP _<|d1 d;refine fT (UN (xS d).1 (xS u).2 aq) λD bh aF=>?_;refine aB ?_;have bJ:(A++fq (h.take k)).length=cw A.length h k:=by exact J bK<|J tM rfl
  have am:=fd<|y▸ai;have ah:=fd<|S▸ai;have bE:A++aT (h.take k++bg.drop k)++Q=(A++fq (h.take k))++new++(f9 (bg.drop<|k+1)++Q):=by refine J (Te u) ?_;simp only[en]
  refine nD v<|cU v.iB aR am<|dK s (dN bh)<|i2 (m:=(((A++fq (h.take k)).length:Nat):Int)+1) (by refine J bK ?_;exact KH d)<|cU T O ah<|Hg X s<|fE (λbw=>?_) λR=>?_
  ·refine⟨(H.f 41),lD v<|ca<|od H s G bh λt a b aN a3 bv na au bd aK aA=>it (k:=0) bd rfl (da rfl)<|dK aK (eD<|dN bh) ⟨(H.f 58),cU (a3 _ _ T) O ah ⟨(H.f 41),ca<|od H (a3 _ _ s) G bh λF aG a9 M K ao aa ab L ak j=>it (k:=1) L rfl (da rfl)<|dK j (eh<|dN bh) ?_⟩⟩⟩;have U:=a3.trans K;refine ca (Vd H (aE:=f9 (bg.drop<|k+1)++Q) ((al.ext U).as (by refine J (GW d) ?_;simp only[en]) rfl rfl) (U _ _ s) (U _ _ X) aF (by refine J bK<|J bK ?_;exact D) λbz a2 aL=>i2 (m:=(cw A.length h k:Nat)) (by exact J l5<|J bJ rfl)<|fM.mk (E:=E k) (P:=a8 k) (_,_,_,_) ⟨(bC.trans<|.cg U).trans a2,aL.as bE.symm ?_<|Hr.trans<|pI λp=>?_⟩)
   ·refine J (vx an _) ?_;exact H0 d u bw bJ _
   ·refine J (vx an _) ?_;exact H0 d u bw bJ _
  ·refine i2 (m:=(cw A.length h k:Nat)) (by exact J l5<|J bJ rfl) (fM.mk (E:=E k) (P:=a8 k) (x.1,.int<|((A++fq (h.take k)).length:Nat)+1,.ref aC,.int k) ⟨bC,al.as ?_ ?_<|pI λp=>?_⟩)
   ·refine J bE<|J (GW d)<|J R ?_;simp only[en]
   ·refine J (vx an _) ?_;exact HZ d u R _
   ·refine J (vx an _) ?_;exact HZ d u R _
 ·exact af _ C.1<|C.2.as (by refine J nS<|J tk ?_;rfl) rfl rfl
theorem zl:fL (A++[pt])=if pt=10 then fL A++[[]] else(hP A).1++[(hP A).2++[pt]]:=by unfold fL;refine J zk ?_;unfold iG;split<;>simp
theorem Ga:∀(n:Nat) (cs:List Int),cs.length=n->aT (fL cs)=cs:=by
 intro n;induction n with
 |zero=>intro cs C;cases kZ.mp C;rfl
 |succ n B=>
  intro cs C;obtain⟨bG,y,rfl⟩:∃bG y,cs=bG++[y]:=⟨cs.dropLast,cs.getLast (λe=>by rw[e] at C;cases C),(v0 _).symm⟩;have e:=B bG (by simpa using C);refine J zl ?_;unfold fL at e⊢;rw[qL] at e;split
  ·rename_i L;exact J qL<|J (if_neg<|by simp)<|J qL<|J e<|J L rfl
  ·refine J qL ?_;split
   ·rename_i h0;rw[if_pos h0] at e;exact J e rfl
   ·rename_i h0;rw[if_neg h0] at e;conv=>rhs;rw[<-e]
    simp
theorem HX:fL A≠[]:=by unfold fL;simp
theorem HY:∀(n:Nat) (cs:List Int),cs.length=n->eK cs->∀r∈fL cs,b9 r:=by
 intro n;induction n with
 |zero=>intro cs C q r ax;cases kZ.mp C;simp[fL,hP] at ax;refine J ax ?_;exact b9.nil
 |succ n B=>
  intro cs C aO r ax;obtain⟨bG,y,rfl⟩:∃bG y,cs=bG++[y]:=⟨cs.dropLast,cs.getLast (λe=>by rw[e] at C;cases C),(v0 _).symm⟩;have a:=B bG (by simpa using C) λx aL=>aO x<|v6 _ aL;rw[zl] at ax;split at ax
  ·rcases gO.mp ax with ax|ax
   ·exact a r ax
   ·cases gD.mp ax;exact b9.nil
  ·rename_i L;unfold fL at a;rcases gO.mp ax with ax|ax
   ·exact a r<|v6 _ ax
   ·cases gD.mp ax;exact(a _<|YA _<|.head _).append λx aL=>by cases gD.mp aL;exact(aO y<|by simp).resolve_left L
theorem Wa {cs:List Int}:(fL cs).length<=cs.length+1:=by have:=(@HV cs).1;unfold fL;simp;exact bH (.le aa ab) [.le aa ab] this
theorem iX {aE:List (List Int)}{r:List Int}(C:r∈aE):r.length<=(aT aE).length:=by obtain⟨k,an⟩:=Az.mp C;have:=xS an;exact ch (.le aa ab) [.le (.a ah aa) ab] this.1
theorem nu:∀{aE:List (List Int)},aE≠[]->(aT aE).length+1=(aE.map λr=>r.length+1).sum
 |[r],_=>by simp[aT]
 |r::s::rs,_=>by have:=@nu (s::rs) (λX=>by cases X);refine(?_:(r++10::aT (s::rs)).length+1=_);refine J hQ<|J p6<|bm this ?_;simp;exact hI<|.eq (.a (.a aa<|.a ab aC) aC)<|.a (.a aa aC)<|.a ab aC
theorem H7 {f g:List Int->Nat}{K:Nat}:∀{aE:List (List Int)},(∀r∈aE,f r<=g r+K)->(aE.map f).sum<=(aE.map g).sum+aE.length*K:=by
 intro D;induction D with
 |nil=>intro o;simp
 |cons r rs B=>intro C;have:=B λr ax=>C r<|.tail _ ax;have ak:=C r<|.head _;refine J hQ<|J hQ<|J p6<|J p6<|J fe<|J (JE _ _) ?_;exact e3 (.le (.a aa ab)<|.a (.a ah az)<|.a a8 bS) [.le ab<|.a az a8,.le aa<|.a ah bS] this ak
theorem H8 {g:List Int->List Int}(h0:h≠[]):(aT<|h.map g).length+1=(h.map λr=>(g r).length+1).sum:=by refine J (nu λe=>h0<|List.map_eq_nil_iff.mp e)<|J p4 ?_;rfl
theorem Rn {aE:List (List Int)}{g:List Int->List Int}{K:Nat}(C:∀r∈aE,(g r).length<=r.length+K)(h0:aE≠[]):(aT<|aE.map g).length<=(aT aE).length+aE.length*K:=by
 have:=@H7 (λr=>(g r).length+1) (λr=>r.length+1) K aE λr ax=>by refine J (p7 _ _ _) ?_;exact hR<|C r ax
 rw[<-H8 (g:=g) h0,<-nu h0,p7] at this;exact AJ this
theorem Rm {aE:List (List Int)}{g:List Int->List Int}(C:∀r∈aE,r.length<=(g r).length)(h0:aE≠[]):(aT aE).length<=(aT<|aE.map g).length:=by have:=@H7 (λr=>r.length+1) (λr=>(g r).length+1) 0 aE λr ax=>hR<|C r ax;rw[<-H8 (g:=g) h0,<-nu h0,YB] at this;exact AJ this
noncomputable def gA (A:List Int)(s e:Nat):Nat:=eB A<|min s e
noncomputable def hN (A:List Int)(s e:Nat):Nat:=dX A<|max s e
noncomputable def cx (A:List Int)(s e:Nat):List (List Int):=fL<|(A.take<|hN A s e).drop<|gA A s e
noncomputable def cD (A:List Int)(s e:Nat):Nat:=min (eZ A s)<|eZ A e
noncomputable def cZ (A:List Int)(s e:Nat):Nat:=max (eZ A s)<|eZ A e
noncomputable def eH (A:List Int)(s e:Nat)(bg:List (List Int)):List Int:=A.take (gA A s e)++aT bg++A.drop (hN A s e)
noncomputable def fs (A:List Int)(s e bf:Nat)(bg:List (List Int)):Int->Int:=ks (gA A s e) (cD A s e) bf (cx A s e) bg (cx A s e).length
theorem w7 {A:List Int}{k:Nat}:eZ A k<=k:=j0 ..
structure l1 (A:List Int)(s e:Nat):Prop where
 Zg:gA A s e<=hN A s e
 aX:hN A s e<=A.length
 eq:A=A.take (gA A s e)++aT (cx A s e)++A.drop (hN A s e)
 GG:(A.take (gA A s e)).length=gA A s e
 ap:hN A s e=(A.take (gA A s e)).length+(aT (cx A s e)).length
 ne:cx A s e≠[]
 cY:∀r∈cx A s e,b9 r
 hz:cD A s e<=cZ A s e
 lt:cZ A s e<=A.length
 my:(cx A s e).length<=A.length+1
 ta:∀r∈cx A s e,r.length<=A.length
theorem kR {A:List Int}{s e:Nat}(aO:eK A)(U:s<=A.length)(he:e<=A.length):l1 A s e:=by
 have ak:gA A s e<=hN A s e:=uV<|cn (.le aa ab) [.cN aa ah az,.e4 ab ah az] rfl rfl;have ao:hN A s e<=A.length:=sD<|cn (.le aa ab) [.le ah ab,.le az ab,.e4 aa ah az] U he rfl;have c:aT (cx A s e)=(A.take<|hN A s e).drop (gA A s e):=Ga _ _ rfl;have bL:((A.take<|hN A s e).drop<|gA A s e).length=hN A s e -gA A s e:=by refine J dz<|J cF ?_;exact e3 (.eq aa ab) [.le ah az,.sub ab ah a8,.sub aa bS a8,.cN bS ah az] ao rfl rfl rfl
 refine⟨ak,ao,?_,by refine J cF ?_;exact cn (.eq aa ab) [.le ab ah,.le ah az,.cN aa ab az] ak ao rfl,by refine J c<|J bL<|J cF ?_;exact de (.eq aa<|.a ab ah) [.le az aa,.le aa a8,.cN ab az a8,.sub ah aa az] ak ao rfl rfl,HX,HY _ _ rfl λx aL=>aO x<|lN<|nR aL,by unfold cD cZ;exact cn (.le aa ab) [.cN aa ah az,.e4 ab ah az] rfl rfl,?_,?_,λr ax=>?_⟩
 ·refine J c ?_;exact(HU ak).symm
 ·have:=@w7 A s;have:=@w7 A e;unfold cZ;exact e3 (.le aa ab) [.le ah ab,.le az ab,.le a8 ah,.le bS az,.e4 aa a8 bS] U he ‹_› this rfl
 ·have:=@Wa<|(A.take<|hN A s e).drop<|gA A s e;unfold cx;exact e3 (.le aa<|.a ab aC) [.le ah ab,.eq az a8,.le aa<|.a az aC,.sub a8 ah bS] ao bL this rfl
 ·have:=iX ax;rw[c,bL] at this;exact de (.le aa ab) [.le ah ab,.le aa az,.sub az ah a8] ao this rfl
theorem bY.ll (C:bY (gf Z I) us h)(az:eJ aJ Z):bY (IsL aJ I) us h:=C.mono λq q X=>X.Q8 az
theorem pL (g:List Int->List Int)(az:eJ aJ I)(ax:I ae=Y (.list us))(aQ:bY (IsL aJ I) us h)(aq:us.length<=100000) (U:∀ay w aM K,bF I ay->aM∈h->ay w=Y (.list<|br aM)->kB K ay w (g aM)->cI (.ref w::ai) K ay) (hf:∀a Z,bF I Z->eg aJ Z (.ref a) (h.map g)->aw a Z):n3 (.list ae) cI ai (λaj Z=>∀a D,dI Z D a (.list aj)->aw a D) I:= Of g az ax aQ (by refine J eI ?_;exact a5 aq<|by decide) (λay u aM K av i A a6 bU=>d8 A λa e na aK=>e▸U ay a aM K av a6 aK λb aN a3 au aA=>bU _ _ a3<|dj b rfl (au.elim (λX=>X▸na) i.fresh) aA) λaj aN a3 aV a M aH=>hf a M (a3.trans aH.ext)<|gd a aj rfl ((az.ext a3).fresh aH.1) aH.at (aV.mono λq q X=>X.ext aH.ext)
theorem pC (R:l1 A b e)(aq:A.length<=40000)(C:bY (gf I Z) us (cx A b e)):us.length<=100000:=C.length▸a5 R.my (a5 (hR aq)<|by decide)
theorem z4 (C:b<=40000):b<=100000:=a5 C (by decide)
theorem l1.nI (R:l1 A b e)(aq:A.length<=40000)(C:Q∈cx A b e):Q.length<=100000:=a5 (R.ta Q C)<|z4 aq
theorem l1.lt' (R:l1 A b e)(aq:A.length<=40000):cZ A b e<=100000:=a5 R.lt<|z4 aq
theorem pO (H:ba c)(B:b3 W I A pt ar aW)(aO:eK A)(U:b<=A.length)(he:e<=A.length)(aq:A.length<=40000) (af:∀sp d u us Z,bF I Z->iR Z sp d u us (gA A b e) (hN A b e) (cD A b e) (cZ A b e)->bY (gf I Z) us (cx A b e)->I u=am->ad (.ref sp) Z): bk c 5 (.ref 598) [.ref W.b,.int<|(b:Int)+1,.int<|(e:Int)+1,.int 8] ad I:=V9 H B aO U he (z4 aq) af
theorem t5 (H:ba c)(B:b3 W I A pt ar aW)(aO:eK A)(U:b<=A.length)(he:e<=A.length)(aq:A.length<=40000)(az:eJ aJ I) (af:∀a Z,bF I Z->eg aJ Z (.ref a) ((cx A b e).map λr=>kb r (cD A b e)<|cZ A b e)->ad (.ref a) Z): bk c 8 (.ref 624) [.ref W.b,.int<|(b:Int)+1,.int<|(e:Int)+1,.int 8] ad I:=by have R:=kR aO U he;refine MD (n:=7) H<|ci (H.f 56)<|pO H B aO U he aq λsp d u us ay av g bb v=>nD g<|hB g.iB<|pL (λr=>kb r (cD A b e)<|cZ A b e) (az.ext av) g.iB (bb.ll az) (pC R aq bb) (λaN w aM K a3 a6 aR bU=>?_) λa aN a3 aK=>af a aN (av.trans a3) aK;have h:=g.ext a3;exact⟨(H.f 44),lD h<|nC h<|ca<|Pj H aR (R.cY _ a6) (R.nI aq a6) R.hz (R.lt' aq) bU.Ij⟩
theorem y6 (R:l1 A b e):(A.take<|gA A b e).length+(aT<|cx A b e).length+(A.drop<|hN A b e).length=A.length:=by
 conv=>rhs;rw[R.eq]
 exact J bK<|J bK rfl
theorem H2 (H:ba c)(B:b3 W I A pt ar aW)(aO:eK A)(U:b<=A.length)(he:e<=A.length)(az:eJ aJ I)(s:aJ W.cl) (g:iR I ae cl N us (gA A b e) (hN A b e) (cD A b e) (cZ A b e))(bb:bY (IsL aJ I) us (cx A b e))(aU:¬ aJ N)(o:eg aJ I (.ref bT) bg)(ap:(cx A b e).length=bg.length)(aq:A.length+(aT bg).length<=90000)(P:A.length<=40000) (af:∀Z,Fr (cO W.cl) No dk I Z->b3 W Z (eH A b e bg) (fs A b e bf bg pt) ar (el (fs A b e bf bg) aW)->ad .none Z): bk c 8 (.ref 619) [.ref W.b,.ref ae,.ref bT,.int bf,.int 8] ad I:=by
 have R:=kR aO U he;refine cS o λa b6 bv na aK d=>?_;clear o;cases bv;refine Hz H (B.as R.eq rfl rfl) s az (R.GG.symm▸g) R.ap (λX:N=W.cl=>aU<|X▸s) bb aK (λX=>na<|X▸s) d ap R.ne R.cY ?_ (a5 R.my<|a5 (hR P)<|by decide) λZ F aj=>?_
 ·refine J (p7 _ _ _)<|J (y6 R) ?_;exact a5 aq (by decide)
 ·rw[R.GG] at aj;exact af Z F aj
theorem s2 (H:ba c)(B:b3 W aN A pt ar aW)(aO:eK A)(U:b<=A.length)(he:e<=A.length)(az:eJ aJ aN)(s:aJ W.cl)(av:bF aN ay) (g:iR ay a ae cl us (gA A b e) (hN A b e) (cD A b e) (cZ A b e))(bb:bY (gf aN ay) us (cx A b e))(v:aN cl=am)(x:bF ay I)(o:eg aJ I (.ref N) bg)(ap:(cx A b e).length=bg.length)(aq:A.length+(aT bg).length<=90000)(P:A.length<=40000) (af:∀Z,Fr (cO W.cl) No dk aN Z->b3 W Z (eH A b e bg) (fs A b e bf bg pt) ar (el (fs A b e bf bg) aW)->ad .none Z): bk c 8 (.ref 619) [.ref W.b,.ref a,.ref N,.int bf,.int 8] ad I:= H2 H (B.ext<|av.trans x) aO U he (az.ext<|av.trans x) s (g.ext x) ((bb.ll az).mono λq q X=>X.ext x) (az.fresh v) o ap aq P λZ F L=>af Z ((Fr.cg<|av.trans x).trans F) L
theorem xi (H:ba c)(B:b3 W I A pt ar aW)(aO:eK A)(U:b<=A.length)(he:e<=A.length)(aq:A.length+(aT<|(cx A b e).map λr=>r.take (cD A b e)++r.drop (cZ A b e)).length<=90000)(P:A.length<=40000)(az:eJ aJ I)(s:aJ W.cl) (af:∀Z,Fr (cO W.cl) No dk I Z->b3 W Z (eH A b e<|(cx A b e).map λr=>r.take (cD A b e)++r.drop (cZ A b e)) (fs A b e (cZ A b e) ((cx A b e).map λr=>r.take (cD A b e)++r.drop (cZ A b e)) pt) ar (el (fs A b e (cZ A b e)<|(cx A b e).map λr=>r.take (cD A b e)++r.drop (cZ A b e)) aW)->ad .none Z): bk c 9 (.ref 629) [.ref W.b,.int<|(b:Int)+1,.int<|(e:Int)+1,.int 8] ad I:=by have R:=kR aO U he;refine Mq (n:=8) H<|ci (H.f 56)<|pO H B aO U he P λsp d u us ay av g bb v=>⟨(H.f 59),nD g<|hB g.iB<|pL (λr=>r.take (cD A b e)++r.drop (cZ A b e)) (az.ext av) g.iB (bb.ll az) (pC R P bb) (λaN w aM K a3 a6 aR bU=>?_) λa aN a3 aK=>nC (g.ext a3)<|ca<|s2 H B aO U he az s av g bb v a3 aK (fx ..).symm aq P af⟩;have h:=g.ext a3;exact⟨(H.f 45),lD h<|nC h<|ca<|OZ H aR (R.cY _ a6) (R.nI P a6) R.hz (R.lt' P) bU⟩
theorem NW (H:ba c)(B:b3 W I A pt ar aW)(aO:eK A)(U:b<=A.length)(he:e<=A.length)(aq:A.length+(aT<|(cx A b e).map λr=>hw r (cD A b e)<|cZ A b e).length<=90000)(P:A.length<=40000)(az:eJ aJ I)(s:aJ W.cl) (af:∀Z,Fr (cO W.cl) No dk I Z->b3 W Z (eH A b e<|(cx A b e).map λr=>hw r (cD A b e)<|cZ A b e) (fs A b e (cZ A b e) ((cx A b e).map λr=>hw r (cD A b e)<|cZ A b e) pt) ar (el (fs A b e (cZ A b e)<|(cx A b e).map λr=>hw r (cD A b e)<|cZ A b e) aW)->ad .none Z): bk c 9 (.ref 641) [.ref W.b,.int<|(b:Int)+1,.int<|(e:Int)+1,.int 8] ad I:=by have R:=kR aO U he;refine Mf (n:=8) H<|ci (H.f 56)<|pO H B aO U he P λsp d u us ay av g bb v=>⟨(H.f 59),nD g<|hB g.iB<|pL (λr=>hw r (cD A b e)<|cZ A b e) (az.ext av) g.iB (bb.ll az) (pC R P bb) (λaN w aM K a3 a6 aR bU=>?_) λa aN a3 aK=>nC (g.ext a3)<|ca<|s2 H B aO U he az s av g bb v a3 aK (fx ..).symm aq P af⟩;have h:=g.ext a3;exact⟨(H.f 46),lD h<|nC h<|ca<|NX H aR (R.cY _ a6) (R.nI P a6) R.hz (R.lt' P) bU⟩
theorem NY (H:ba c)(B:b3 W I A pt ar aW)(aO:eK A)(U:b<=A.length)(he:e<=A.length)(aq:A.length+(aT<|(cx A b e).map λr=>cls r<|cD A b e).length<=90000)(P:A.length<=40000)(az:eJ aJ I)(s:aJ W.cl) (af:∀Z,Fr (cO W.cl) No dk I Z->b3 W Z (eH A b e<|(cx A b e).map λr=>cls r<|cD A b e) (fs A b e (cD A b e) ((cx A b e).map λr=>cls r<|cD A b e) pt) ar (el (fs A b e (cD A b e)<|(cx A b e).map λr=>cls r<|cD A b e) aW)->ad .none Z): bk c 9 (.ref 651) [.ref W.b,.int<|(b:Int)+1,.int<|(e:Int)+1,.int 8] ad I:=by have R:=kR aO U he;refine Mh (n:=8) H<|ci (H.f 56)<|pO H B aO U he P λsp d u us ay av g bb v=>⟨(H.f 59),nD g<|hB g.iB<|pL (λr=>cls r<|cD A b e) (az.ext av) g.iB (bb.ll az) (pC R P bb) (λaN w aM K a3 a6 aR bU=>?_) λa aN a3 aK=>lD (g.ext a3)<|ca<|s2 H B aO U he az s av g bb v a3 aK (fx ..).symm aq P af⟩;have h:=g.ext a3;exact⟨(H.f 50),lD h<|ca<|NZ H aR (R.cY _ a6) (R.nI P a6) bU⟩
theorem min1:min ((b:Int)+1) ((e:Int)+1)=((min b e:Nat):Int)+1:=by
 rcases lL b e with X|X
 ·exact J (lM<|ox X)<|J (dG X) rfl
 ·exact J (nT<|ox X)<|J (j1 X) rfl
theorem Uz:A.length<=(hL A b l).length:=by
 unfold hL;split
 ·exact c1 _
 ·refine J bK<|J bK<|J (p7 _ _ _)<|bm bK<|J (ho _ _) ?_;exact nU ..
theorem Wj (R:l1 A b e)(C:(aT<|cx A b e).length<=(aT bg).length):A.length<=(eH A b e bg).length:=by refine bm (y6 R) ?_;unfold eH;exact J bK<|J bK<|AA (Js C _) _
theorem Uw (H:ba c)(B:b3 W I A pt ar aW)(aO:eK A)(U:b<=A.length)(he:e<=A.length)(aq:A.length+(aT<|(cx A b e).map λr=>hL r (cD A b e)<|cZ A b e).length<=90000)(P:A.length<=40000)(az:eJ aJ I)(s:aJ W.cl) (af:∀Z,Fr (cO W.cl) No dk I Z->b3 W Z (eH A b e<|(cx A b e).map λr=>hL r (cD A b e)<|cZ A b e) (((min b e:Nat):Int)+1) ar (el (fs A b e (cD A b e)<|(cx A b e).map λr=>hL r (cD A b e)<|cZ A b e) aW)->ad .none Z): bk c 9 (.ref 646) [.ref W.b,.int<|(b:Int)+1,.int<|(e:Int)+1,.int 8] ad I:=by
 have R:=kR aO U he;refine Nc (n:=8) H<|ci (H.f 56)<|pO H B aO U he P λsp d u us ay av g bb v=>⟨(H.f 59),nD g<|hB g.iB<|pL (λr=>hL r (cD A b e)<|cZ A b e) (az.ext av) g.iB (bb.ll az) (pC R P bb) (λaN w aM K a3 a6 aR bU=>?_) λa aN a3 aK=>lD (g.ext a3)<|ca<|s2 H B aO U he az s av g bb v a3 aK (fx ..).symm aq P λM bF aG=>kD aG.R (λq q q=>yB) (H.m 17)<|u4 min1<|ca<|ug H aG one_le ?_ λbz a2 aL=>af _ (bF.trans a2) aL⟩
 ·have h:=g.ext a3;exact⟨(H.f 47),lD h<|nC h<|ca<|Uy H aR (R.cY _ a6) (R.nI P a6) R.hz (R.lt' P) bU⟩
 ·exact dL.mpr<|hR<|a5 (nP ..)<|a5 U<|Wj R<|Rm (λr q=>Uz) R.ne
noncomputable abbrev je (A:List Int)(s e:Nat):List (List Int):=(cx A s e).map λr=>r.take (cD A s e)++r.drop (cZ A s e)
noncomputable abbrev kG (A:List Int)(s e:Nat):List (List Int):=(cx A s e).map λr=>kb r (cD A s e)<|cZ A s e
theorem eg.fr {ae:Addr->Prop}(C:eg aJ I u h)(x:Fr L D ae I Z)(az:∀a,L a->aJ a):eg aJ Z u h:= cS C λa us e m g r=>⟨a,us,e,m,x.list g λl=>m<|az _ l,r.ov x az⟩
theorem Ot (C:b<=l):(A.take b++A.drop l).length<=A.length+0:=by refine J bK<|J cF<|J dz ?_;exact de (.le (.a aa ab)<|.a ah b1) [.le az a8,.cN aa az ah,.sub ab ah a8] C rfl rfl
theorem Ro (R:l1 A b e):(aT<|cx A b e).length<=A.length:=by refine bm (y6 R)<|J (p7 _ _ _) ?_;exact ry ..
theorem xh {A:List Int}{s e:Nat}(R:l1 A s e):A.length+(aT<|je A s e).length<=2*A.length:=by have C:=@Rn (cx A s e) (λr=>r.take (cD A s e)++r.drop (cZ A s e)) 0 (λr q=>Ot R.hz) R.ne;refine J (Nat.two_mul _) ?_;exact Js (a5 C<|Ro R) _
theorem IU (C:e<=2*b)(aq:b<=40000):e<=90000:=a5 C<|a5 (Nat.mul_le_mul_left 2 aq) (by decide)
theorem Rw (H:ba c)(B:b3 W I A pt ar aW)(aO:eK A)(U:b<=A.length)(he:e<=A.length)(aq:A.length<=40000)(az:eJ aJ I)(s:aJ W.cl) (af:∀a Z,Fr (cO W.cl) No dk I Z->eg aJ Z (.ref a) (kG A b e)->b3 W Z (eH A b e<|je A b e) (fs A b e (cZ A b e) (je A b e) pt) ar (el (fs A b e (cZ A b e)<|je A b e) aW)->ad (.ref a) Z): bk c 10 (.ref 636) [.ref W.b,.int<|(b:Int)+1,.int<|(e:Int)+1,.int 8] ad I:= MN (n:=9) H<|ci (H.f 60)<|t5 H B aO U he aq az λa ay av aL=>ci (H.f 61)<|xi H (B.ext av) aO U he (IU (xh<|kR aO U he) aq) aq (az.ext av) s λaN bg aj=> af _ _ ((Fr.cg av).trans bg) (aL.fr bg λa C=>C▸s) aj
noncomputable abbrev strN (A:List Int)(s e:Nat)(cs:List Int):List (List Int):=(cx A s e).map λr=>jU r (cD A s e) (cZ A s e) cs
theorem Gm (C:h≠[]):h[h.length -1]?=Y (h.getLastD []):=by
 refine J AK<|bm ru ?_;cases e:h.getLast? with
 |none=>exact(C<|List.getLast?_eq_none_iff.mp e).elim
 |some r=>rfl
theorem Wq (H:ba c)(B:b3 W I A pt ar aW)(aO:eK A)(an:I ae=Y (.list<|br Q))(V:¬ aJ ae)(aY:Q.length<=1000)(U:b<=A.length)(he:e<=A.length)(aq:A.length+(aT<|strN A b e Q).length<=90000)(P:A.length<=40000)(az:eJ aJ I)(s:aJ W.cl) (af:∀Z,Fr (cO W.cl) No dk I Z->b3 W Z (eH A b e<|strN A b e Q) ((gA A b e:Int)+1+(aT<|strN A b e Q).length -(((cx A b e).getLastD []).length -cZ A b e:Nat)) ar (el (fs A b e (cZ A b e)<|strN A b e Q) aW)->ad .none Z): bk c 9 (.ref 656) [.ref W.b,.int<|(b:Int)+1,.int<|(e:Int)+1,.ref ae,.int 8] ad I:=by
 have R:=kR aO U he;refine NC (n:=8) H<|ci (H.f 56)<|pO H B aO U he P λsp d u us ay av g bb v=>nD g<|hB g.iB<|pL (λr=>jU r (cD A b e) (cZ A b e) Q) (az.ext av) g.iB (bb.ll az) (pC R P bb) (λaN w aM K a3 a6 aR bU=>?_) λa aN a3 o=>⟨(H.f 59),nC (g.ext a3) ?_⟩
 ·have h:=g.ext a3;exact⟨(H.f 48),lD h<|nC h<|ca<|Vn H aR (a3 _ _<|av _ _ an) (R.cY _ a6) (R.nI P a6) R.hz (R.lt' P) (a5 aY<|by decide) bU.Ij⟩
 have x:=av.trans a3;have p:=(bb.ll az).mono λq q X=>X.ext a3;have S:=pC R P bb;refine ca<|H2 H (B.ext x) aO U he (az.ext x) s (g.ext a3) p (az.fresh v) o (fx ..).symm aq P λbz a2 aL=>?_;refine bA λco aB=>cS o λa aj M na aK aV=>?_;clear o;cases M;have i:=(g.ext a3).fr a2 (by decide) λX:u=W.cl=>az.fresh v<|X▸s;have l:=a2.list aK λX=>na<|X▸s;have aF:aj.length=(cx A b e).length:=aV.length.trans<|fx ..;have dA:0<aj.length:=aF▸rz.mpr R.ne;have al:=Gm R.ne;replace al:=(dp aF)▸al;have y:=d1 al;refine ig ((p.ov a2 λa C=>C▸s).get al) λw aR ag bt ah N=>?_;replace aR:=bt▸aR;refine aB ?_;have D:aj.length<=100000:=by refine J aF<|bm bb.length ?_;exact S
 refine⟨(H.f 41),nD i<|li l (fd D)<|i2 (m:=(aj.length -1:Nat)) (sU dA)<|cU i.iB aR (fd S)<|nC i<|ca<|od H N (R.cY _ y) (R.nI P y) λF aG a9 bN aS ao aa ab L ak j=>it (k:=1) L rfl (da rfl)<|dK j (eh<|dN<|R.nI P y) ?_⟩;have O:bY (hZ bN) aj (strN A b e Q):=(aV.ov a2 λa C=>C▸s).mono λq q X=>X.rw.ext aS;have bu:(aT<|strN A b e Q).length<=1000000:=a5 (ry ..)<|a5 aq (by decide);refine V7 (i.ext aS) ⟨(H.f 54),ca<|zy H (aS _ _ l) O (by refine J (fx _)<|bm aF ?_;exact D) bu λt bM bE bv bd=>dK bd bu<|d3<|dP ?_⟩;have ai:=aL.ext<|aS.trans bE;exact o8 H ai.R ai.T λbQ bK E G=>af bQ ((((Fr.cg x).trans a2).trans<|.cg<|aS.trans bE).trans bK) ⟨E.as rfl<|by exact J dz rfl,G⟩
theorem TU (H:ba c)(B:b3 W I A pt ar aW)(aO:eK A)(aA: -3<=last)(j:last+(cx A l e).length<=200)(U:l<=A.length)(he:e<=A.length)(aq:A.length+(aT<|gY (cx A l e) (cD A l e) last).length<=90000)(P:A.length<=40000)(az:eJ aJ I)(s:aJ W.cl) (af:∀Z,Fr (cO W.cl) No dk I Z->b3 W Z (eH A l e<|gY (cx A l e) (cD A l e) last) (fs A l e (cD A l e) (gY (cx A l e) (cD A l e) last) pt) ar (el (fs A l e (cD A l e)<|gY (cx A l e) (cD A l e) last) aW)->ad .none Z): bk c 9 (.ref 663) [.ref W.b,.int<|(l:Int)+1,.int<|(e:Int)+1,.int last,.int 8] ad I:=by have R:=kR aO U he;exact M9 (n:=8) H<|ci (H.f 56)<|pO H B aO U he P λsp d u us ay av g bb v=>⟨(H.f 59),(H.f 51),nD g<|lD g<|ca<|TW H g.iB ((bb.ll az).mono λq q X=>X.rw) (λr ax=>⟨R.cY r ax,R.nI P ax⟩) (a5 R.hz<|R.lt' P) aA j λa aj aN a3 na aK aV=> lD (g.ext a3)<|ca<|s2 H B aO U he az s av g bb v a3 (gd a aj rfl ((az.ext av).fresh na) aK<|aV.ll<|az.ext av) (by unfold gY;exact J k1 rfl) aq P af⟩
noncomputable def fw (A:List Int)(C:Nat):Nat->Nat
 |0=>C
 |n+1=>if fw A C n<A.length then dX A (fw A C n+1) else fw A C n
theorem IJ {A:List Int}{C:Nat}(G:C<=A.length):∀n,fw A C n<=A.length/\C<=fw A C n:=by
 intro D;induction D with
 |zero=>exact⟨G,c1 _⟩
 |succ n B=>
  have:=B;unfold fw;split
  ·rename_i ap;have ak:=@sD A (fw A C n+1) ap;have ao:=@uU A<|fw A C n+1;exact⟨bH (.le aa ab) [.le aa ab] ak,ch (.le aa ab) [.le aa ah,.le (.a ah aC) ab] this.2 ao⟩
  ·exact this
noncomputable def kW (A:List Int)(k N:Nat):Nat:=fw A (dX A k)<|N -1
noncomputable def gq (A:List Int)(k N:Nat):List (List Int):=fL<|(A.take<|kW A k N).drop<|eB A k
noncomputable def gp (A:List Int)(k:Nat)(aE:List (List Int)):List (List Int):=aE.mapIdx λi r=>eU ((gq A k aE.length)[i]?.getD []) (eZ A k) r
noncomputable def s8 (A:List Int)(k:Nat)(aE:List (List Int)):List Int:=if(gq A k aE.length).length<aE.length then 10::aT ((gp A k aE).drop (gq A k aE.length).length) else[]
noncomputable def oQ (A:List Int)(k:Nat)(aE:List (List Int)):List Int:=A.take (eB A k)++aT ((gp A k aE).take (gq A k aE.length).length)++(s8 A k aE++A.drop (kW A k aE.length))
noncomputable def oO (A:List Int)(k:Nat)(aE:List (List Int))(p:Int):Int:= ks (eB A k) (eZ A k) (eZ A k) (gq A k aE.length) ((gp A k aE).take (gq A k aE.length).length) (gq A k aE.length).length (if(gq A k aE.length).length<aE.length then eY ((kW A k aE.length:Nat)+1) ((kW A k aE.length:Nat)+1) (s8 A k aE).length p else p)
noncomputable def IC (A:List Int)(k:Nat)(aE:List (List Int)):Nat:=(aT<|(gp A k aE).take<|aE.length -1).length+(if 1<aE.length then 1 else 0)
noncomputable def oP (A:List Int)(k:Nat)(aE:List (List Int)):Int:=(eB A k:Nat)+1+(IC A k aE:Nat)+(eZ A k+(aE.getLastD []).length:Nat)
theorem Wb:∀(n:Nat) (cs:List Int),cs.length=n->(fL cs).length=cs.count 10+1:=by
 intro n;induction n with
 |zero=>intro cs C;cases kZ.mp C;rfl
 |succ n B=>
  intro cs C;obtain⟨bG,y,rfl⟩:∃bG y,cs=bG++[y]:=⟨cs.dropLast,cs.getLast (λe=>by replace C:=e▸C;cases C),(v0 _).symm⟩;have e:=B bG (by simpa using C);refine J zl<|J AL ?_;unfold fL at e⊢;split
  ·rename_i L;refine J L ?_;simp at e⊢;exact bH (.eq aa ab) [.eq aa ab] e
  ·rename_i L;simp[L] at e⊢;exact bH (.eq aa ab) [.eq aa ab] e
theorem G7:((A.take<|dX A b).drop b).count 10=0:=by
 have e:(A.take<|dX A b).drop b=(A.drop b).takeWhile (· !=10):=by refine J zB<|J Yc ?_;unfold dX;exact J (Ju _ _) rfl
 refine J e<|mJ YC ?_;intro C;exact(yk C).2 rfl
theorem To (an:b<=A.length):((A.take b).drop<|eB A b).count 10=0:=by
 have e:(A.take b).drop (eB A b)=((A.take b).reverse.takeWhile (· !=10)).reverse:=by refine J zB<|J AH<|J (JN _) ?_;unfold eB;exact J cF<|J (dG an) rfl
 refine J e<|J List.count_reverse<|mJ YC ?_;intro C;exact(yk C).2 rfl
theorem ze (ak:e<=b)(ao:b<=l)(bp:b<=A.length):(A.take l).drop e=(A.take b).drop e++(A.take l).drop b:=by exact Ol ak ao bp
theorem W2 {A:List Int}{k:Nat}(an:k<=A.length):∀n,((A.take<|fw A (dX A k) n).drop<|eB A k).count 10<=n:=by
 intro D;induction D with
 |zero=>refine(?_:((A.take<|dX A k).drop<|eB A k).count 10<=0);exact J (ze (sE) (uU) an)<|J AL<|J G7<|J (To an)<|c1 _
 |succ n B=>
  have B:=B;have aA:=@IJ A (dX A k) (sD an) n;have ak:eB A k<=fw A (dX A k) n:=a5 (uV<|c1 k) aA.2;unfold fw;split
  ·rename_i ap;have ao:=@uU A<|fw A (dX A k) n+1;refine J (ze (b:=fw A (dX A k) n+1) (bH (.le aa<|.a ab aC) [.le aa ab] ak) ao<|bH (.le (.a aa aC) ab) [.lt aa ab] ap)<|J AL<|J G7<|J (ze (b:=fw A (dX A k) n) ak (gb<|.le aa<|.a aa aC) aA.1)<|J AL ?_;have:((A.take<|fw A (dX A k) n+1).drop<|fw A (dX A k) n).length=1:=by refine J dz<|J cF ?_;exact cn (.eq aa aC) [.lt ab ah,.sub aa az ab,.cN az (.a ab aC) ah] ap rfl rfl
   have:=@List.count_le_length Int _ 10<|(A.take<|fw A (dX A k) n+1).drop<|fw A (dX A k) n;exact cn (.le (.a (.a aa ab) b1)<|.a ah aC) [.le aa ah,.eq az aC,.le ab az] B ‹_› this
  ·exact bH (.le aa<|.a ab aC) [.le aa ab] B
theorem W6 {N:Nat}(an:b<=A.length)(B:0<N):(gq A b N).length<=N/\0<(gq A b N).length:=by have:=W2 an<|N -1;unfold gq kW;exact J (Wb _ _ rfl)<|⟨ch (.le (.a aa aC) ab) [.lt b1 ab,.le aa ah,.sub ah ab aC] B this rfl,gb<|.lt b1<|.a aa aC⟩
theorem y1:(eU aM bf A).length=max aM.length bf+A.length:=by unfold eU;exact J bK<|J bK<|J (p7 _ _ _)<|bm bK<|J (ho _ _)<|J oH rfl
theorem UT (C:b9 aM)(aG:b9 A):b9 (eU aM bf A):=(((mD C).take _).append aG).append<|(mD C).drop _
theorem vH {k:Nat}:(gp A k h).length=h.length:=k1 ..
theorem zS (C:h[i]?=Y Q):(gp A b h)[i]?=Y (eU ((gq A b h.length)[i]?.getD []) (eZ A b) Q):=by unfold gp;refine J hq<|J C ?_;rfl
theorem xR {K:Nat}:∀{aE:List (List Int)},(∀r∈aE,r.length<=K)->(aT aE).length<=aE.length*(K+1)
 |[],_=>by simp[aT]
 |[r],C=>by have:=C r<|.head _;simp[aT];exact bH (.le aa<|.a ab aC) [.le aa ab] this
 |r::s::rs,C=>by have ak:=@xR K (s::rs) λx aL=>C x<|.tail _ aL;have ao:=C r<|.head _;refine(?_:(r++10::aT (s::rs)).length<=_);refine J bK<|J fe<|J fe<|J (JE _ _) ?_;exact cn (.le (.a aa<|.a ab aC)<|.a ah<|.a az aC) [.le ab ah,.le aa az] ak ao
theorem Rp:∀{rs:List (List Int)},(aT rs).length<=(aT<|A::rs).length:=by
 intro D;induction D with
 |nil=>exact dU _
 |cons s rs B=>refine(?_:_<=(A++10::aT (s::rs)).length);refine J bK ?_;exact a5 (g5 _)<|ry ..
theorem uM:∀{k:Nat} {rs:List (List Int)},(aT<|rs.drop k).length<=(aT rs).length
 |0,_=>c1 _
 |_+1,[]=>c1 _
 |k+1,r::rs=>a5 (uM (k:=k) (rs:=rs)) Rp
noncomputable abbrev oa (cI:List (List Int))(n:Nat):Nat:=(aT<|cI.take<|n -1).length+(if 1<n then 1 else 0)
structure D7 (cI aE:List (List Int))(bf:Nat):Prop where
 ap:cI.length=aE.length
 h0:0<aE.length
 aX:aE.length<=61
 a1:bf<=60
 bu:(aT cI).length<=61*121
 last:∃d bL,aE.getLastD []=bL/\cI[aE.length -1]?=Y (eU d bf bL)/\aE[aE.length -1]?=Y bL/\b9 d/\d.length<=60/\b9 bL/\bL.length<=60
structure gS (R:aI->V->List Int->Prop)(I:aI)(r7 u:Addr)(aj us:List V)(cI aE:List (List Int))(bf:Nat):Prop where
 hf:I r7=Y (.list aj)
 a6:bY (R I) aj cI
 aU:I u=Y (.list us)
 bb:bY (R I) us aE
 p:D7 cI aE bf
variable{cI:List (List Int)}{af:aI->V->List Int->Prop}
theorem gS.eM (aE:gS af I ae a ai us cI h bf):ai.length=h.length:=aE.a6.length.trans aE.p.ap
theorem gS.ra (aE:gS af I ae a ai us cI h bf):ai.length<=100000:=aE.eM▸a5 aE.p.aX (by decide)
theorem gS.Iw (aE:gS af I ae a ai us cI h bf):us.length<=100000:=aE.bb.length▸a5 aE.p.aX (by decide)
theorem gS.ext {u:Addr}(aE:gS hZ I a u ai us cI h bf)(x:bF I Z):gS hZ Z a u ai us cI h bf:=⟨x _ _ aE.hf,aE.a6.mono λq q X=>X.ext x,x _ _ aE.aU,aE.bb.mono λq q X=>X.ext x,aE.p⟩
theorem gS.Fk (aE:gS (IsL aJ) I ae a ai us cI h bf)(x:bF I Z):gS (IsL aJ) Z ae a ai us cI h bf:=⟨x _ _ aE.hf,aE.a6.mono λq q X=>X.ext x,x _ _ aE.aU,aE.bb.mono λq q X=>X.ext x,aE.p⟩
theorem gS.fr {ae:Addr->Prop}(aE:gS (IsL aJ) I N cl ai us cI h bf)(x:Fr L D ae I Z)(az:∀a,L a->aJ a)(ft:¬ aJ N)(v:¬ aJ cl):gS (IsL aJ) Z N cl ai us cI h bf:=⟨x.list aE.hf λl=>ft<|az _ l,aE.a6.ov x az,x.list aE.aU λl=>v<|az _ l,aE.bb.ov x az,aE.p⟩
theorem gS.rw (aE:gS (IsL aJ) I ae a ai us cI h bf):gS hZ I ae a ai us cI h bf:=⟨aE.hf,aE.a6.mono λq q X=>X.rw,aE.aU,aE.bb.mono λq q X=>X.rw,aE.p⟩
theorem IT (ak:b<=60)(ao:e<=60)(bp:bf<=60):max b bf+e<=120/\min (max b bf+e) (bf+e)=bf+e:=⟨by exact cn (.le (.a aa ab)<|.k 120) [.le ah<|.k 60,.le ab<|.k 60,.le az<|.k 60,.e4 aa ah az] ak ao bp rfl,by exact de (.eq aa<|.a ab ah) [.cN aa (.a az ah)<|.a ab ah,.e4 az a8 ab] rfl rfl⟩
theorem FP (C:pre.length=b)(e:pre[b -1]?=Y aB):pre.getLast?=Y aB:=by exact J ru<|J C<|J e rfl
theorem IQ (H:ba c)(B:b3 W I A pt bD aW)(aE:gS hZ I cl ae ai us cI h bf)(bd:I a=Y (.list<|br Q))(ap:Q.length=oa cI h.length) (af:∀Z,Fr (cO W.cl) No dk I Z->b3 W Z A ((lo:Nat)+1+(oa cI h.length:Nat)+(bf+(h.getLastD []).length:Nat)) bD aW->ad .none Z): BJ (d5 c 8 ad) [.ref W.b,.ref ae,.int 8,.ref a,.int bf,.ref cl,bR,.int<|(lo:Int)+1,b4,ar,bo,bw] [] I:=by
 refine bA λco aB=>?_;refine fc (aE.p.last) λd bL bG=>sQ bG λg bv bE ah D o bh=>?_;refine kq (aE.a6.get bv) λbk e e2 bt i=>?_;replace e:=bt▸e;refine kq (aE.bb.get bE) λbS x bP bt a4=>?_;replace x:=bt▸x;have aq:Q.length<=1000000:=by have ak:=@sy cI<|h.length -1;have ao:=aE.p.bu;refine J ap ?_;unfold oa;split<;>(first|exact bH (.le (.a aa aC)<|.k 1000000) [.le aa ab,.le ab<|.m 61<|.k 121] ak ao|exact bH (.le (.a aa b1)<|.k 1000000) [.le aa ab,.le ab<|.m 61<|.k 121] ak ao)
 obtain⟨aS,bl⟩:=IT D bh aE.p.a1;refine aB ?_;refine dK bd aq<|d3 ⟨(H.f 69),ca<|KF H aE.hf aE.aU (FP aE.eM e) (FP aE.bb.length x) i a4 (UT ah o) o aE.ra aE.Iw (by refine J y1 ?_;exact a5 aS<|by decide) (a5 bh<|by decide) (a5 aE.p.a1<|by decide) λay av=>d3 ?_⟩;have al:=B.ext av;exact o8 H al.R al.T λaN bg L t=>af aN ((Fr.cg av).trans bg) ⟨L.as rfl<|by exact J ap<|J y1<|J bl<|J g rfl,t⟩
theorem W9 (H:ba c)(B:b3 W I A pt bw aW)(aE:gS hZ I ae a ai us cI h bf) (af:∀Z,Fr (cO W.cl) No dk I Z->b3 W Z A ((lo:Nat)+1+(oa cI h.length:Nat)+(bf+(h.getLastD []).length:Nat)) bw aW->ad .none Z): BL (d5 c 8 ad) [.ref W.b,.ref a,.int 8,bl,.int bf,.ref ae,bD,.int<|(lo:Int)+1,bR,ar,aS,bo] [] I:=by
 have j:0<ai.length:=aE.eM▸aE.p.h0;have d:(aT<|cI.take<|ai.length -1).length<=61*121:=a5 sy aE.p.bu;refine⟨(H.f 54),li aE.hf (fd aE.ra)<|i2 (m:=(ai.length -1:Nat)) (sU j)<|vB aE.hf aE.ra λFn ay av n₁ aZ=>ca<|zy H aZ ((aE.ext av).a6.take _) (by refine J cF ?_;exact a5 (Jp ..)<|aE.p.ap▸a5 aE.p.aX (by decide)) (a5 d<|by decide) λg aN a3 o O=>?_⟩;have e:=(aE.ext av).ext a3;refine li e.hf (fd aE.ra)<|db (p:=(1:Int)<(ai.length:Nat)) (λC=>?_) λC=>?_
 ·refine fu rfl rfl λt M K aH aV=>eC (bG:=[10]) (K _ _ O) aV d (c1 1) rfl λi bz bn be bc=>?_;have x:=((av.trans a3).trans K).trans bn;refine IQ H (B.ext x) (aE.ext x) bc ?_ λZ F L=>af Z ((Fr.cg x).trans F) L;rw[bK,aE.eM,oa,if_pos<|by refine bm aE.eM ?_;exact fl.mp C];rfl
 ·refine fu rfl rfl λt M K aH aV=>eC (bG:=[]) (K _ _ O) aV d (dU 0) rfl λi bz bn be bc=>?_;have x:=((av.trans a3).trans K).trans bn;refine IQ H (B.ext x) (aE.ext x) bc ?_ λZ F L=>af Z ((Fr.cg x).trans F) L;rw[hV,aE.eM,oa,if_neg<|by refine bm aE.eM ?_;exact λX=>C<|fl.mpr X];rfl
theorem IP {S:List Int}(H:ba c)(B:b3 W I (A++aT bg++S) pt bo aW)(s:aJ W.cl)(ax:eJ aJ I)(aE:gS (IsL aJ) I cl ae b6 us cI h bf)(ft:¬ aJ cl)(v:¬ aJ ae)(aO:I N=Y (.list ai))(no:¬ aJ N)(u:bY (IsL aJ I) ai bg) (g:A.length=lo)(ag:b=A.length+(aT bg).length)(h0:bg≠[])(bR:∀r∈bg,b9 r)(T:bg.length<=h.length)(aq:A.length+(aT bg).length+S.length<=50000) (af:∀Z,Fr (cO W.cl) No dk I Z->b3 W Z (A++aT (cI.take bg.length)++S) ((lo:Nat)+1+(oa cI h.length:Nat)+(bf+(h.getLastD []).length:Nat)) bo (el (ks lo bf bf bg (cI.take bg.length) bg.length) aW)->ad .none Z): wy (d5 c 8 ad) [.ref W.b,.ref ae,.int 8,bw,.int bf,.ref cl,.int<|(b:Int)+1,.int<|(lo:Int)+1,.int (bg.length:Nat),.ref N,ar,aS] [] I:=by
 subst g;have l:∀a,cO W.cl a->aJ a:=λa C=>C▸s;have m:bg.length=(cI.take bg.length).length:=by exact J cF<|J aE.p.ap<|J (dG T) rfl
 have P:A.length+(aT bg).length+(aT<|cI.take bg.length).length+S.length<=100000:=by refine J (p7 _ _ _) ?_;exact a5 (nQ aq<|a5 sy aE.p.bu) (by decide)
 refine⟨(H.f 59),(H.k 9).keep,ca<|BP H (λX=>by cases X) (λX=>by cases X) (λX=>by cases X) (λX=>by cases X) (λX=>by cases X) λsp d ay i=>vB (i.ext _ _ aE.hf) aE.ra λj aN a3 o O=>?_⟩;have x:=i.ext.trans a3;have e:=aE.Fk x;exact ca<|Hz H (B.ext x) s (ax.ext x) ⟨a3 _ _ i.fB,a3 _ _ i.id,x _ _ aO⟩ ag (λX:N=W.cl=>no<|X▸s) (u.mono λq q X=>X.ext x) O (λX:j=W.cl=>(ax.ext i.ext).fresh o<|X▸s) (e.a6.take _) m h0 bR P (a5 T<|a5 aE.p.aX<|by decide) λM bF aG=> W9 H aG (e.fr bF l ft v).rw λZ ak L=>af Z (((Fr.cg x).trans bF).trans ak) L
noncomputable abbrev ou (cI:List (List Int))(m n:Nat):List Int:=if m<n then 10::aT (cI.drop m) else[]
theorem QY (C:(aT cI).length<=61*121){m n:Nat}:(ou cI m n).length<=61*121+1:=by
 unfold ou;split
 ·refine J fe ?_;exact hR<|a5 uM C
 ·exact dU _
theorem Xa (H:ba c)(B:b3 W I (a0++aT bg++A) pt bo aW)(s:aJ W.cl)(ax:eJ aJ I)(aE:gS (IsL aJ) I cl ae b6 us cI h bf)(ft:¬ aJ cl)(v:¬ aJ ae)(aO:I N=Y (.list ai))(no:¬ aJ N)(u:bY (IsL aJ I) ai bg) (g:a0.length=lo)(ag:b=a0.length+(aT bg).length)(h0:bg≠[])(bR:∀r∈bg,b9 r)(T:bg.length<=h.length)(aq:a0.length+(aT bg).length+A.length<=1000) (af:∀Z,Fr (cO W.cl) No dk I Z->b3 W Z (a0++aT (cI.take bg.length)++(ou cI bg.length h.length++A)) ((lo:Nat)+1+(oa cI h.length:Nat)+(bf+(h.getLastD []).length:Nat)) bo (el (λp=>ks lo bf bf bg (cI.take bg.length) bg.length (if bg.length<h.length then eY ((b:Nat)+1) ((b:Nat)+1) (ou cI bg.length h.length).length p else p)) aW)->ad .none Z): BM (d5 c 8 ad) [.ref W.b,.ref ae,.int 8,bw,.int bf,.ref cl,.int<|(b:Int)+1,.int<|(lo:Int)+1,.int (bg.length:Nat),.ref N,ar,aS] [] I:=by
 have l:∀a,cO W.cl a->aJ a:=λa C=>C▸s;have bJ:(a0++aT bg).length=b:=by exact J bK<|J ag rfl
 have bD:(a0++aT bg++A).length<=1000:=by refine J bK<|J bK ?_;exact aq
 have P:=QY aE.p.bu (m:=bg.length) (n:=h.length);refine li aE.aU (fd aE.Iw)<|db (p:=(bg.length:Int)<(us.length:Nat)) (λC=>?_) λC=>?_
 ·have G:bg.length<h.length:=by refine bm aE.bb.length ?_;exact fl.mp C
  have d:ou cI bg.length h.length=10::aT (cI.drop bg.length):=if_pos G;refine⟨(H.f 27),fu rfl rfl λt ay av n₁ aZ=>⟨(H.f 54),zC (av _ _ aE.hf) aE.ra λj aN a3 o O=>ca<|zy H O ((aE.Fk<|av.trans a3).rw.a6.drop _) (by refine J dz ?_;exact a5 (j0 ..)<|aE.p.ap▸a5 aE.p.aX (by decide)) (a5 (a5 uM aE.p.bu)<|by decide) λbG M K aH aV=>eC (Q:=[10]) (K _ _<|a3 _ _ aZ) aV (c1 1) (a5 uM aE.p.bu) rfl λaD bz bn be bc=>?_⟩⟩;have x:=((av.trans a3).trans K).trans bn;have bc:bz aD=Y (.list<|br<|ou cI bg.length h.length):=by refine J d ?_;exact bc
  refine ca<|F4 H (k:=b) (B.ext x) bc (λX:aD=W.cl=>(ax.ext<|(av.trans a3).trans K).fresh be<|X▸s) (by refine J bK<|J bJ ?_;exact nU ..) (a5 (nQ bD P)<|by decide) λbN bv D=>?_;have F:=(Fr.cg x).trans bv;refine IP H (S:=ou cI bg.length h.length++A) (D.as (by exact J (Jx bJ)<|J (Yw bJ)<|J (en _ _ _) rfl) rfl rfl) s (ax.fr F) (aE.fr F l ft v) ft v (F.list aO λX:N=W.cl=>no<|X▸s) no (u.ov F l) g ag h0 bR T (by refine J bK ?_;exact cn (.le (.a (.a aa ab)<|.a ah az)<|.k 50000) [.le (.a (.a aa ab) az)<|.k 1000,.le ah<|.a (.m 61<|.k 121) aC] aq P) λZ ak L=>af Z (F.trans ak)<|L.as rfl rfl<|Hr.trans (pI λp=>by exact J (if_pos G) rfl)
 ·have w:¬ bg.length<h.length:=λX=>C<|fl.mpr (by refine J aE.bb.length ?_;exact X);have d:ou cI bg.length h.length=[]:=if_neg w;exact IP H B s ax aE ft v aO no u g ag h0 bR T (a5 aq<|by decide) λZ ak L=>af Z ak<|L.as (by refine J d ?_;rfl) rfl (pI λp=>by exact J (if_neg w) rfl)
theorem zU:aT (gq A e b)=(A.take<|kW A e b).drop (eB A e):=Ga _ _ rfl
theorem IL (aO:eK A)(aq:A.length<=60):∀r∈gq A e b,b9 r/\r.length<=60:=λr ax=>by refine⟨HY _ _ rfl (λx aL=>aO x<|lN<|nR aL) r ax,a5 (iX ax) ?_⟩;refine J zU ?_;exact eh<|eD aq
theorem vI {k:Nat}(aO:eK A)(aq:A.length<=60){N:Nat}:b9 ((gq A k N)[i]?.getD [])/\((gq A k N)[i]?.getD []).length<=60:=by
 cases e:(gq A k N)[i]? with
 |none=>exact⟨b9.nil,dU _⟩
 |some r=>exact IL aO aq r<|d1 e
theorem W4 (aO:eK A)(aq:A.length<=60)(a1:eZ A b<=60)(aG:∀r∈h,b9 r/\r.length<=60):∀r∈gp A b h,r.length<=120:=λr ax=>by obtain⟨i,a4⟩:=Az.mp ax;have d:=(e8.mp a4).1;replace d:=vH▸d;replace a4:=(zS<|eu d)▸a4;cases a4;refine J y1 ?_;exact(IT (vI aO aq).2 (aG _<|List.getElem_mem d).2 a1).1
theorem W7 (aO:eK A)(aq:A.length<=60)(an:b<=A.length)(bl:h.length<=61)(aG:∀r∈h,b9 r/\r.length<=60)(h0:h≠[]):D7 (gp A b h) h (eZ A b):=by have a1:eZ A b<=60:=a5 w7<|a5 an aq;have ap:=Gm h0;have hm:=aG _<|d1 ap;exact⟨vH,rz.mpr h0,bl,a1,a5 (xR<|W4 aO aq a1 aG)<|by refine J vH ?_;exact Nat.mul_le_mul bl<|c1 _, _,_,rfl,zS ap,ap,(vI aO aq).1,(vI aO aq).2,hm.1,hm.2⟩
theorem Xb (H:ba c)(B:b3 W I A ((l:Int)+1) ar aW)(aO:eK A)(an:l<=A.length)(aq:A.length<=60)(az:eJ aJ I)(s:aJ W.cl)(ax:eg aJ I (.ref ae) h)(bl:h.length<=61)(aG:∀r∈h,b9 r/\r.length<=60)(h0:h≠[]) (af:∀Z,Fr (cO W.cl) No dk I Z->b3 W Z (oQ A l h) (oP A l h) ar (el (oO A l h) aW)->ad .none Z): bk c 9 (.ref 668) [.ref W.b,.ref ae,.int 8] ad I:=by
 refine bA λco aB=>?_;refine cS ax λaL us bv v aU bb=>?_;clear ax;refine aB ?_;cases bv;have S:=bb.length;have g:=W7 aO aq an bl aG h0;have ai:A.length<=100000:=a5 aq (by decide);have ap:=W6 (N:=h.length) an g.h0;have T:=IJ (sD an)<|h.length -1;have t:eB A l<=kW A l h.length:=a5 (uV<|c1 l) T.2;have ag:kW A l h.length<=A.length:=T.1;have aP:h.length<=100000:=a5 bl (by decide);have aQ:us.length<=100000:=S▸aP;let E:Nat->V->List V:=λj w=>[.ref W.b,.ref ae,.int 8,.aD,.int (eZ A l:Nat),.aD,.int<|(fw A (dX A l) j:Nat)+1,.int<|(eB A l:Nat)+1,.aD,.aD,.int<|(l:Int)+1,w];refine EE (n:=8) H<|li aU (fd aQ)<|cr (p:=((us.length:Nat):Int)=0) (λe=>Ji g.h0<|S▸Jw.mp e)<|k9 B.R<|ci (H.f 55)<|w8 H B aO an ai λay av=>ci (H.f 31)<|x7 H (B.ext av) an<|ci (H.f 32)<|x6 H (B.ext av) an ?_;have al:=B.ext av;refine li (av _ _ aU) (fd aQ)<|i2 (m:=(h.length -1:Nat)) (by refine J S ?_;exact sU g.h0)<|sX (a5 (j0 ..) aP)<|Gl E (λq q=>True) (a:=.aD) rfl trivial (λj w q bu=>?_) λw q=>?_
 ·refine o9 al.R (db (p:=((fw A (dX A l) j:Nat):Int)+1<(A.length+1:Nat)) (λC=>?_) λC=>?_)
  ·have G:fw A (dX A l) j<A.length:=Nat.lt_of_succ_lt_succ<|fl.mp C;refine⟨(H.f 32),tG (m:=((fw A (dX A l) j+1:Nat):Int)+1) rfl<|ca<|x6 H al G ?_⟩;refine J ((if_pos G).symm:dX A (fw A (dX A l) j+1)=fw A (dX A l) (j+1)) ?_;exact iP.mk (E:=E<|j+1) (.int j) trivial
  ·refine(dj (.int j) ?_ trivial rfl);refine(?_:_=[_,_,_,_,_,_,V.int<|(fw A (dX A l) (j+1):Nat)+1,_,_,_,_,_]);refine J (show fw A (dX A l) (j+1)=fw A (dX A l) j from if_neg λX=>C<|fl.mpr<|Nat.succ_lt_succ X) ?_;rfl
 refine⟨(H.f 53),kD al.R (λq q q=>yA) (H.m 16)<|ca<|tL H al t ag λa aN a3 na aK=>ca<|HH H aK (eh<|eD ai) λo os M K no aC u=>?_⟩;have U:=(av.trans a3).trans K;have aa:os.length=(gq A l h.length).length:=u.length;have ab:bY (IsL aJ M) os (gq A l h.length):=u.ll<|az.ext<|av.trans a3;have am:os.length<=100000:=aa▸a5 ap.1 aP;have P:=U _ _ aU;have aE:=bb.mono λq q X=>X.ext U;refine li aC (fd am) ?_;refine J aa ?_;refine li P (fd aQ) ?_;refine J S ?_;refine sX aP<|SD (λaj Z=>bF M Z/\bY (IsL aJ Z) aj ((gp A l h).take aj.length)) aP ⟨.refl,trivial⟩ (λaj bz C G=>?_) λaj bz C aF r7 bN y=>?_
 ·obtain⟨bn,aV⟩:=C;have D:=eu G;refine bA λco aB=>?_;obtain⟨aH,aw⟩:=aG _<|d1 D;refine ig ((aE.mono λq q X=>X.ext bn).get D) λaZ O bP bt cc a4=>?_;replace O:=bt▸O;refine aB ?_;have fin:∀{b:Addr} {own:List Int} {bN:aI},bF bz bN->bN b=Y (.list<|br own)->own=((gq A l h.length)[aj.length]?.getD [])->bk c 7 (.ref 537) [.ref b,.int (eZ A l:Nat),.ref bP,.int 8] (λw Z=>bF M Z/\bY (IsL aJ Z) (aj++[w]) (AB (aj++[w]).length<|gp A l h)) bN:=λ{b own bN} aS aA e=>by replace aA:=e▸aA;have ak:=vI (k:=l) (N:=h.length) (i:=aj.length) aO aq;refine Hy H aA (aS _ _ a4) ak.1 (a5 ak.2<|by decide) (a5 g.a1<|by decide) (a5 aw<|by decide) λd bM bE fb hd=>⟨(bn.trans aS).trans bE,?_⟩;refine J bK<|J fe<|J ju<|J jZ<|J (zS D) ?_;exact(aV.mono λq q X=>X.ext<|aS.trans bE).append ⟨(dj d rfl ((az.ext<|(U.trans bn).trans aS).fresh fb) hd),trivial⟩
  refine⟨(H.f 49),db (p:=((aj.length:Nat):Int)<((gq A l h.length).length:Nat)) (λC=>?_) λC=>?_⟩
  ·have ah:=eu<|fl.mp C;refine bA λco aB=>?_;refine ig ((ab.mono λq q X=>X.ext bn).get ah) λbS x b bt au aA=>?_;replace x:=bt▸x;refine aB ?_;exact cU (bn _ _ aC) x (fd am)<|cU (bn _ _ P) O (fd aQ)<|ca<|fin .refl aA (by refine J ah ?_;rfl)
  ·exact fu rfl rfl λb bN aS y ao=>cU (aS _ _<|bn _ _ P) O (fd aQ)<|ca<|fin (own:=[]) aS ao (by refine J (nL<|YS λX=>C<|fl.mpr X) ?_;rfl)
 ·obtain⟨bn,aV⟩:=C;replace aV:=k0▸(dp<|vH (A:=A) (k:=l))▸aF▸aV;have aS:bF I bN:=(U.trans bn).trans y.ext;have Q:(A.take<|eB A l).length=eB A l:=by exact J cF<|J (dG<|a5 sE an) rfl
  have bu:kW A l h.length=(A.take<|eB A l).length+(aT<|gq A l h.length).length:=by exact J zU<|J Q<|J dz<|J cF<|J (dG ag)<|J (AD t) rfl
  have aM:A=A.take (eB A l)++aT (gq A l h.length)++A.drop (kW A l h.length):=by refine J zU ?_;exact(HU t).symm
  exact Xa H ((B.ext aS).as aM rfl rfl) s (az.ext aS) ⟨y.at,aV.mono λq q X=>X.ext y.ext,aS _ _ aU,bb.mono λq q X=>X.ext aS,g⟩ ((az.ext<|U.trans bn).fresh y.1) v (y.ext _ _<|bn _ _ aC) ((az.ext<|av.trans a3).fresh no) (ab.mono λq q X=>X.ext<|bn.trans y.ext) Q bu HX (λr ax=>(IL aO aq r ax).1) ap.1 (by refine bm bu<|J dz<|J (AD ag) ?_;exact a5 aq<|by decide) λZ F L=>af Z ((Fr.cg aS).trans F) L
abbrev jx (W:lR):Addr->Prop:=λa=>a=W.ek
theorem Fy (x:Fr (cO W.cl) No dk I Z):Fr (cO W.cl) (jx W) dk I Z:=x.mono (λq C=>C) (λq C=>C.elim) λq C=>C
noncomputable def qx (A:List Int)(p:Int):Int:=min (max p 1)<|(A.length:Int)+1
theorem EN (ak:1<=pt)(ao:pt<=A.length+1):qx A pt=pt:=by unfold qx;exact RV (.Eq bh g7) [.bW aC g7,.bW g7<|.a (.c aa) aC,.AX bh jD<|.a (.c aa) aC,.qj jD g7 aC] ak ao rfl rfl
def wz (d r:Addr)(I Z:aI):Prop:=∀x,x≠d->x≠r->Z x=I x
theorem KZ (H:ba c){n:Nat}(aA:I W.b=Y (.inst 1028 W.bd))(hd:I W.bd=Y (.attrs 1028<|nd W n pt ar last aQ st))(T:gP W.g W.bT W.cl I A)(af:ad (.int A.length) I):bk c 2 (.ref 976) [.ref W.b] ad I:=by refine fi T λpre aL post bt G=>?_;clear T;subst bt;exact EA (n:=1) H<|c8 aA hd GC<|pF<|dq G.a4 G.hd Hb (H.m 5)<|ca<|HR H G af
theorem Tf (H:ba c)(hm:I W.m=Y (.inst 201 W.km))(ic:I W.km=Y (.attrs 201<|kF<|.ref W.ek))(f7:I W.ek=Y (.cP aO)) (aK:I a=Y (.inst 133 ae))(hd:I ae=Y (.attrs 133<|g9 (.int pt) ar aS<|.int last))(aq:aO.length<=1000) (af:∀ay aN,Upd I ay W.ek (.cP<|hi pt (.ref a) aO)->Upd ay aN ae (.attrs 133<|g9 (.int pt) ar aS<|.int aQ)->ad .none aN):bk c 1 (.ref 163) [.ref W.m,.ref a,.int aQ] ad I:= Ma (n:=0) H<|c8 hm ic GE<|pF<|c8 aK hd Sv<|kr<|sZ f7 (by refine J eI ?_;exact a5 aq<|by decide) λay j=>iE (j.keep f7 aK) (j.keep f7 hd) (H.d 72) (by refine J x3 ?_;decide) λaN l=>af _ _ j<|Hw▸l
theorem HQ (H:ba c)(B:b3 W I A pt aS aW)(aK:I a=Y (.inst 133 ae))(hd:I ae=Y (.attrs 133<|g9 (.int last) (.bool false) ar<|.int aQ))(s:ar=.none\/ar=.ref W.b) (af:∀Z,wz ae W.ek I Z->Z ae=Y (.attrs 133<|g9 (.int last) (.bool false) (.ref W.b)<|.int<|qx A st)->Z W.ek=Y (.cP<|hi last (.ref a)<|aW.map λe=>(e.num,.ref e.a))->ad .none Z): bk c 3 (.ref 212) [.ref a,.ref W.b,.int st] ad I:=by
 have tail:tC (d5 c 2 ad) [.ref a,.ref W.b,.int st] [] I:=by refine iE aK hd (H.d 71) (by refine J x3 ?_;decide) λay j=>?_;replace j:=Va▸j;have bC:Fr No No j4 I ay:=.i3 j hd rfl;refine fU (B.R.dB) λv h i dB=>?_;have f:=bC.inst B.R.aA;have g:=bC.attrs dB (by decide);have p:=bC.inst B.R.hm.hm;have q:=bC.attrs B.R.hm.ic (by decide);refine c8 f g GB<|pF<|dq p q TD (H.m 1)<|qQ<|dq f g G9 (H.m 14)<|ca<|KZ H f g (B.T.fr bC id<|by decide)<|d3<|yp<|ca<|Tf H p q (bC.cP B.R.hm.f7 id) (bC.inst aK) j.at (by refine J (fx _) ?_;exact a5 (hp B.R.hm.nl)<|by decide) λaN M l o=>?_;exact af M (λx ak ao=>((o.ne ak).trans<|l.ne ao).trans<|j.ne ak) o.at ((o.ne<|gc B.R.hm.f7 hd λX=>by cases X).trans l.at)
 refine Ny (n:=2) H ?_;rcases s with rfl|rfl
 ·exact c8 aK hd uW<|UJ tail
 ·exact c8 aK hd uW<|pF<|c8 aK hd uW<|pF<|Ub tail
theorem wz.fr {fV ga:O}(S:wz ae cl I Z)(hd:I ae=Y (.attrs 133 ce))(ax:I cl=Y (.cP aO))(D:Z ae=Y fV)(d:Z cl=Y ga):Fr No (λa=>a=cl) j4 I Z:= ⟨λx o aL U=>(S x (λX=>by subst X;replace hd:=aL▸hd;cases hd;exact U rfl) λX=>by subst X;replace ax:=aL▸ax;cases ax;exact U rfl).trans aL, λx o aL=>by
  by_cases P:x=ae
  ·clear hd;subst P;exact⟨_,D⟩
  ·by_cases ai:x=cl
   ·clear ax;subst ai;exact⟨_,d⟩
   ·exact⟨o,(S x P ai).trans aL⟩⟩
theorem Qb (x:Fr No (jx W) j4 I Z):Fr (cO W.cl) (jx W) dk I Z:=x.mono (λq C=>C.elim) (λq C=>C) λq C=> .inr<|.inr C
theorem Hc (C:pre.Nodup)(n:aB∉pre):(pre++[aB]).Nodup:=Xp.mpr ⟨C,.cons (λq C=>nomatch C) .nil,λa aK b aA X=>by cases gD.mp aA;exact n<|X▸aK⟩
theorem HP (H:ba c)(B:b3 W I A pt ar aW){p:Int}(aK:I a=Y (.inst 133 ae))(hd:I ae=Y (.attrs 133<|g9 (.int last) (.bool false) .none<|.int aQ)) (aX:∀e∈aW,e.num≠last)(j:∀e∈aW,e.d≠ae)(ap:aW.length<59) (af:∀Z,Fr (cO W.cl) (jx W) dk I Z->b3 W Z A pt ar (aW++[⟨last,a,ae,qx A p⟩])->ad .none Z): bk c 3 (.ref 212) [.ref a,.ref W.b,.int p] ad I:=by
 refine HQ H B aK hd (.inl rfl) λZ S D g=>?_;have F:Fr No (jx W) j4 I Z:=S.fr hd B.R.hm.f7 D g;have l:hi last (V.ref a) (aW.map λe:hD=>(e.num,V.ref e.a))=(aW++[(⟨last,a,ae,qx A p⟩:hD)]).map (λe:hD=>(e.num,V.ref e.a)):=by unfold hi;rw[if_neg,jv];rfl;refine J YD<|mJ I2 ?_;intro bo;refine a9 bo λe he X=>?_;clear bo;exact aX e he<|of_decide_eq_true X
 refine fU (B.R.dB) λv h i dB=>?_;refine af Z (Qb F) ⟨⟨F.inst B.R.aA,(oM v h i<|F.attrs dB<|by decide),F.list B.R.ap id,B.R.kK,⟨F.inst B.R.hm.hm,F.attrs B.R.hm.ic<|by decide,l▸g,λe he=>?_,?_,?_,?_⟩,B.R.an⟩,B.T.fr F id<|by decide⟩
 ·rcases gO.mp he with he|he
  ·obtain⟨d7,bV⟩:=B.R.hm.gW e he;exact⟨F.inst d7,(S _ (j e he)<|gc bV B.R.hm.f7 λX=>by cases X).trans bV⟩
  ·cases gD.mp he;exact⟨F.inst aK,D⟩
 ·refine J jv ?_;exact Hc B.R.hm.nn λX=>by obtain⟨e,he,X⟩:=eF.mp X;exact aX e he X
 ·refine J jv ?_;exact Hc B.R.hm.fb λX=>by obtain⟨e,he,X⟩:=eF.mp X;exact j e he X
 ·refine J bK ?_;exact YE ap 1
noncomputable def y0 (num p:Int)(aW:List hD):List hD:=aW.map λe=>if e.num=num then{e with pos:=p} else e
theorem VU (H:ba c)(B:b3 W I A pt ar aW)(he:ag∈aW)(ak:1<=last)(ao:last<=A.length+1) (af:∀Z,Fr (cO W.cl) (jx W) dk I Z->b3 W Z A pt ar (y0 ag.num last aW)->ad .none Z): bk c 3 (.ref 212) [.ref ag.a,.ref W.b,.int last] ad I:=by
 obtain⟨aK,hd⟩:=B.R.hm.gW ag he;have l:hi ag.num (V.ref ag.a) (aW.map λag=>(ag.num,V.ref ag.a))=aW.map λag=>(ag.num,V.ref ag.a):=by
  unfold hi;refine J (if_pos<|by rw[YD,I2];exact(bj ag he<|decide_eq_true rfl))<|J p4 ?_;apply nW;intro x aL;refine(?_:(if x.num=ag.num then _ else _)=_);split
  ·rename_i X;exact J (yF B.R.hm.nn aL he X) rfl
  ·rfl
 refine HQ H B aK hd (.inr rfl) λZ S D g=>?_;replace D:=(EN ak ao)▸D;replace g:=l▸g;have u:Upd I Z ag.d (.attrs 133<|g9 (.int ag.num) (.bool false) (.ref W.b)<|.int last):=by
  funext x;by_cases X:x=ag.d
  ·refine J X ?_;exact J D<|J (aI.set_same _ _ _) rfl
  ·refine J (aI.hl _ _ _ X) ?_;by_cases bB:x=W.ek
   ·refine J bB ?_;exact J g<|J B.R.hm.f7 rfl
   ·exact S x X bB
 have F:Fr No No j4 I Z:=.i3 u hd rfl;have h:upTo (λq=>last) [] aW=aW:=(nW λag q=>if_neg z7).trans<|AE _;have hm:=GR (W:=W) (aW:=aW) (f:=λq=>last) (seen:=[]) (e:=ag) (I:=I) (Z:=Z) (h.symm▸B.R.hm) he z7<|.inl u;have bv:upTo (λq=>last) [ag.num] aW=y0 ag.num last aW:=nW λx q=>ite_congr (propext gD) (λq=>rfl) λq=>rfl;exact af Z (Fy<|t9 F)<|B.marks F<|bv▸hm
def lX (aW:List hD)(mk:V):Option Int->Prop
 |none=>mk=.none/\∀e∈aW,e.num≠0
 |some p=>∃e∈aW,mk=.ref e.a/\e.num=0/\e.pos=p
theorem lX.map:∀{mp:Option Int},lX aW ar mp->lX (el b7 aW) ar (mp.map b7)
 |none,⟨bv,bE⟩=>⟨bv,λe he=>by obtain⟨x,aL,rfl⟩:=eF.mp he;exact bE x aL⟩
 |some p,⟨e,he,bv,bE,dA⟩=>⟨_,ts he,bv,bE,by exact bm dA rfl⟩
theorem HO (H:ba c)(B:b3 W I A pt ar aW)(hm:lX aW ar mp)(ak:1<=last)(ao:last<=A.length+1)(ap:aW.length<58)
 (af:∀Z o aY,Fr (cO W.cl) (jx W) dk I Z->b3 W Z A pt o aY->lX aY o (Y last)->(∀e∈aW,e.num≠0->e∈aY)->(∀e∈aY,e.num=0\/e∈aW)->aY.length<=aW.length+1->ad .none Z):
 bk c 4 (.ref 240) [.ref W.b,.int last] ad I:=by
 cases mp with
 |none=>obtain⟨rfl,aX⟩:=hm;refine ED (n:=3) H<|ob B.R<|bx (H.k 6).keep<|ca<|AV H λa d ay m=>?_;have al:=B.ext m.ext;refine fU (al.R.dB) λv h i g=>?_;refine iE al.R.aA g (H.d 9) (by refine J Gx ?_;decide) λaN l=>?_;replace l:=U0▸l;have aj:b3 W aN A pt (.ref a) aW:=⟨al.R.set l<|.inr ⟨_,rfl⟩,al.R.HM al.T l⟩;have id:=(l.ne<|gc m.id g λX=>by cases X).trans m.id;refine bx (H.f 8)<|ob aj.R<|ca<|HP H aj (l.keep g m.fB) id (p:=last) aX (λe he=>cQ (B.R.hm.gW e he).2 m.fb) (tg ap) λM bF aG=>?_;replace aG:=(EN ak ao)▸aG;exact af _ _ _ ((Fy<|(Fr.cg m.ext).trans<|al.R.HK l).trans bF) aG (mM _ (YA _<|.head _) rfl rfl rfl) (λe he q=>v6 _ he) (λe he=>(gO.mp he).elim .inr λC=> .inl<|by cases gD.mp C;rfl) (by refine J bK ?_;exact c1 _)
 |some X=>
  refine mA hm λe he bh bE dA=>?_;clear hm;replace B:=bh▸B;refine ED (n:=3) H<|ob B.R<|bx (H.f 8)<|ob B.R<|ca<|VU H B he ak ao λay bC al=>?_;refine af _ _ _ bC al (mM _ (ts he) ?_ ?_ ?_) (λx aL h0=>?_) (λx aL=>?_) (by unfold y0;refine J (fx _) ?_;exact g5 _)
  ·exact J (if_pos rfl) rfl
  ·refine J (if_pos rfl) ?_;exact bE
  ·exact J (if_pos rfl) rfl
  ·exact eF.mpr<|bj x aL<|if_neg (by refine J bE ?_;exact h0)
  ·refine a9 (eF.mp aL) λy L bh=>?_;refine bm bh ?_;by_cases X:y.num=e.num
   ·left;refine J (if_pos X) ?_;exact X.trans bE
   ·right;refine J (if_neg X) ?_;exact L
theorem Rr (C:gg W I aW)(he:ag∈aW)(aP:co (.ref W.b)):eo I ag.a "buffer" co:=c8 (C.gW ag he).1 (C.gW ag he).2 uW aP
theorem QM (H:ba c)(B:b3 W I A pt ar aW)(hm:lX aW ar mp)(af:ad (.bool mp.isSome) I):bk c 1 (.ref 247) [.ref W.b] ad I:=by
 cases mp with
 |none=>obtain⟨rfl,aX⟩:=hm;exact EB (n:=0) H<|ob B.R af
 |some X=>refine mA hm λe he bh bE dA=>?_;clear hm;replace B:=bh▸B;exact EB (n:=0) H<|ob B.R<|ob B.R<|Rr B.R.hm he af
structure gQ (I:aI)(r fV bL:Addr)(us:List V)(last:Int):Prop where
 ax:I r=Y (.inst 229 fV)
 hd:I fV=Y (.attrs 229 (ma (.int 16) (.ref bL) (.int last)))
 ap:I bL=Y (.list us)
abbrev qg:Addr->Prop:=λa=>a=1028\/a=922\/a=133\/a=229
theorem xv (x:Fr (cO W.cl) (jx W) dk I Z):Fr (λa=>a=W.cl\/a=ae) (jx W) qg I Z:=x.mono (λq C=> .inl C) (λq C=>C) λq C=>C.imp id λC=>C.imp id .inl
theorem y9 (R:gQ I a cl ae us last)(C:co (.ref ae)):eo I a "markers" co:=c8 R.ax R.hd Sr C
theorem HE (R:gQ I a cl ae us last)(C:co (.int 16)):eo I a "most" co:=c8 R.ax R.hd Ss C
theorem HF (R:gQ I a cl ae us last)(C:co (.int last)):eo I a "last" co:=c8 R.ax R.hd Sq C
theorem gQ.ext (R:gQ I a cl ae us last)(x:bF I Z):gQ Z a cl ae us last:=⟨x _ _ R.ax,x _ _ R.hd,x _ _ R.ap⟩
theorem gQ.fr {ae:Addr->Prop}(R:gQ I a N cl us last)(x:Fr L D ae I Z)(ak:¬ ae 229)(ao:¬ L cl):gQ Z a N cl us last:=⟨x.inst R.ax,x.attrs R.hd ak,x.list R.ap ao⟩
abbrev wg:Addr->Prop:=λa=>a=229
theorem FA (x:Fr No No wg I Z):Fr (λa=>a=W.cl\/a=ae) (jx W) qg I Z:=x.mono (λq C=>C.elim) (λq C=>C.elim) λq C=> .inr<|.inr<|.inr C
theorem Vr (H:ba c)(B:b3 W I A pt ar aW)(R:gQ I ae cl N us last)(ap:aW.length<58)(aX:∀e∈aW,last<=e.num)(aw:N≠W.cl) (af:∀Z a d,Fr (λa=>a=W.cl\/a=N) (jx W) qg I Z->b3 W Z A pt ar (aW++[⟨last -1,a,d,qx A aQ⟩])->gQ Z ae cl N us (last -1)->ad (.ref a) Z): bk c 4 (.ref 254) [.ref ae,.ref W.b,.int aQ] ad I:=by refine Nu (n:=3) H<|HF R<|dP<|iE R.ax R.hd (H.d 68) (by refine J Gz ?_;decide) λay j=>?_;replace j:=U8▸j;have bC:Fr No No wg I ay:=.i3 j R.hd rfl;have al:=B.fr bC id id id (by decide) (by decide) (by decide) (by decide);have g:gQ ay ae cl N us (last -1):=⟨bC.inst R.ax,j.at,bC.list R.ap id⟩;exact bx (H.k 6).keep<|HF g<|ca<|AV H λa d aN m=>ci (H.f 8)<|HP H (al.ext m.ext) m.fB m.id (p:=aQ) (λe he X=>by have:=aX e he;rw[X] at this;exact il.mpr this<|Int.sub_one_lt_of_le<|p8 _) (λe he=>cQ (al.R.hm.gW e he).2 m.fb) (tg ap) λM bF aG=> af M a d (((FA bC).trans<|.cg m.ext).trans<|xv bF) aG<|(g.ext m.ext).fr bF (by decide) aw
theorem UW (H:ba c)(B:b3 W I A pt ar aW)(hm:lX aW ar mp)(R:gQ I ae cl N us last)(ak:1<=aQ)(ao:aQ<=A.length+1)(ap:aW.length<56)(aX:∀e∈aW,last<=e.num)(h:last<=0)(aw:N≠W.cl)(bl:N≠W.ls)(S:us.length<=15)
 (af:∀Z o aY p v t,Fr (λa=>a=W.cl\/a=N) (jx W) qg I Z->b3 W Z A pt o aY->lX aY o (Y aQ)->(∀e∈aW,e.num≠0->e∈aY)->aY.length<=aW.length+2-> gQ Z ae cl p v t->v.length<=us.length+1->t<=0->(∀e∈aY,t<=e.num)->(p=N\/I p=am)->ad .none Z):
 bk c 5 (.ref 261) [.ref ae,.ref W.b,.int aQ] ad I:=by
 refine Ni (n:=4) H<|ci (H.f 11)<|QM H B hm ?_
 cases mp with
 |none=>refine ci (H.f 10)<|HO H B hm ak ao (v1 ap<|by decide) λay ab aE bC al i m G P=>?_;exact af _ _ _ N us last (xv bC) al i m (YG P) (R.fr bC (by decide) aw) (g5 _) h (λe he=>(G e he).elim (λC=>C▸h)<|aX e)<|.inl rfl
 |some X=>
  refine mA hm λe he bh bE dA=>?_;clear hm;replace B:=bh▸B;refine y9 R ⟨ty_list R.ap,(H.f 12),ob B.R<|mr B.R.hm he<|ca<|Vr H B R (v1 ap<|by decide) aX aw λay a d bC al g=>(mM _ g.ap (by refine J eI ?_;exact a5 S<|by decide) rfl λaN l=>?_)⟩;have bg:Fr (λa=>a=N) No No ay aN:=.mL l g.ap rfl;have aj:=al.fr bg (hT bl) (hT aw) id id id id id;have L:gQ aN ae cl N (.ref a::us) (last -1):=⟨bg.inst g.ax,bg.attrs g.hd id,l.at⟩;have aq:(V.ref a::us).length<=100000:=a5 (hR S) (by decide);have E:(V.ref a::us).length<=16:=hR S;refine y9 L<|HE L<|zC (k:=16) L.ap aq λb M K aH aV=>?_;replace aV:=(i6 E)▸aV;have u:=L.ext K;refine hB aV<|yE aV<|y9 u<|HE u<|vB (k:=16) u.ap aq λa9 bz bn be bc=>?_;replace bc:=(ik E)▸bc;have j:=u.ext bn;refine iE j.ax j.hd (H.d 67) (by refine J Gz ?_;decide) λbN s=>?_;replace s:=U9▸s;have bv:Fr No No wg bz bN:=.i3 s j.hd rfl;have D:=(aj.ext<|K.trans bn).fr bv id id id (by decide) (by decide) (by decide) (by decide);have F:Fr (λa=>a=W.cl\/a=N) (jx W) qg I bN:=(bC.trans<|bg.mono (λq C=> .inr C) (λq C=>C.elim) λq C=>C.elim).trans<|(Fr.cg<|K.trans bn).trans<|FA bv;have au:I a9=am:=bC.none<|bg.none<|K.none be;refine ci (H.f 10)<|HO H D (mp:=Y X) (mM e (v6 _ he) rfl bE dA) ak ao (by refine J bK ?_;exact v1 (YE ap 1)<|by decide) λbM U aa a1 ai y O Q w=>?_;replace w:=bK▸w;refine af bM U aa a9 _ (last -1) (F.trans<|xv a1) ai y (λx aL h0=>O x (v6 _ aL) h0) w (gQ.fr ⟨bv.inst j.ax,s.at,bv.list bc id⟩ a1 (by decide)<|B.T.ne au) (c1 _) (tp (JF _<|by decide) h) (λx aL=>?_)<|.inr au;rcases Q x aL with C|C
  ·refine J C ?_;exact tp (JF _<|by decide) h
  ·rcases gO.mp C with C|C
   ·exact tp (JF _<|by decide)<|aX x C
   ·cases gD.mp C;exact p8 _
structure gR extends lR where
 cT:Addr
 kE:Addr
 iw:Addr
 jF:Addr
 f4:Addr
 cW:Addr
 sW:Addr
 ih:Addr
 eT:Addr
noncomputable def qA (ag:gR)(bO:V)(x:Nat->V):List (Str×V):=jH (.ref ag.iw) (x 1) (x 2) (x 3) (x 4) (x 5) (x 6) (x 7) (x 8) (.ref ag.cW) (x 10) (x 11) (x 12) (x 13) (x 14) (x 15) (x 16) (x 17) (x 18) (x 19) (.ref ag.eT) (x 21) (x 22) (x 23) (x 24) (x 25) (x 26) (x 27) (x 28) (.int 8) bO (x 31)<|x 32
structure iq (ag:gR)(I:aI)(bO:V):Prop where
 he:I ag.cT=Y (.inst 1321 ag.kE)
 d4:∃x,I ag.kE=Y (.attrs 1321 (qA ag bO x))
 pp:I ag.iw=Y (.inst 1132 ag.jF)
 pq:∃x y z w:V,I ag.jF=Y (.attrs 1132 (nf (.ref ag.f4) x (.int 1) y z w))
 gu:I ag.f4=Y (.cP [(1,.ref ag.b)])
 nq:I ag.cW=Y (.inst 704 ag.sW)
 qG:I ag.sW=Y (.attrs 704 (r4 (.ref ag.ih)))
def o7 (M:Addr->Prop)(I:aI)(p:Int×V)(X:Int×List (List Int)):Prop:=p.1=X.1/\∃t r,p.2=.ref t/\I t=Y (.tup [.str "rectangle",r])/\eg M I r X.2
def n8 (ag:gR)(M:Addr->Prop)(I:aI)(b:List (Int×List (List Int))):Prop:=∃al,I ag.ih=Y (.cP al)/\bY (o7 M I) al b
def tD (ag:gR)(I:aI)(bL:Option Addr)(last:Int)(n:Nat):Prop:= (I ag.eT=Y (.cP [])/\bL=am/\last=0)\/∃r fV a us,bL=Y a/\I ag.eT=Y (.cP [(1,.ref r)])/\gQ I r fV a us last/\us.length<=n
def dH (ag:gR)(bL:Option Addr)(aF:Addr->Prop):Addr->Prop:=λa=>a=ag.cl\/bL=Y a\/aF a
structure fO where
 a2:List Int
 pt:Int
 mp:Option Int
 dY:List (List Int)
 et:List (Int×List (List Int))
 ex:List (Int×Int)
 n:Nat
structure J3 (ag:gR):Prop where
 xg:ag.ek≠ag.f4
 qy:ag.ek≠ag.ih
 tZ:ag.ek≠ag.eT
 r2:ag.f4≠ag.ih
 E2:ag.f4≠ag.eT
 E3:ag.ih≠ag.eT
structure eG (ag:gR)(aF:Addr->Prop)(I:aI)(S:fO)(mk:V)(aW:List hD)(bL:Option Addr)(last:Int)(bO:V):Prop where
 B:b3 ag.tolR I S.a2 S.pt mk aW
 K:lX aW mk S.mp
 E:iq ag I bO
 D:eJ (dH ag bL aF) I
 R:eg (dH ag bL aF) I bO S.dY
 G:n8 ag (dH ag bL aF) I S.et
 N:tD ag I bL last S.n
 num:∀e∈aW,last<=e.num
 iY:last<=0
 nl:aW.length<=4+2*S.n
 ex:∀p∈S.ex,0<p.1/\∃e∈aW,e.num=p.1/\e.pos=p.2
 ok:J3 ag
 bD:¬ aF ag.cl
 bw:¬ aF ag.ls
 bR:¬ aF ag.ek
 b4:¬ aF ag.f4
 ck:¬ aF ag.ih
 cV:¬ aF ag.eT
 cB:∀a,bL=Y a->¬ aF a/\a≠ag.cl/\a≠ag.ls
 g3:∀a ae al,aF a->I a≠Y (.attrs ae al)
def dM (ag:gR)(aF:Addr->Prop)(I:aI)(S:fO):Prop:=∃ar aW bL last bO,eG ag aF I S ar aW bL last bO
def ds (aF:Addr->Prop)(I Z:aI):Prop:=∀a o,aF a->I a=Y o->Z a=Y o
theorem ds.trans (x:ds aF I ay)(y:ds aF ay aN):ds aF I aN:=λa o C e=>y a o C<|x a o C e
theorem ds.ext (x:bF I Z):ds aF I Z:=λa o q e=>x a o e
variable{ag:gR}
theorem iq.fr {ae:Addr->Prop}(C:iq ag I bO)(x:Fr L D ae I Z)(ax:¬ D ag.f4)(ak:¬ ae 1321)(ao:¬ ae 1132)(bp:¬ ae 704):iq ag Z bO:= ⟨x.inst C.he,dr (C.d4) λy e=>⟨y,x.attrs e ak⟩,x.inst C.pp,hh (C.pq) λy z u w e=>⟨y,z,u,w,x.attrs e ao⟩,x.cP C.gu ax,x.inst C.nq,x.attrs C.qG bp⟩
variable{af:List (Int×List (List Int))}
theorem n8.fr {ae:Addr->Prop}(C:n8 ag aJ I af)(x:Fr L D ae I Z)(ax:¬ D ag.ih)(az:∀a,L a->aJ a):n8 ag aJ Z af:= a9 C λal e r=>⟨al,x.cP e ax,r.mono λ_ _ ⟨bv,t,r,bE,dA,s⟩=>⟨bv,t,r,bE,x.tup dA,s.fr x az⟩⟩
theorem tD.fr {ae:Addr->Prop}{n:Nat}(C:tD ag I bL last n)(x:Fr L D ae I Z)(ax:¬ D ag.eT)(bi:¬ ae 229)(c3:∀a,bL=Y a->¬ L a):tD ag Z bL last n:=by
 rcases C with⟨e,a7⟩|bo
 ·exact .inl ⟨x.cP e ax,a7⟩
 ·refine sS bo λr fV a us bv bE dA s=>?_;clear bo;exact .inr<|⟨r,fV,a,us,bv,(x.cP bE ax),(dA.fr x bi<|c3 a bv),s⟩
theorem pR (ax:eJ aF I)(g3:∀a ae al,aF a->I a≠Y (.attrs ae al))(an:ds aF I Z):∀a ae al,aF a->Z a≠Y (.attrs ae al):=λa ae al aK e=>by obtain⟨o,aO⟩:=ax a aK;rw[an a o aK aO] at e;exact g3 a ae al aK<|aO.trans e
variable{au:fO}
theorem eG.ms (C:eG ag aF I au ar aW bL last bO)(x:Fr L D aJ I Z)(c3:∀a,L a->a=ag.cl\/bL=Y a)(ax:∀a,D a->a=ag.ek\/a=ag.eT\/a=ag.ih):ds aF I Z:=λa o aK e=>by
 refine x.keep a o e ?_;cases o with
 |list us=>exact λX=>(c3 a X).elim (λX=>C.bD<|X▸aK) λX=>(C.cB a X).1 aK
 |cP al=>exact λX=>(ax a X).elim (λX=>C.bR<|X▸aK) λX=>X.elim (λX=>C.cV<|X▸aK) λX=>C.ck<|X▸aK
 |fQ al=>exact λX=>(ax a X).elim (λX=>C.bR<|X▸aK) λX=>X.elim (λX=>C.cV<|X▸aK) λX=>C.ck<|X▸aK
 |attrs aJ al=>exact(C.g3 a aJ al aK e).elim
 |_=>trivial
theorem lg (C:eJ (dH ag bL aF) I):eJ aF I:=λa aK=>C a<|.inr<|.inr aK
noncomputable def fO.move (S:fO)(f:Int->Int)(A:List Int)(pt:Int):fO:={S with a2:=A,pt:=pt,mp:=S.mp.map f,ex:=S.ex.map λp=>(p.1,f p.2)}
theorem eG.move (C:eG ag aF I au ar aW bL last bO)(F:Fr (cO ag.cl) No dk I Z)(L:b3 ag.tolR Z A pt ar (el b7 aW)):eG ag aF Z (au.move b7 A pt) ar (el b7 aW) bL last bO:=by
 have az:∀a,cO ag.cl a->dH ag bL aF a:=λa C=> .inl C;refine⟨L,C.K.map,C.E.fr F id (by decide) (by decide)<|by decide,C.D.fr F,C.R.fr F az,C.G.fr F id az,C.N.fr F id (by decide) λa e X=>(C.cB a e).2.1 X,λe he=>?_,C.iY,by unfold el;refine J (fx _) ?_;exact C.nl,λp aP=>?_,C.ok,C.bD,C.bw,C.bR,C.b4,C.ck,C.cV,C.cB, pR (lg C.D) C.g3<|C.ms F (λq X=> .inl X) λq X=>X.elim⟩
 ·obtain⟨x,aL,rfl⟩:=eF.mp he;exact C.num x aL
 ·refine a9 (eF.mp aP) λX af bh=>?_;refine bm bh ?_;exact dF (C.ex X af) λak bG=>dr bG λe ax=>fT ax λhe bv bE=>(⟨ak,_,(ts he),bv,(by exact bm bE rfl)⟩)
theorem eG.ext (C:eG ag aF I au ar aW bL last bO)(x:bF I Z):eG ag aF Z au ar aW bL last bO:=by have F:Fr No No No I Z:=.cg x;exact⟨C.B.ext x,C.K,C.E.fr F id id id id,C.D.ext x,C.R.ext x,C.G.fr F id λq X=>X.elim,C.N.fr F id id λq q=>id,C.num,C.iY,C.nl,C.ex,C.ok,C.bD,C.bw,C.bR,C.b4,C.ck,C.cV,C.cB,pR (lg C.D) C.g3<|.ext x⟩
theorem eG.jr (C:eG ag aF I au ar aW bL last bO):dM ag aF I au:=(⟨_,_,_,_,_,C⟩)
theorem r3 (E:iq ag I bO)(ap:∀f,(qA ag bO f).lookup w=Y u)(C:cY u (co u)):eo I ag.cT w co:=dr (E.d4) λq hd=>c8 E.he hd (ap _) C
theorem xl (E:iq ag I bO)(C:co (.ref ag.iw)):eo I ag.cT "buffers" co:=r3 E (λq=>Sh) C
theorem xm (E:iq ag I bO)(C:co (.ref ag.cW)):eo I ag.cT "registers" co:=r3 E (λq=>Sk) C
theorem t3 (E:iq ag I bO)(C:co (.ref ag.eT)):eo I ag.cT "marks" co:=r3 E (λq=>Si) C
theorem ka (E:iq ag I bO)(C:co (.int 8)):eo I ag.cT "tab_width" co:=r3 E (λq=>Sl) C
theorem OP (E:iq ag I (.ref a))(C:co (.ref a)):eo I ag.cT "rectangle" co:=r3 E (λq=>Sj) C
theorem qz (E:iq ag I bO)(C:co (.int 1)):eo I ag.iw "current" co:=hh (E.pq) λq q q q hd=>c8 E.pp hd R6 C
theorem OQ (E:iq ag I bO)(C:co (.ref ag.f4)):eo I ag.iw "rows" co:=hh (E.pq) λq q q q hd=>c8 E.pp hd R7 C
theorem K5 (H:ba c)(E:iq ag I bO)(af:ad (.ref ag.b) I):bk c 1 (.ref 1051) [.ref ag.iw,.int 1] ad I:=Lx (n:=0) H<|OQ E<|⟨(It E.gu),_,E.gu,af⟩
theorem xe (H:ba c)(E:iq ag I bO)(af:ad (.ref ag.b) I):bk c 2 (.ref 1178) [.ref ag.cT] ad I:= LK (n:=1) H<|xl E<|hh (E.pq) λq q q q hd=>dq E.pp hd Tp (H.m 19)<|xl E<|qz E<|ca<|K5 H E af
theorem j9 (H:ba c)(E:iq ag I bO)(C:ad (.ref ag.b) I)(an:i7 2 b=true:=by rfl):∃ae d al f,I ag.cT=Y (.inst ae d)/\I d=Y (.attrs ae al)/\al.lookup ("current":Str)=am/\jz c.K ae ("current":Str) f/\mV c b (.ref f) [.ref ag.cT] ad I:= dr (E.d4) λq hd=>dq E.he hd Tt (H.m 24)<|ca (xe H E C) an
theorem eG.kM (C:eG ag aF I au ar aW bL last bO)(x:Fr (cO ag.cl) No dk I Z):ds aF I Z:=C.ms x (λq X=> .inl X) λq X=>X.elim
theorem eG.vv {f:Nat->V}(C:eG ag aF I au aS aW bL last bO)(u:Upd I Z ag.kE (.attrs 1321<|qA ag ar f))(ax:eg (dH ag bL aF) I ar h):eG ag aF Z {au with dY:=h} aS aW bL last ar/\ds aF I Z:=by obtain⟨g,d4⟩:=C.E.d4;have F:Fr No No (λa=>a=1321) I Z:=.i3 u d4 rfl;have k:=C.ms F (λq X=>X.elim) λq X=>X.elim;have az:∀a,No a->dH ag bL aF a:=λq X=>X.elim;exact hh (C.E.pq) λx y z w pq=>⟨⟨C.B.fr F id id id (by decide) (by decide) (by decide)<|by decide,C.K,⟨u.keep d4 C.E.he,⟨f,u.at⟩,F.inst C.E.pp,(⟨x,y,z,w,(F.attrs pq<|by decide)⟩),F.cP C.E.gu id,F.inst C.E.nq,F.attrs C.E.qG<|by decide⟩,C.D.fr F,ax.fr F az,C.G.fr F id az,C.N.fr F id (by decide) λq q=>id,C.num,C.iY,C.nl,C.ex,C.ok,C.bD,C.bw,C.bR,C.b4,C.ck,C.cV,C.cB,pR (lg C.D) C.g3 k⟩,k⟩
theorem vv (H:ba c)(C:eG ag aF I au aS aW bL last bO)(ax:eg (dH ag bL aF) I ar h)(af:∀Z,eG ag aF Z {au with dY:=h} aS aW bL last ar->ds aF I Z->(∀a us,I a=Y (.list us)->Z a=Y (.list us))->aZ Z): ∃ae d al,I ag.cT=Y (.inst ae d)/\I d=Y (.attrs ae al)/\fP c.K ae "rectangle"=true/\al.length<900/\∀D,Upd I D d (.attrs ae<|bJ "rectangle" ar al)->aZ D:= let⟨f,hd⟩:=C.E.d4;iE C.E.he hd (H.d 58) (by unfold qA;refine J RZ ?_;decide) λD u=>by unfold qA at u;rw[U4] at u;obtain⟨aG,k⟩:=C.vv (f:=f) u ax;exact af D aG k λa us e=>u.keep hd e
theorem OE (H:ba c)(C:dM ag aF I au)(aO:eK au.a2)(U:b<=au.a2.length)(he:e<=au.a2.length)(aq:au.a2.length<=40000)(a6:I ae=Y (.list [.int<|(b:Int)+1,.int<|(e:Int)+1])) (af:∀Z,ds aF I Z->dM ag aF Z {au with dY:=kG au.a2 b e}->ad .none Z):bk c 9 (.ref 786) [.ref ag.cT,.ref ae] ad I:= let⟨_,_,_,_,_,C⟩:=C;Mt (n:=8) H ⟨(H.f 60),j9 H C.E<|cU (k:=0) a6 rfl (da rfl)<|cU (k:=1) a6 rfl (da rfl)<|ka C.E<|ca<|t5 H C.B aO U he aq C.D λa ay av aL=>vv H (C.ext av) aL λaN O d q=>af _ ((ds.ext av).trans d) O.jr⟩
theorem OH (H:ba c)(C:dM ag aF I au)(aO:eK au.a2)(U:b<=au.a2.length)(he:e<=au.a2.length)(aq:au.a2.length<=40000)(a6:I ae=Y (.list [.int<|(b:Int)+1,.int<|(e:Int)+1])) (af:∀Z,ds aF I Z->dM ag aF Z ({au with dY:=kG au.a2 b e}.move (fs au.a2 b e (cZ au.a2 b e)<|je au.a2 b e) (eH au.a2 b e<|je au.a2 b e)<|fs au.a2 b e (cZ au.a2 b e) (je au.a2 b e) au.pt)->ad .none Z):bk c 10 (.ref 779) [.ref ag.cT,.ref ae] ad I:= let⟨_,_,_,_,_,C⟩:=C;Mx (n:=9) H ⟨(H.f 60),j9 H C.E<|cU (k:=0) a6 rfl (da rfl)<|cU (k:=1) a6 rfl (da rfl)<|ka C.E<|ca<|t5 H C.B aO U he aq C.D λa ay av aL=>vv H (C.ext av) aL λaN O d N=> have p:=N _ _<|av _ _ a6;⟨(H.f 61),j9 H O.E<|cU (k:=0) p rfl (da rfl)<|cU (k:=1) p rfl (da rfl)<|ka O.E<|ca<|xi H O.B aO U he (IU (xh<|kR aO U he) aq) aq O.D (.inl rfl) λM bF aG=> af _ (((ds.ext av).trans d).trans<|O.kM bF) (O.move bF aG).jr⟩⟩
theorem OF (H:ba c)(C:dM ag aF I au)(aO:eK au.a2)(U:b<=au.a2.length)(he:e<=au.a2.length)(aq:au.a2.length+(aT<|(cx au.a2 b e).map λr=>r.take (cD au.a2 b e)++r.drop (cZ au.a2 b e)).length<=90000)(P:au.a2.length<=40000)(a6:I a=Y (.list [.int<|(b:Int)+1,.int<|(e:Int)+1])) (af:∀Z,ds aF I Z->dM ag aF Z (au.move (fs au.a2 b e (cZ au.a2 b e)<|(cx au.a2 b e).map λr=>r.take (cD au.a2 b e)++r.drop (cZ au.a2 b e)) (eH au.a2 b e<|(cx au.a2 b e).map λr=>r.take (cD au.a2 b e)++r.drop (cZ au.a2 b e))<|fs au.a2 b e (cZ au.a2 b e) ((cx au.a2 b e).map λr=>r.take (cD au.a2 b e)++r.drop (cZ au.a2 b e)) au.pt)->ad .none Z):bk c 10 (.ref 793) [.ref ag.cT,.ref a] ad I:= let⟨_,_,_,_,_,C⟩:=C;Mv (n:=9) H ⟨(H.f 61),j9 H C.E<|cU (k:=0) a6 rfl (da rfl)<|cU (k:=1) a6 rfl (da rfl)<|ka C.E<|ca<|xi H C.B aO U he aq P C.D (.inl rfl) λay bC al=>af _ (C.kM bC) (C.move bC al).jr⟩
theorem OC (H:ba c)(C:dM ag aF I au)(aO:eK au.a2)(U:b<=au.a2.length)(he:e<=au.a2.length)(aq:au.a2.length+(aT<|(cx au.a2 b e).map λr=>hw r (cD au.a2 b e)<|cZ au.a2 b e).length<=90000)(P:au.a2.length<=40000)(a6:I a=Y (.list [.int<|(b:Int)+1,.int<|(e:Int)+1])) (af:∀Z,ds aF I Z->dM ag aF Z (au.move (fs au.a2 b e (cZ au.a2 b e)<|(cx au.a2 b e).map λr=>hw r (cD au.a2 b e)<|cZ au.a2 b e) (eH au.a2 b e<|(cx au.a2 b e).map λr=>hw r (cD au.a2 b e)<|cZ au.a2 b e)<|fs au.a2 b e (cZ au.a2 b e) ((cx au.a2 b e).map λr=>hw r (cD au.a2 b e)<|cZ au.a2 b e) au.pt)->ad .none Z):bk c 10 (.ref 814) [.ref ag.cT,.ref a] ad I:= let⟨_,_,_,_,_,C⟩:=C;Mr (n:=9) H ⟨(H.f 63),j9 H C.E<|cU (k:=0) a6 rfl (da rfl)<|cU (k:=1) a6 rfl (da rfl)<|ka C.E<|ca<|NW H C.B aO U he aq P C.D (.inl rfl) λay bC al=>af _ (C.kM bC) (C.move bC al).jr⟩
theorem OD (H:ba c)(C:dM ag aF I au)(aO:eK au.a2)(U:b<=au.a2.length)(he:e<=au.a2.length)(aq:au.a2.length+(aT<|(cx au.a2 b e).map λr=>cls r<|cD au.a2 b e).length<=90000)(P:au.a2.length<=40000)(a6:I a=Y (.list [.int<|(b:Int)+1,.int<|(e:Int)+1])) (af:∀Z,ds aF I Z->dM ag aF Z (au.move (fs au.a2 b e (cD au.a2 b e)<|(cx au.a2 b e).map λr=>cls r<|cD au.a2 b e) (eH au.a2 b e<|(cx au.a2 b e).map λr=>cls r<|cD au.a2 b e)<|fs au.a2 b e (cD au.a2 b e) ((cx au.a2 b e).map λr=>cls r<|cD au.a2 b e) au.pt)->ad .none Z):bk c 10 (.ref 821) [.ref ag.cT,.ref a] ad I:= let⟨_,_,_,_,_,C⟩:=C;Ms (n:=9) H ⟨(H.f 65),j9 H C.E<|cU (k:=0) a6 rfl (da rfl)<|cU (k:=1) a6 rfl (da rfl)<|ka C.E<|ca<|NY H C.B aO U he aq P C.D (.inl rfl) λay bC al=>af _ (C.kM bC) (C.move bC al).jr⟩
theorem OJ (H:ba c)(C:dM ag aF I au)(aO:eK au.a2)(U:b<=au.a2.length)(he:e<=au.a2.length)(aq:au.a2.length+(aT<|(cx au.a2 b e).map λr=>hL r (cD au.a2 b e)<|cZ au.a2 b e).length<=90000)(P:au.a2.length<=40000)(a6:I a=Y (.list [.int<|(b:Int)+1,.int<|(e:Int)+1])) (af:∀Z,ds aF I Z->dM ag aF Z (au.move (fs au.a2 b e (cD au.a2 b e)<|(cx au.a2 b e).map λr=>hL r (cD au.a2 b e)<|cZ au.a2 b e) (eH au.a2 b e<|(cx au.a2 b e).map λr=>hL r (cD au.a2 b e)<|cZ au.a2 b e)<|((min b e:Nat):Int)+1)->ad .none Z):bk c 10 (.ref 807) [.ref ag.cT,.ref a] ad I:= let⟨_,_,_,_,_,C⟩:=C;Mz (n:=9) H ⟨(H.f 64),j9 H C.E<|cU (k:=0) a6 rfl (da rfl)<|cU (k:=1) a6 rfl (da rfl)<|ka C.E<|ca<|Uw H C.B aO U he aq P C.D (.inl rfl) λay bC al=>af _ (C.kM bC) (C.move bC al).jr⟩
theorem Ra (H:ba c)(af:ad (.bool false) I):bk c 1 (.ref 296) [.int pt] ad I:=MM (n:=0) H ⟨rfl,af⟩
theorem Q9 (H:ba c)(af:ad (.bool false) I):bk c 1 (.ref 289) [.int pt] ad I:=ML (n:=0) H ⟨H.TA,af⟩
theorem TX (H:ba c)(af:ad (.int pt) I):bk c 2 (.ref 303) [.int pt] ad I:=Nb (n:=1) H<|ci (H.f 15)<|Ra H<|ci (H.f 14)<|Q9 H af
theorem Kg (aL:∀n∈w.cps.toList,32<=n/\n<127):w.cps.all (· <128)=true:=by refine bm Jt<|mJ rr ?_;exact λy L=>decide_eq_true<|tg (aL y L).2
theorem WA (H:ba c)(aL:∀n∈w.cps.toList,32<=n/\n<127)(aq:w.cps.toList.length<=1000)(af:jB ad I (d0 w)):bk c 1 (.ref 744) [.str w] ad I:= NF (n:=0) H ⟨rfl,rfl,Kg aL,vh (by refine J eI ?_;exact a5 aq<|by decide) λa ay n₁=>af _ _ n₁.ext n₁.1 n₁.at⟩
theorem OL (H:ba c)(C:dM ag aF I au)(aO:eK au.a2)(aL:∀n∈w.cps.toList,32<=n/\n<127)(i:w.cps.toList.length<=1000)(U:b<=au.a2.length)(he:e<=au.a2.length)(aq:au.a2.length+(aT<|strN au.a2 b e<|d0 w).length<=90000)(P:au.a2.length<=40000)(a6:I a=Y (.list [.int<|(b:Int)+1,.int<|(e:Int)+1,.str w])) (af:∀Z,ds aF I Z->dM ag aF Z (au.move (fs au.a2 b e (cZ au.a2 b e)<|strN au.a2 b e<|d0 w) (eH au.a2 b e<|strN au.a2 b e<|d0 w)<|(gA au.a2 b e:Int)+1+(aT<|strN au.a2 b e<|d0 w).length -(((cx au.a2 b e).getLastD []).length -cZ au.a2 b e:Nat))->ad .none Z):bk c 10 (.ref 828) [.ref ag.cT,.ref a] ad I:= let⟨_,_,_,_,_,C⟩:=C;MA (n:=9) H ⟨(H.f 66),j9 H C.E<|cU (k:=0) a6 rfl (da rfl)<|cU (k:=1) a6 rfl (da rfl) ⟨(H.f 75),cU (k:=2) a6 rfl (da rfl)<|ca<|WA H aL i λk ay av j an=> have aZ:=C.ext av;ka aZ.E<|ca<|Wq H aZ.B aO an (C.D.fresh j) (by unfold d0;refine J (fx _) ?_;exact i) U he aq P aZ.D (.inl rfl) λaN bg aj=>af _ ((ds.ext av).trans<|aZ.kM bg) (aZ.move bg aj).jr⟩⟩
theorem OI (H:ba c)(C:dM ag aF I au)(aO:eK au.a2){b:Int}{m:V}(d:(m=.none/\b=1)\/m=.int b)(aA: -3<=b)(j:b+(cx au.a2 l e).length<=200)(U:l<=au.a2.length)(he:e<=au.a2.length)(aq:au.a2.length+(aT<|gY (cx au.a2 l e) (cD au.a2 l e) b).length<=90000)(P:au.a2.length<=40000)(a6:I a=Y (.list [.int<|(l:Int)+1,.int<|(e:Int)+1,m])) (af:∀Z,ds aF I Z->dM ag aF Z (au.move (fs au.a2 l e (cD au.a2 l e)<|gY (cx au.a2 l e) (cD au.a2 l e) b) (eH au.a2 l e<|gY (cx au.a2 l e) (cD au.a2 l e) b)<|fs au.a2 l e (cD au.a2 l e) (gY (cx au.a2 l e) (cD au.a2 l e) b) au.pt)->ad .none Z):bk c 10 (.ref 835) [.ref ag.cT,.ref a] ad I:=by
 refine kP C λmk aW bL last bO C=>?_;have tail:Be (d5 c 9 ad) [.ref ag.cT,.ref a,.int b] [] I:=⟨(H.f 67),j9 H C.E<|cU (k:=0) a6 rfl (da rfl)<|cU (k:=1) a6 rfl (da rfl)<|ka C.E<|ca<|TU H C.B aO aA j U he aq P C.D (.inl rfl) λaN bg aj=>af _ (C.kM bg) (C.move bg aj).jr⟩;refine My (n:=9) H<|cU (k:=2) a6 rfl (da rfl) ?_;rcases d with⟨rfl,rfl⟩|rfl
 ·exact tail
 ·exact bx (H.f 16)<|cU (k:=2) a6 rfl (da rfl)<|ca<|TX H tail
theorem IsL.lC {c:Addr->Prop}(C:IsL aJ I u Q)(az:∀a,c a->aJ a\/I a=am):IsL c I u Q:= d8 C λa e n g=>⟨a,e,λm=>(az a m).elim n (λX=>by replace g:=X▸g;exact bX g),g⟩
theorem eg.lC {c:Addr->Prop}(C:eg aJ I u h)(az:∀a,c a->aJ a\/I a=am):eg c I u h:= cS C λa us e n g r=>⟨a,us,e,λm=>(az a m).elim n (λX=>by replace g:=X▸g;exact bX g),g,r.mono λq q X=>X.lC az⟩
theorem n8.lC {c:Addr->Prop}(C:n8 ag aJ I af)(az:∀a,c a->aJ a\/I a=am):n8 ag c I af:= a9 C λal e r=>⟨al,e,r.mono λ_ _ ⟨bv,t,r,bE,dA,s⟩=>⟨bv,t,r,bE,dA,s.lC az⟩⟩
theorem JX (H:ba c)(af:∀r fV a Z,bF I Z->I r=am->I fV=am->I a=am->gQ Z r fV a [] 0->ad (.ref r) Z):bk c 2 (.ref 229) [.int 16] ad I:=by refine mx H.ok (H.k 5) λa d ay m=>LV (n:=0) H<|e7 m (H.d 66) (by kernel_rfl) ?_;intro L aN m;refine fu rfl rfl λl M K aH aV=>gn (m.grow K) (H.d 67) (by kernel_rfl) ?_;intro G bz T h;refine gn h (H.d 68) (by kernel_rfl) ?_;intro U bN b g;exact⟨rfl,af _ _ _ _ g.ext g.na g.fb (m.ext.none aH) ⟨g.fB,(g.as SR).id,b (T aV λX=>by cases X) λX=>by cases X⟩⟩
theorem GQ (H:ba c)(C:eG ag aF I au ar aW bL last bO)(af:∀Z r fV a us t,ds aF I Z->eG ag aF Z au ar aW (Y a) t bO->gQ Z r fV a us t->us.length<=au.n->Z ag.eT=Y (.cP [(1,.ref r)])->(∀u Q,eg (dH ag bL aF) I u Q->eg (dH ag (Y a) aF) Z u Q)->ad (.ref r) Z): bk c 3 (.ref 751) [.ref ag.cT] ad I:=by
 refine M6 (n:=2) H<|xl C.E<|qz C.E<|t3 C.E ?_;rcases C.N with bo|bo
 ·refine fT bo λbv bE dA=>?_;clear bo;refine ie bv (b:=false) rfl<|bx (H.k 5).keep<|ca<|JX H λr fV a ay av my ce na g=>t3 (C.ext av).E<|sZ (av _ _ bv) (dU _) λaN l=>?_;have aZ:=C.ext av;have p:=av _ _ bv;have bg:Fr No (λa=>a=ag.eT) No ay aN:=.s5 l p rfl;refine t3 (aZ.E.fr bg C.ok.E2 id id id)<|pr l.at rfl ?_;have m:ds aF I ay:=.ext av;have d:ds aF ay aN:=aZ.ms bg (λq X=>X.elim) λq X=> .inr<|.inl X;replace C:=bE▸C;replace af:=bE▸af;replace C:=dA▸C;have f:∀b,dH ag (Y a) aF b->dH ag am aF b\/I b=am:=λb aA=>by
   rcases aA with aA|aA|aA
   ·exact .inl<|.inl aA
   ·cases aA;exact .inr na
   ·exact .inl<|.inr<|.inr aA
  have F:Fr No (λa=>a=ag.eT) No I aN:=(Fr.cg av).trans bg;have x:∃us,I ag.cl=Y (.list us):=fi (C.B.T) λq q q q G=>⟨_,G.a1⟩;obtain⟨v,x⟩:=x;have az:∀b,No b->dH ag (Y a) aF b:=λq X=>X.elim;refine af aN r fV a [] 0 (m.trans d) ⟨C.B.fr F id id C.ok.tZ id id id id,C.K,C.E.fr F C.ok.E2 id id id,?_,(C.R.lC f).fr F az,(C.G.lC f).fr F C.ok.E3 az,.inr<|⟨r,fV,a,([]),rfl,l.at,(g.fr bg id id),(dU _)⟩,C.num,C.iY,C.nl,C.ex,C.ok,C.bD,C.bw,C.bR,C.b4,C.ck,C.cV,?_,pR (lg C.D) C.g3<|m.trans d⟩ (g.fr bg id id) (dU _) l.at (λu Q X=>(X.lC f).fr F az)
  ·intro b aA;rcases aA with aA|aA|aA
   ·exact F.gI b _<|aA▸x
   ·cases aA;exact bg.gI a _ g.ap
   ·obtain⟨o,aO⟩:=lg C.D b aA;exact F.gI b o aO
  ·intro b aA;cases aA;refine⟨λX=>?_,(cQ x na).symm,(cQ C.B.R.ap na).symm⟩;obtain⟨o,aO⟩:=lg C.D a X;replace aO:=na▸aO;exact bX aO
 ·refine sS bo λr fV a us bv bE dA s=>?_;clear bo;replace C:=bv▸C;replace af:=bv▸af;exact ie bE (b:=true) rfl<|t3 C.E<|pr bE rfl<|af I r fV a us last (.ext .refl) C dA s bE λq q X=>X
theorem eG.push (C:eG ag aF I au aS aW (Y a) last bO)(R:gQ I ae cl a ai last)(W:I ag.eT=Y (.cP [(1,.ref ae)]))(F:Fr (λb=>b=ag.cl\/b=a) (jx ag.tolR) qg I Z)(L:b3 ag.tolR Z au.a2 au.pt ar aY)(d:lX aY ar (Y aQ)) (an:∀e∈aW,e.num≠0->e∈aY)(ap:aY.length<=aW.length+2)(aq:gQ Z ae cl N b6 pt)(S:b6.length<=au.n+1)(h:pt<=0)(aX:∀e∈aY,pt<=e.num)(bl:N=a\/I N=am): eG ag aF Z {au with mp:=Y aQ,n:=au.n+1} ar aY (Y N) pt bO/\ds aF I Z/\(∀u Q,eg (dH ag (Y a) aF) I u Q->eg (dH ag (Y N) aF) Z u Q):=by
 have k:ds aF I Z:=C.ms F (λb X=>X.imp id λX=>by exact J X rfl) λb X=> .inl X;have f:∀b,dH ag (Y N) aF b->dH ag (Y a) aF b\/I b=am:=λb aA=>by
  rcases aA with aA|aA|aA
  ·exact .inl<|.inl aA
  ·cases aA;rcases bl with X|X
   ·exact .inl<|.inr<|.inl (by exact J X rfl)
   ·exact .inr X
  ·exact .inl<|.inr<|.inr aA
 have x:∃us,I ag.cl=Y (.list us):=fi (C.B.T) λq q q q G=>⟨_,G.a1⟩;obtain⟨ai,x⟩:=x;have c3:∀b,(b=ag.cl\/b=a)->dH ag (Y a) aF b\/dH ag (Y N) aF b:=λb X=> .inl<|X.imp id λX=> .inl (by exact J X rfl);have az:∀u Q,eg (dH ag (Y a) aF) I u Q->eg (dH ag (Y N) aF) Z u Q:=λu Q X=> ((X.lC (c:=λb=>dH ag (Y a) aF b\/dH ag (Y N) aF b) λb aA=>aA.elim .inl<|f b).fr F c3).lC λb aA=> .inl<|.inr aA;have p:n8 ag (dH ag (Y N) aF) Z au.et:= ((C.G.lC (c:=λb=>dH ag (Y a) aF b\/dH ag (Y N) aF b) λb aA=>aA.elim .inl<|f b).fr F (λX=>C.ok.qy X.symm) c3).lC λb aA=> .inl<|.inr aA;refine⟨⟨L,d,C.E.fr F (λX=>C.ok.xg X.symm) (by decide) (by decide)<|by decide,?_,az _ _ C.R,p,.inr<|⟨ae,cl,N,b6,rfl,(F.cP W λX=>C.ok.tZ X.symm),aq,S⟩,aX,h,by have:=C.nl;refine(?_:aY.length<=4+2*(au.n+1));exact ch (.le aa<|.a (.k 4)<|.m 2<|.a ab aC) [.le aa<|.a ah j6,.le ah<|.a (.k 4)<|.m 2 ab] ap this,λX af=>?_,C.ok,C.bD,C.bw,C.bR,C.b4,C.ck,C.cV,?_,pR (lg C.D) C.g3 k⟩,k,az⟩
 ·intro b aA;rcases aA with aA|aA|aA
  ·exact F.gI b _<|aA▸x
  ·cases aA;exact⟨_,aq.ap⟩
  ·obtain⟨o,aO⟩:=lg C.D b aA;exact F.gI b o aO
 ·exact dF (C.ex X af) λak bG=>dr bG λe ax=>fT ax λhe bv bE=>(⟨ak,e,(an e he<|by refine J bv ?_;exact dW (.Ne bh b1) [.Lt b1 bh] ak),bv,bE⟩)
 ·intro b aA;cases aA;rcases bl with X|X
  ·refine J X ?_;exact C.cB a rfl
  ·refine⟨λz=>?_,(cQ x X).symm,(cQ C.B.R.ap X).symm⟩;obtain⟨o,aO⟩:=lg C.D _ z;replace aO:=X▸aO;exact bX aO
theorem y2 (H:ba c)(C:eG ag aF I au ar aW (Y a) last bO)(R:gQ I ae cl a us last)(S:us.length<=au.n)(W:I ag.eT=Y (.cP [(1,.ref ae)]))(aX:au.n<=14)(ak:1<=pt)(ao:pt<=au.a2.length+1) (af:∀Z o aY p t,ds aF I Z->eG ag aF Z {au with mp:=Y pt,n:=au.n+1} o aY (Y p) t bO->(∀u Q,eg (dH ag (Y a) aF) I u Q->eg (dH ag (Y p) aF) Z u Q)->ad .none Z): bk c 5 (.ref 261) [.ref ae,.ref ag.b,.int pt] ad I:=by have aL:=C.cB a rfl;refine UW H C.B C.K R ak ao (by have:=C.nl;exact bH (.lt aa<|.k 56) [.le ab<|.k 14,.le aa<|.a (.k 4)<|.m 2 ab] aX this) C.num C.iY aL.2.1 aL.2.2 (by exact bH (.le aa<|.k 15) [.le aa ab,.le ab<|.k 14] S aX) λZ o aY p v t F L d an ap aq e h V bl=>?_;refine fT (C.push R W F L d an ap aq (by exact ch (.le aa<|.a ab aC) [.le ah ab,.le aa<|.a ah aC] S e) h V bl) λaG aB az=>?_;exact af _ _ _ _ _ aB aG az
theorem IR (H:ba c)(C:eG ag aF I au ar aW bL last bO)(aO:eK au.a2)(N:au.pt=(t:Int)+1)(an:t<=au.a2.length)(aq:au.a2.length<=60)(ax:eg (dH ag bL aF) I u h)(bl:h.length<=61)(aG:∀r∈h,b9 r/\r.length<=60) (af:∀Z aY,ds aF I Z->eG ag aF Z (if h=[] then au else au.move (oO au.a2 t h) (oQ au.a2 t h) (oP au.a2 t h)) ar aY bL last bO->(∀u Q,eg (dH ag bL aF) I u Q->eg (dH ag bL aF) Z u Q)->ad .none Z): bk c 9 (.ref 668) [.ref ag.b,u,.int 8] ad I:=by
 by_cases h0:h=[]
 ·subst h0;refine cS ax λa us e na aK bb=>?_;clear ax;refine J e ?_;have:us=[]:=kZ.mp bb.length;subst this;refine EE (n:=8) H<|li aK (by decide) ?_;have:=af I aW<|.ext .refl;rw[if_pos rfl] at this;exact this C λq q X=>X
 ·refine cS ax λa us e na aK bb=>?_;clear ax;refine J e ?_;have B:=C.B;replace B:=N▸B;refine Xb H B aO an aq C.D (.inl rfl) (gd a us rfl na aK bb) bl aG h0 λZ F L=>?_;have:=af Z (el (oO au.a2 t h) aW)<|C.ms F (λq X=> .inl X) λq X=>X.elim;rw[if_neg h0] at this;exact this (C.move F L) λu Q X=>X.fr F λb l=> .inl l
theorem OM (H:ba c)(C:dM ag aF I au)(aO:eK au.a2)(N:au.pt=(b:Int)+1)(an:b<=au.a2.length)(aq:au.a2.length<=60)(aX:au.n<=14)(bl:au.dY.length<=61)(aG:∀r∈au.dY,b9 r/\r.length<=60)(a6:ar≠.aD) (af:∀Z,ds aF I Z->dM ag aF Z (if au.dY=[] then{au with mp:=Y au.pt,n:=au.n+1} else{au with mp:=Y au.pt,n:=au.n+1}.move (oO au.a2 b au.dY) (oQ au.a2 b au.dY) (oP au.a2 b au.dY))->ad .none Z):bk c 10 (.ref 800) [.ref ag.cT,ar] ad I:=by refine kP C λmk aW bL last bO C=>?_;refine MB (n:=9) H<|j9 H C.E ⟨(H.f 13),(H.f 76),ca<|GQ H C λay r fV a us h m aZ g S W i=>k9 aZ.B.R<|ca<|y2 H aZ g S W aX (N▸one_le) (N▸pE an) λaN o e u l d O L=>?_⟩;refine dT (O.R) λp v s q=>?_;clear C aZ;subst s;exact bx (H.f 68)<|OP O.E<|ka O.E<|ca<|IR H O aO N an aq O.R bl aG λM t j aV q=>af _ ((m.trans d).trans j) aV.jr
noncomputable def hj (k:Int)(aE:List (List Int))(b:List (Int×List (List Int))):List (Int×List (List Int)):= if b.any (λf=>f.1=k) then b.map (λf=>if f.1=k then(f.1,aE) else f) else b++[(k,aE)]
theorem Vk {k:Int}(aU:∃t r,u=.ref t/\I t=Y (.tup [.str "rectangle",r])/\eg aJ I r h)(C:bY (o7 aJ I) aO af):bY (o7 aJ I) (hi k u aO) (hj k h af):=by
 have ak:∀{aO:List (Int×V)} {af:List (Int×List (List Int))},bY (o7 aJ I) aO af->aO.any (λf=>f.1=k)=af.any (λf=>f.1=k):=by
  intro aO;induction aO with
  |nil=>intro af C;cases af with|nil=>rfl|cons=>exact C.elim
  |cons p aO B=>
   intro af C;cases af with
   |nil=>exact C.elim
   |cons X af=>obtain⟨⟨e,_⟩,C⟩:=C;exact J oS<|J oS<|J (B C)<|J e rfl
 have ao:∀{aO:List (Int×V)} {af:List (Int×List (List Int))},bY (o7 aJ I) aO af->bY (o7 aJ I) (aO.map λf=>if f.1=k then(f.1,u) else f) (af.map λf=>if f.1=k then(f.1,h) else f):=by
  intro aO;induction aO with
  |nil=>intro af C;cases af with|nil=>trivial|cons=>exact C.elim
  |cons p aO B=>
   intro af C;cases af with
   |nil=>exact C.elim
   |cons X af=>
    obtain⟨⟨e,aG⟩,C⟩:=C;refine⟨?_,B C⟩;dsimp only;refine J e ?_;split
    ·exact⟨rfl,aU⟩
    ·exact⟨e,aG⟩
 unfold hi hj;refine J (ak C) ?_;split
 ·exact ao C
 ·exact C.append ⟨⟨rfl,aU⟩,trivial⟩
theorem y7 {k:Int}:∀{al:List (Int×V)} {b:List (Int×List (List Int))},bY (o7 aJ I) al b->(b.lookup k=am->al.lookup k=am)/\∀aE,b.lookup k=Y aE->∃t r,al.lookup k=Y (.ref t)/\I t=Y (.tup [.str "rectangle",r])/\eg aJ I r aE:=by
 intro D;induction D with
 |nil=>
  intro f;cases f with
  |nil=>intro o;exact⟨λq=>rfl,λq C=>by exact bX C⟩
  |cons _ _=>intro d;first|exact d.elim|cases d
 |cons c al B=>
  intro f;obtain⟨cz,u⟩:=c;cases f with
  |nil=>intro d;first|exact d.elim|cases d
  |cons i b=>
   intro g;obtain⟨cM,v⟩:=i;obtain⟨⟨e,aG⟩,C⟩:=g;have B:=B C;change cz=cM at e;refine bm e<|J g4<|J g4 ?_;cases X:k==cz with
   |true=>refine⟨(λz=>by exact gB z),λaE z=>?_⟩;cases z;refine bA λco aB=>hg aG λt r bE dA s=>?_;clear aG;exact aB<|(eV t r (by exact J (show u=.ref t from bE) rfl) dA s)
   |false=>exact B
theorem su (H:ba c)(E:iq ag I bO)(g:I ag.ih=Y (.cP aO))(af:ad ((aO.lookup pt).getD .none) I):bk c 1 (.ref 715) [.ref ag.cW,.int pt] ad I:= MG (n:=0) H<|c8 E.nq E.qG GF<|pF<|⟨(It g),_,g,af⟩
theorem VE (H:ba c)(E:iq ag I bO)(g:I ag.ih=Y (.cP aO))(aq:aO.length<=1000)(aU:u≠.aD)(af:∀Z,Upd I Z ag.ih (.cP<|hi pt u aO)->ad .none Z):bk c 1 (.ref 722) [.ref ag.cW,.int pt,u] ad I:= Nj (n:=0) H<|qX aU<|c8 E.nq E.qG GF<|pF<|sZ g (by refine J eI ?_;exact a5 aq<|by decide) af
theorem HB (H:ba c)(C:eG ag aF I au ar aW bL last bO)(ax:eg (dH ag bL aF) I (.ref a) h)(aq:h.length<=100000)(S:∀r∈h,r.length<=100000)(an:au.et.length<=900) (af:∀Z,ds aF I Z->eG ag aF Z {au with et:=hj pt h au.et} ar aW bL last bO->ad .none Z):bk c 2 (.ref 727) [.ref ag.cW,.int pt,.ref a] ad I:=by refine bA λco aB=>cS ax λaG us e na aK bb=>?_;clear ax;refine aB ?_;cases e;refine Nq (n:=1) H ⟨(H.f 73),hB aK<|pL (λr=>r) C.D aK bb (bb.length▸aq) (λay w aM K av a6 aR bU=>tV aR (zt<|S _ a6) λd aN a3 o O=>bU _ _ a3 (.inr o) O) λb ay av aA=>kp rfl rfl λt aN a3 o O=>?_⟩;rw[AE] at aA;have aV:=C.ext<|av.trans a3;refine a9 (aV.G) λal g x=>ca<|VE H aV.E g (by refine J x.length ?_;exact a5 an<|by decide) (λX=>by cases X) λbz bf=>?_;have F:Fr No (λa=>a=ag.ih) No aN bz:=.s5 bf g rfl;have az:∀b,No b->dH ag bL aF b:=λq X=>X.elim;have T:=aV.ms F (λq X=>X.elim) λq X=> .inr<|.inr X;refine af bz ((ds.ext<|av.trans a3).trans T) ⟨aV.B.fr F id id C.ok.qy id id id id,C.K,aV.E.fr F C.ok.r2 id id id,aV.D.fr F,aV.R.fr F az,(bj _ bf.at ?_),aV.N.fr F (λX=>C.ok.E3 X.symm) id λq q=>id,C.num,C.iY,C.nl,C.ex,C.ok,C.bD,C.bw,C.bR,C.b4,C.ck,C.cV,C.cB,pR (lg aV.D) aV.g3 T⟩;exact(Vk (k:=pt) ⟨t,.ref b,rfl,O,aA.ext a3⟩ x).mono λp X ⟨bv,t,r,bE,dA,s⟩=>⟨bv,t,r,bE,F.tup dA,s.fr F az⟩
theorem zi (H:ba c)(ak:0<=pt)(ao:pt<4194304)(af:ad (.int pt) I):bk c 1 (.ref 758) [.int pt] ad I:=by refine Nz (n:=0) H ⟨rfl,?_⟩;exact Oj (by decide)<|jV (p:=0<=pt) ak<|jV (p:=pt<4194304) ao af
theorem Pi (C:A.length<=40000)(aG:l<=40000):(kb A b l).length<=100000:=by unfold kb;exact J bK<|J nK<|a5 (nQ (eh<|eD C)<|a5 (j0 ..)<|a5 (j0 ..) aG) (by decide)
theorem OK (H:ba c)(C:dM ag aF I au)(aO:eK au.a2)(A:bn=.none\/∃i,bn=.int i)(U:b<=au.a2.length)(he:e<=au.a2.length)(aq:au.a2.length<=40000)(ah:0<=pt)(F:pt<4194304)(nq:au.et.length<=900) (a6:I ae=Y (.list [.int pt,.int<|(b:Int)+1,.int<|(e:Int)+1,bn]))(o:aF ae) (af:∀Z,ds aF I Z->dM ag aF Z (if bn.isNone then{au with et:=hj pt (kG au.a2 b e) au.et} else{au with et:=hj pt (kG au.a2 b e) au.et}.move (fs au.a2 b e (cZ au.a2 b e)<|je au.a2 b e) (eH au.a2 b e<|je au.a2 b e) (fs au.a2 b e (cZ au.a2 b e) (je au.a2 b e) au.pt))->ad .none Z): bk c 11 (.ref 772) [.ref ag.cT,.ref ae] ad I:=by
 refine bA λco aB=>kP C λmk aW bL last bO C=>aB ?_;have R:=kR aO U he;have d:(kG au.a2 b e).length<=100000:=by refine J (fx _) ?_;exact a5 R.my<|a5 (hR aq) (by decide)
 have g:∀r∈kG au.a2 b e,r.length<=100000:=λr ax=>by refine a9 (eF.mp ax) λx aL bh=>?_;refine bm bh ?_;exact Pi (a5 (R.ta x aL) aq)<|a5 R.lt aq
 refine Mu (n:=10) H ⟨(H.f 77),cU (k:=0) a6 rfl (da rfl)<|ca<|zi H ah F<|cU (k:=3) a6 rfl (da rfl) ?_⟩;rcases A with rfl|⟨i,rfl⟩
 ·refine kp rfl rfl λt ay av n₁ y=>eE y rfl ?_;have aZ:=C.ext av;have l:=av _ _ a6;exact bx (H.f 60)<|j9 H aZ.E<|cU (k:=1) l rfl (da rfl)<|cU (k:=2) l rfl (da rfl)<|ka aZ.E<|ca<|t5 H aZ.B aO U he aq aZ.D λa aN a3 aL=>bx (H.f 74)<|xm (aZ.ext a3).E<|ca<|HB H (aZ.ext a3) aL d g nq λM j aV=>af M (((ds.ext av).trans<|.ext a3).trans j) aV.jr
 ·refine kp rfl rfl λt ay av n₁ y=>eE y rfl ?_;have aZ:=C.ext av;have l:=av _ _ a6;refine bx (H.f 62)<|j9 H aZ.E<|cU (k:=1) l rfl (da rfl)<|cU (k:=2) l rfl (da rfl)<|ka aZ.E<|ca<|Rw H aZ.B aO U he aq aZ.D (.inl rfl) λa aN bg aL aj=>?_;have O:=aZ.move bg aj;exact bx (H.f 74)<|xm O.E<|ca<|HB H O aL d g nq λM j aV=>af M (((ds.ext av).trans<|aZ.kM bg).trans j) aV.jr
noncomputable def fO.hn (S:fO)(k:Nat)(aE:List (List Int)):fO:=if aE=[] then S else S.move (oO S.a2 k aE) (oQ S.a2 k aE) (oP S.a2 k aE)
theorem eG.zg (C:eG ag aF I au ar aW bL last bO)(F:Fr (cO ag.cl) No dk I Z)(L:b3 ag.tolR Z au.a2 aQ ar aW):eG ag aF Z {au with pt:=aQ} ar aW bL last bO:=by have az:∀a,cO ag.cl a->dH ag bL aF a:=λa C=> .inl C;exact⟨L,C.K,C.E.fr F id (by decide) (by decide)<|by decide,C.D.fr F,C.R.fr F az,C.G.fr F id az,C.N.fr F id (by decide) λa e X=>(C.cB a e).2.1 X,C.num,C.iY,C.nl,C.ex,C.ok,C.bD,C.bw,C.bR,C.b4,C.ck,C.cV,C.cB, pR (lg C.D) C.g3<|C.ms F (λq X=> .inl X) λq X=>X.elim⟩
theorem OG (H:ba c)(C:dM ag aF I au)(aO:eK au.a2)(A:bn=.none\/∃i,bn=.int i)(N:au.pt=(b:Int)+1)(an:b<=au.a2.length)(aq:au.a2.length<=60)(aX:au.n<=14)(ah:0<=aQ)(F:aQ<4194304) (b6:au.et.lookup aQ=Y h)(bl:h.length<=61)(aG:∀r∈h,b9 r/\r.length<=60) (a6:I ae=Y (.list [.int aQ,bn]))(o:aF ae)(P:1<=(au.hn b h).pt)(ai:(au.hn b h).pt<=(au.hn b h).a2.length+1)(ab:au.pt<=(au.hn b h).a2.length+1)(ax:(au.hn b h).n=au.n) (af:∀Z,ds aF I Z->dM ag aF Z {au.hn b h with mp:=Y (if bn.isNone then(au.hn b h).pt else au.pt),n:=au.n+1,pt:=if bn.isNone then au.pt else(au.hn b h).pt}->ad .none Z): bk c 11 (.ref 765) [.ref ag.cT,.ref ae] ad I:=by
 refine bA λco aB=>?_;refine kP C λmk aW bL last bO C=>?_;refine a9 (C.G) λal g x=>?_;refine hg ((y7 x).2 h b6) λt r bE dA s=>?_;refine aB ?_;refine Mw (n:=10) H ⟨(H.f 72),xm C.E ⟨(H.f 77),cU (k:=0) a6 rfl (da rfl)<|ca<|zi H ah F<|ca<|su H C.E g ?_⟩⟩;refine J bE ?_;refine j9 H C.E<|kp rfl rfl λv ay av n₁ y=>eE y rfl ?_;have aZ:=C.ext av;have l:=av _ _ a6;have K:=av _ _ dA;refine k9 aZ.B.R<|it (k:=0) K rfl (da rfl)<|eqs<|jV rfl<|bx (H.f 68)<|it (k:=1) K rfl (da rfl)<|ka aZ.E<|ca<|IR H aZ aO N an aq (s.ext av) bl aG λaN e d O L=>?_;change eG ag aF aN (au.hn b h) mk e bL last bO at O;have p:=d _ _ o l;refine k9 O.B.R ⟨(H.f 13),(H.f 76),ca<|GQ H O λM w fV a us am j aV u S W ak=>cU (k:=1) (j _ _ o p) rfl (da rfl) ?_⟩;have V:(au.hn b h).n<=14:=by refine J ax ?_;exact aX
 have b:=((ds.ext av).trans d).trans j;rcases A with rfl|⟨i,rfl⟩
 ·refine ca<|y2 H aV u S W V P ai λbz X aa aj U T bc Q=>kD bc.B.R (λq q q=>yB) (H.m 17)<|cU (k:=1) (T _ _ o<|j _ _ o p) rfl (da rfl)<|ca<|ug H bc.B (N▸one_le) ab λbN bv D=>?_;have ao:=bc.zg bv D;rw[ax] at ao;exact af bN ((b.trans T).trans<|bc.kM bv) ao.jr
 ·refine ca<|y2 H aV u S W V (N▸one_le) ab λbz X aa aj U T bc Q=>kD bc.B.R (λq q q=>yB) (H.m 17)<|cU (k:=1) (T _ _ o<|j _ _ o p) rfl (da rfl)<|ca<|ug H bc.B P ai λbN bv D=>?_;have ao:=bc.zg bv D;rw[ax] at ao;exact af bN ((b.trans T).trans<|bc.kM bv) ao.jr
def l3 (I:aI)(R:Addr)(aE:List (List Int)):Prop:=∃rs,I R=Y (.list rs)/\bY (hZ I) rs aE
theorem l3.ext (C:l3 I ae h)(x:bF I Z):l3 Z ae h:=a9 C λrs a b=>⟨rs,x _ _ a,b.mono λq q X=>X.ext x⟩
theorem yr (ak:0<=pt)(ao:pt<1000000):IntMulOk pt last:=.of_left<|intBits_le_64 (dW (.Lt (.g<|.k 18446744073709551616) bh) [.bW b1 bh] ak)<|dW (.Lt bh<|.k 18446744073709551616) [.Lt bh<|.k 1000000] ao
theorem Go (H:ba c)(hd:I ae=Y (.list [.ref cl,.int cnt]))(a1:I cl=Y (.list<|br a0))(aq:a0.length<=1000)(E:cnt<=10000)(hm:0<pt)(W:pt<1000000) (af:∀v Z,0<=v->v<pt->Upd I Z ae (.list [.ref cl,.int (cnt+1:Nat)])->ad (.int v) Z):bk c 1 (.ref 1332) [.ref ae,.int pt] ad I:=by
 refine MS (n:=0) H<|cU (k:=1) (u:=.int cnt) hd rfl (da rfl)<|dZ (k:=1) hd (es rfl) (da rfl) λay j=>?_;have g:ay ae=Y (.list [.ref cl,.int<|(cnt:Int)+1]):=j.at;have b:ay cl=Y (.list<|br a0):=j.keep hd a1 λX=>uD (us:=[]) (Q:=a0) (l:=cl) (by clear a1;cases a0 with|nil=>cases X|cons=>cases X);have fin:∀a:Int,ad (.int<|a.fmod pt) ay:=λa=>af _ _ (Int.fmod_nonneg_of_pos _ hm) (Int.fmod_lt_of_pos _ hm) j;refine cU (k:=1) (u:=.int<|(cnt:Int)+1) g rfl (da rfl)<|cU (k:=0) (u:=.ref cl) g rfl (da rfl)<|li b (by refine J e1 ?_;exact cK (.lt aa<|.k 4611686018427387904) [.le aa<|.k 1000] aq)<|db (λC=>?_) λC=>?_
 ·rw[e1] at C;have G:cnt<a0.length:=by exact bH (.lt aa ab) [.bW (.a (.c aa) aC)<|.c ab] C
  refine cU (k:=0) (u:=.ref cl) g rfl (da rfl)<|cU (k:=1) (u:=.int<|(cnt:Int)+1) g rfl (da rfl) ?_;refine ii b (i:=.int<|(cnt:Int)+1 -1) (u:=.int a0[cnt]) ⟨?_,by refine J e1 ?_;exact cK (.lt aa<|.k 4611686018427387904) [.le aa<|.k 1000] aq⟩<|bx (YH hm)<|fin _;refine J (by exact gb (.Eq (.s (.a (.c aa) aC) aC)<|.c aa):(cnt:Int)+1 -1=(cnt:Nat))<|J yW<|J xL<|J (eu G) ?_;rfl
 ·refine cU (k:=1) (u:=.int<|(cnt:Int)+1) g rfl (da rfl)<|cU (k:=1) (u:=.int<|(cnt:Int)+1) g rfl (da rfl)<|bx (yr (by exact gb<|.bW b1<|.a (.c aa) aC)<|by exact cK (.Lt (.a (.c aa) aC)<|.k 1000000) [.le aa<|.k 10000] E)<|bx (.of_right<|intBits_le_64 (by decide)<|by decide) ?_;refine cU (k:=1) (u:=.int<|(cnt:Int)+1) g rfl (da rfl)<|bx (yr (by decide)<|by decide)<|cU (k:=0) (u:=.ref cl) g rfl (da rfl)<|li b (by refine J e1 ?_;exact cK (.lt aa<|.k 4611686018427387904) [.le aa<|.k 1000] aq)<|bx (yr (by decide)<|by decide) ?_;exact bx (by decide)<|bx (by decide)<|bx (YH hm)<|fin _
theorem Gp (H:ba c)(ax:I ae=Y (.list<|br aM))(aq:aM.length<=100000)(a1:bf<=100000)(af:jB ad I (pad aM bf)):bk c 1 (.ref 1370) [.ref ae,.int bf] ad I:= MT (n:=0) H<|fu rfl rfl λl ay av n₁ aZ=>dK (av _ _ ax) (dN aq)<|dP<|qQ<|yH aZ a1 λb aN a3 o O=>eC (a3 _ _<|av _ _ ax) O aq (hO<|jo a1) rfl λa M K aH aV=>af a M ((av.trans a3).trans K) ((av.trans a3).none aH) aV
theorem x2 (H:ba c)(cd:l3 I ae h)(h0:h≠[])(aq:h.length<=10000)(bu:(aT h).length<=100000)(af:jB ad I (aT h)):bk c 1 (.ref 1339) [.ref ae] ad I:=by
 refine bA λco aB=>a9 cd λrs ax aQ=>?_;clear cd;refine fc (YI h0) λN d bh=>?_;clear h0;subst bh;obtain⟨j,us,rfl⟩:∃u us,rs=u::us:=by cases rs with|nil=>exact aQ.elim|cons u us=>exact lG u us rfl
 have aP:(j::us).length<=100000:=aQ.length▸a5 aq (by decide);obtain⟨⟨ar,rfl,i⟩,T⟩:=aQ;refine aB<|M0 (n:=0) H<|cU (k:=0) (u:=.ref ar) ax rfl (fd aP)<|tV i (zt<|a5 (iX<|.head _) bu) λf ay av n₁ aZ=>zC (k:=1) (av _ _ ax) aP λt aN a3 o O=>hB (us:=us) O ?_;let E:Nat->Addr×V->List V:=λq p=>[.ref ae,.ref p.1,p.2];let P:Nat->Addr×V->aI->Prop:=λk p Z=>bF I Z/\I p.1=am/\Z p.1=Y (.list<|br<|aT<|(N::d).take<|k+1)/\Z t=Y (.list us);refine uQ E P (a:=(f,.aD)) rfl ⟨av.trans a3,n₁,a3 _ _ aZ,O⟩ (λk p Z C=>C.2.2.2) (λk p M u C aU=>?_) λp M C=>?_
 ·refine gM C λK ft hf bd=>?_;clear C;refine bA λco aB=>kq (T.get' aU) λQ m b bt aA=>?_;clear aU;subst bt;refine aB ?_;have aE:(aT<|(N::d).take<|k+1).length<=100000:=a5 sy bu;have aL:Q.length<=100000:=a5 (iX (.tail _ (d1 m):Q∈N::d)) bu;refine fu rfl rfl λl bz bn be bc=>eC (bG:=[10]) (bn _ _ hf) bc aE (c1 1) rfl λe bN aS y ao=>eC ao (aS _ _<|bn _ _<|K _ _ aA) (jc aE<|c1 1) aL rfl λg bM bE aR aX=>?_;have x:=(K.trans bn).trans aS;refine fM.mk (E:=E<|k+1) (P:=P<|k+1) (g,.ref b) ⟨x.trans bE,x.none aR,?_,bE _ _<|aS _ _<|bn _ _ bd⟩;refine J aX<|J (Gb (rs:=N::d) (k:=k+1) (r:=Q) m)<|J (if_neg<|Nat.succ_ne_zero k)<|J (en _ _ _) ?_;rfl
 ·refine gM C λK ft hf bd=>?_;clear C;rw[T.length,show(N::d).take (d.length+1)=N::d from ik (c1 _)] at hf;exact af _ M K ft hf
theorem wT (h0:h≠[]):cw 0 h h.length=(aT h).length+1:=by unfold cw;refine J k0<|J (nu h0) ?_;exact gb<|.eq (.a b1 aa) aa
theorem Ky {aE:List (List Int)}:∀{k:Nat},k<=aE.length->cw 0 aE k<=cw 0 aE aE.length:=by
 intro k an;unfold cw;have:aE.length=k+(aE.length -k):=by exact ch (.eq aa<|.a ab ah) [.le ab aa,.sub ah aa ab] an rfl
 refine J k0 ?_;conv=>rhs;rw[<-ho k aE,jv,o0]
 exact hI<|.le (.a b1 aa)<|.a b1<|.a aa ab
theorem qr (C:h[i]?=Y aM):cw 0 h i+aM.length<=(aT h).length:=by
 have a4:=(e8.mp C).1;have h0:h≠[]:=λe=>by rw[e] at a4;simp at a4
 have ak:=oc (lo:=0) C;have ao:=wT h0;have bp:=Ky (aE:=h) (k:=i+1) a4;exact de (.le (.a aa ab) ah) [.eq az<|.a (.a aa ab) aC,.eq a8<|.a ah aC,.le az a8] ak ao bp
theorem Wd (e:i=b+j)(ak:b+l+1<=t+1)(f:l<j)(aK:i<=t):b+l+1<t+1:=by exact de (.lt (.a (.a aa ab) aC)<|.a ah aC) [.eq az<|.a aa a8,.lt ab a8,.le az ah] e f aK
theorem Wf (C:l<j):(j:Int) -(l:Nat) -1=(j -(l+1):Nat):=by exact ch (.Eq (.s (.s (.c aa)<|.c ab) aC)<|.c ah) [.lt ab aa,.sub ah aa<|.a ab aC] C rfl
theorem We (e:t=b+j)(C:l<j):t=b+l+1+(j -(l+1)):=by exact de (.eq aa<|.a (.a (.a ab ah) aC) az) [.eq aa<|.a ab a8,.lt ah a8,.sub az a8<|.a ah aC] e C rfl
theorem uR (H:ba c)(cd:l3 I ae h)(h0:h≠[])(aq:h.length<=10000)(bu:(aT h).length<=100000)(aK:bc<=(aT h).length) (af:∀a Z i j aM,bF I Z->I a=am->h[i]?=Y aM->j<=aM.length->bc=cw 0 h i+j->Z a=Y (.tup [.int (i:Nat),.int (j:Nat)])->ad (.ref a) Z):bk c 1 (.ref 1346) [.ref ae,.int bc] ad I:=by
 refine a9 cd λrs ax aQ=>?_;clear cd;have aP:=fd<|aQ.length▸a5 aq (by decide);let E:Nat->Nat×Nat->List V:=λq p=>[.ref ae,.int p.2,.int p.1];let P:Nat->Nat×Nat->Prop:=λm p=>m=h.length -p.1/\p.1<h.length/\bc=cw 0 h p.1+p.2;refine MZ (n:=0) H<|xZ E P (k:=h.length) (a:=(0,bc)) rfl ⟨rfl,rz.mpr h0,(Ax _).symm⟩ λm p C=>?_;obtain⟨i,j⟩:=p;refine fT C λhm a4 e=>?_;clear C;have a6:=eu a4;refine bA λco aB=>kq (aQ.get a6) λu aU a bt ak=>?_;subst bt;refine aB ?_;have aA:=qr a6;have b:=dN<|a5 (a5 (ry ..) aA) bu;refine cU (k:=i) ax aU aP<|dK ak b<|db (p:=((h[i].length:Nat):Int)<(j:Nat)) (λf=>?_) λT=>?_
 ·have f:=fl.mp f;have U:=oc (lo:=0) a6;have G:i+1<h.length:=AF a4 λX=>by have ao:=wT h0;rw[<-X,U] at ao;exact lQ (Wd e (Ao ao) f aK) ao
  exact cU (k:=i) ax aU aP<|dK ak b<|dP<|i2 (Wf f)<|bj (h.length -(i+1)) (by refine J hm ?_;exact Yd a4<|tf i)<|iP.mk (E:=E<|h.length -(i+1)) (P:=P<|h.length -(i+1)) (i+1,j -(h[i].length+1)) ⟨rfl,G,by refine J U ?_;exact We e f⟩
 ·exact kp rfl rfl λt ay av n₁ aZ=>af t ay i j h[i] av n₁ a6 (dL.mp<|il.mp T) e aZ
theorem Wu:∀{aE:List (List Int)},((aE.map λr=>((r.length+1:Nat):Int)).sum)=((aE.map λr=>r.length+1).sum:Nat):=by
 intro D;induction D with
 |nil=>exact rfl
 |cons r aE B=>refine J hQ<|J p6<|J B<|J hQ<|J p6 ?_;exact(Jh ..).symm
theorem Gq (H:ba c){aE:List (List Int)}(cd:l3 I ae aE)(aq:aE.length<=10000)(S:∀r∈aE,r.length<=100000)(a4:i<=aE.length) (af:∀Z,bF I Z->ad (.int<|(cw 0 aE i:Nat)+pt) Z):bk c 1 (.ref 1351) [.ref ae,.int i,.int pt] ad I:=by
 refine a9 cd λrs ax aQ=>?_;clear cd;have ap:=aQ.length;have aP:rs.length<=100000:=ap▸a5 aq (by decide);refine MW (n:=0) H<|vB ax aP λt ay av n₁ aZ=>hB aZ<|uZ (λaj Z=>bF ay Z/\aj=br ((aE.take aj.length).map λr=>((r.length+1:Nat):Int))) (by refine J eI ?_;exact a5 (eD aP)<|by decide) ⟨.refl,rfl⟩ (λaj Z C=>C.1 _ _ aZ) (λaj aN u C aU=>?_) λaj aN C aF a M aH=>?_
 ·rw[oZ] at aU;split at aU
  ·refine kq (aQ.get' aU) λQ m b bt aA=>?_;refine J bt ?_;refine dK (C.1 _ _<|av _ _ aA) (dN<|S _<|d1 m) ⟨C.1,?_⟩;refine J bK<|J fe<|J ju<|J jZ<|J m<|J (tn _)<|J jv<|bm mq<|bm C.2 ?_;rfl
  ·exact bX aU
 ·rw[cF,ap,dG a4] at aF;have bp:=aH.at;rw[C.2,aF] at bp;refine bj _ bp<|J Wu ?_;have:=af M<|(av.trans C.1).trans aH.ext;unfold cw at this;rw[Ax] at this;exact this
def rE (aE:List (List Int))(s e t b f l:Nat):Prop:=∃o g u d,aE[t]?=Y u/\aE[b]?=Y d/\o<=u.length/\g<=d.length/\min s e=cw 0 aE t+o/\max s e=cw 0 aE b+g/\f=min o g/\l=max o g
theorem RJ (H:ba c)(cd:l3 I ae h)(h0:h≠[])(aq:h.length<=10000)(bu:(aT h).length<=100000)(U:i<=(aT h).length)(he:e<=(aT h).length) (af:∀a Z t b f l,bF I Z->I a=am->rE h i e t b f l->Z a=Y (.tup [.int (t:Nat),.int (b:Nat),.int (f:Nat),.int (l:Nat)])->ad (.ref a) Z):bk c 2 (.ref 1358) [.ref ae,.int i,.int e] ad I:=by refine MR (n:=1) H ⟨(H.f 115),u4 (m:=(min i e:Nat)) yR<|ca<|uR H cd h0 aq bu (a5 (nP ..) U) λa ay t o u av q ak ao bp bI=>eE bI rfl ⟨(H.f 115),sG (m:=(max i e:Nat)) yQ<|ca<|uR H (cd.ext av) h0 aq bu (tl.mpr ⟨U,he⟩) λaG aN b g d a3 q aR ar aZ bx=>eE bx rfl ?_⟩⟩;refine u4 (m:=(min o g:Nat)) yR<|sG (m:=(max o g:Nat)) yQ<|kp rfl rfl λr M K aH j=>af r M t b (min o g) (max o g) ((av.trans a3).trans K) ((av.trans a3).none aH) (rc o g u d ak aR ao ar bp aZ rfl rfl) j
theorem WL (C:I ae=Y (.list us))(aq:us.length<=100000)(af:∀a D,bF I D->I a=am->D a=Y (.list<|(us.take j).drop i)->aw a D):∃us,I ae=Y (.list us)/\us.length<=c5/\∀a D,dI I D a (.list<|cut (Y (i:Int)) (Y (j:Int)) us)->aw a D:= oL C (by refine J eI ?_;exact a5 aq<|by decide) λa D n=>af a D n.ext n.1 (by exact J n.at<|J E1 rfl)
theorem Ka:(b:Int)+1=(b+1:Nat):=rfl
theorem Ph:(((Q.take l).drop b)++eb (l -b) 32).take (l -b)=kb Q b l:=by unfold kb;exact J v7<|J (ik<|by rw[dz];exact Jo (q8<|c1 _) _)<|J List.take_replicate<|J (dG<|j0 ..) rfl
theorem RK (H:ba c)(cd:l3 I ae h)(aq:h.length<=10000)(S:∀r∈h,r.length<=100000)(aA:b<=10000)(ap:l<=100000)(o:e<=l)(a1:I b0=Y (.tup [.int t,.int b,.int e,.int l])) (af:∀a us Z,bF I Z->I a=am->Z a=Y (.list us)->bY (gf I Z) us (((h.take<|b+1).drop t).map λr=>kb r e l)->ad (.ref a) Z):bk c 1 (.ref 1363) [.ref ae,.ref b0] ad I:=by
 refine a9 cd λrs ax aQ=>?_;clear cd;have aP:rs.length<=100000:=aQ.length▸a5 aq (by decide);refine MU (n:=0) H<|eE a1 rfl<|tG Ka<|WL (i:=t) (j:=b+1) ax aP λv ay av n₁ aZ=>hB aZ ?_;have T:bY (hZ ay) ((rs.take<|b+1).drop t) ((h.take<|b+1).drop t):=(aQ.mono λq q X=>X.ext av).take _|>.drop _;refine uZ (λaj Z=>bF ay Z/\bY (gf I Z) aj ((((h.take<|b+1).drop t).take aj.length).map λr=>kb r e l)) (by refine J eI ?_;exact a5 (eh<|eD aP)<|by decide) ⟨.refl,trivial⟩ (λaj Z C=>C.1 _ _ aZ) (λaj aN u C aU=>?_) λaj aN C aF a M aH=>?_
 ·obtain⟨a3,O⟩:=C;refine kq (T.get' aU) λQ m a bt aK=>?_;refine J bt ?_;have d:=S Q<|lN<|nR<|d1 m;refine oK (a3 _ _ aK) e l rfl rfl (dN d) λw M K aH aV=>fu rfl rfl λp bz bn be bc=>dP<|qU bc ap (a5 o ap) λD bN aS y ao=>eC (aS _ _<|bn _ _ aV) ao (eh<|eD d) (hO<|jo ap) rfl λE bM bE aR aX=>i2 (H5 o)<|up aX (SM<|jc (eh<|eD d)<|hO<|jo ap) λs bQ bi aB A=>?_;have x:=(((K.trans bn).trans aS).trans bE).trans bi;refine⟨a3.trans x,?_⟩;refine J bK<|J fe<|J ju<|J jZ<|J m<|J (tn _)<|J jv ?_;exact(O.mono λq q X=>X.on λq q q g=>x _ _ g).append ⟨(dj s rfl (av.none<|a3.none<|(((K.trans bn).trans aS).trans bE).none aB)<|by exact J A<|J Ph rfl),trivial⟩
 ·obtain⟨a3,O⟩:=C;rw[aF,T.length,k0] at O;exact af a aj M ((av.trans a3).trans aH.ext) (av.none<|a3.none aH.1) aH.at (O.mono λq q X=>X.on λq q q g=>aH.ext _ _ g)
noncomputable def hc (w:Str)(aM:List Int)(f l:Nat)(cs:List Int):List Int:=if w="string" then jU aM f l cs else if w="number" then eU aM f cs else if w="open" then hL aM f l else if w="clear" then hw aM f l else if w="close" then cls aM f else aM.take f++aM.drop l
theorem Hm (C:b<=l):(pad aM b).drop l=aM.drop l:=by unfold pad;exact J JC<|J List.drop_replicate<|J (AM<|Jo C _)<|J List.replicate_zero<|J (hV _) rfl
theorem GN (H:ba c)(aR:["string","number"].any (· ==w)=true){m:Nat}(hm:(w="string"->m=l)/\(¬ w="string"->m=j))(ax:I ae=Y (.list<|br aM))(an:I cl=Y (.list<|br A))(aq:aM.length<=100000)(h:A.length<=100000)(hf:j<=100000)(af:jB ad I ((pad aM j).take j++A++aM.drop m)): bk c 2 (.ref 1377) [.str w,.ref ae,.int j,.int l,.ref cl] ad I:=by
 refine EC (n:=1) H<|kp rfl rfl λt ay av n₁ aZ=>ie (b:=true) aZ (bj (["string","number"]) rfl aR.symm) ⟨(H.f 119),ca<|Gp H (av _ _ ax) aq hf λp aN a3 np aP=>up aP (dN<|mC aq hf) λa M K na aK=>?_⟩;have F:=(av.trans a3).trans K;refine eC aK (F _ _ an) (q8 hf) h rfl λb bz bn au aA=>?_;have x:=F.trans bn;have fin:∀{i:Nat},i=m->∃us,bz ae=Y (.list us)/\us.length<=c5/\∀a D,dI bz D a (.list<|cut (Y (i:Int)) am us)->e5 (.ref b) (.ref a) ad D:=λ{i} e=>by replace hm:=(dp e)▸hm;replace af:=(dp e)▸af;exact kt (x _ _ ax) (dN aq) λd bN aS fb hd=>eC (aS _ _ aA) hd (jc (q8 hf) h) (eh aq) rfl λe bM bE ne he=>af e bM ((x.trans aS).trans bE) ((x.trans aS).none ne) he
 exact eqs<|db (λe=>fin (hm.1 e).symm) λe=>fin (hm.2 e).symm
theorem u2 (H:ba c)(aR:["string","number"].any (· ==w)=false)(ax:I a=Y (.list<|br aM))(aq:aM.length<=100000)(ak:aM.length<=e->∀ay,bF I ay->ad (.ref a) ay) (ao:e<aM.length->∀ay,bF I ay->BA (d5 c 1 ad) [.str w,.ref a,.int e,.int l,.ref ae,.aD] [] ay):bk c 2 (.ref 1377) [.str w,.ref a,.int e,.int l,.ref ae] ad I:= EC (n:=1) H<|kp rfl rfl λt ay av n₁ aZ=>ie (b:=false) aZ (bj (["string","number"]) rfl aR.symm)<|fg<|dK (av _ _ ax) (dN aq)<|db (p:=((aM.length:Nat):Int)<=(e:Nat)) (λT=>ak (dL.mp T) _ av) λT=>ao (YR λX=>T<|dL.mpr X) _ av
theorem SK (H:ba c)(ax:I ae=Y (.list<|br aM))(aq:aM.length<=100000)(o:e<=l)(ap:l<=100000)(af:kB ad I ae (hL aM e l)):bk c 2 (.ref 1377) [.str "open",.ref ae,.int e,.int l,.ref cl] ad I:=by
 refine u2 H (by decide) ax aq (λC ay av=>af _ _ av (.inl rfl) ?_) λC ay av=>eqs<|jV rfl<|up (av _ _ ax) (dN aq) λa aN a3 na aK=>fu rfl rfl λb M K aH aV=>dP<|qU aV ap (a5 o ap) λd bz bn fb hd=>?_
 ·refine J (av _ _ ax) ?_;unfold hL;exact J (if_pos C) rfl
 have x:=((av.trans a3).trans K).trans bn;refine eC (bn _ _<|K _ _ aK) hd (eD aq) (hO<|jo ap) rfl λg bN aS bO bJ=>kt (aS _ _<|x _ _ ax) (dN aq) λi bM bE m a4=>eC (bE _ _ bJ) a4 (jc (eD aq)<|hO<|jo ap) (eh aq) rfl λj bQ bi h bu=>?_;have x:=(x.trans aS).trans bE;refine af j bQ (x.trans bi) (.inr<|x.none h) ?_;unfold hL;refine J (if_neg<|JG.mpr C) ?_;exact bu
theorem SG (H:ba c)(ax:I ae=Y (.list<|br aM))(aq:aM.length<=100000)(o:e<=l)(ap:l<=100000)(af:kB ad I ae (hw aM e l)):bk c 2 (.ref 1377) [.str "clear",.ref ae,.int e,.int l,.ref cl] ad I:=by
 refine u2 H (by decide) ax aq (λC ay av=>af _ _ av (.inl rfl) ?_) λC ay av=>eqs<|cr (by decide)<|eqs<|jV rfl<|up (av _ _ ax) (dN aq) λa aN a3 na aK=>dK (a3 _ _<|av _ _ ax) (dN aq)<|db (p:=(l:Int)<(aM.length:Nat)) (λf=>fu rfl rfl λb M K aH aV=>dP<|qU aV ap (a5 o ap) λd bz bn fb hd=>?_) λf=>fu rfl rfl λb M K aH aV=>eC (bG:=[]) (K _ _ aK) aV (eD aq) (dU 0) rfl λj bQ bi h bu=>?_
 ·refine J (av _ _ ax) ?_;unfold hw;exact J (if_neg<|rC.mpr<|a5 C o)<|J (ik C)<|J (hV _) rfl
 ·have x:=((av.trans a3).trans K).trans bn;refine kt (x _ _ ax) (dN aq) λg bN aS bO bJ=>eC (aS _ _ hd) bJ (hO<|jo ap) (eh aq) rfl λi bM bE m a4=>eC (bE _ _<|aS _ _<|bn _ _<|K _ _ aK) a4 (eD aq) (jc (hO<|jo ap)<|eh aq) rfl λj bQ bi h bu=>?_;have x:=(x.trans aS).trans bE;refine af j bQ (x.trans bi) (.inr<|x.none h) ?_;unfold hw;refine J (if_pos<|fl.mp f) ?_;exact bu
 ·have x:=(av.trans a3).trans K;refine af j bQ (x.trans bi) (.inr<|x.none h) ?_;unfold hw;refine J (if_neg λX=>f<|fl.mpr X) ?_;exact bu
theorem SJ (H:ba c)(ax:I cl=Y (.list<|br aM))(aq:aM.length<=100000)(o:e<=l)(af:kB ad I cl (aM.take e++aM.drop l)):bk c 2 (.ref 1377) [.str "delete",.ref cl,.int e,.int l,.ref ae] ad I:=by
 refine u2 H (by decide) ax aq (λC ay av=>af _ _ av (.inl rfl) ?_) λC ay av=>eqs<|cr (by decide)<|eqs<|cr (by decide)<|eqs<|cr (by decide)<|up (av _ _ ax) (dN aq) λa aN a3 na aK=>kt (a3 _ _<|av _ _ ax) (dN aq) λb M K au aA=>eC (K _ _ aK) aA (eD aq) (eh aq) rfl λj bQ bi h bu=>?_
 ·exact J (av _ _ ax)<|J (ik C)<|J (i6<|a5 C o)<|J (hV _) rfl
 ·exact af j bQ (((av.trans a3).trans K).trans bi) (.inr<|((av.trans a3).trans K).none h) bu
theorem Ud (C:(pt::Q).take 1=[32]):pt=32:=by cases C;rfl
theorem SH (H:ba c)(ax:I ae=Y (.list<|br aM))(aq:aM.length<=100000)(ap:l<=100000)(af:kB ad I ae (cls aM t)):bk c 2 (.ref 1377) [.str "close",.ref ae,.int t,.int l,.ref cl] ad I:=by
 refine u2 H (by decide) ax aq (λC ay av=>af _ _ av (.inl rfl) ?_) λC ay av=>eqs<|cr (by decide)<|eqs<|cr (by decide)<|eqs<|jV rfl<|kt (av _ _ ax) (dN aq) λa aN a3 na aK=>?_
 ·refine J (av _ _ ax) ?_;unfold cls;exact J (if_pos C) rfl
 let E:Nat->Addr×List Int->List V:=λq p=>[.str "close",.ref ae,.int t,.int l,.ref cl,.ref p.1];let P:Nat->Addr×List Int->aI->Prop:=λm p Z=>bF I Z/\m=p.2.length/\p.2.length<=100000/\p.2.dropWhile (· ==32)=(aM.drop t).dropWhile (· ==32)/\Z p.1=Y (.list<|br p.2);refine RF E P (k:=(aM.drop t).length) (a:=(a,aM.drop t)) rfl ⟨av.trans a3,rfl,eh aq,rfl,aK⟩ λm p M aG=>?_;obtain⟨b,Q⟩:=p;refine gy aG λK hm i hd aA=>?_;clear aG;refine up (k:=1) aA (dN i) λd bz bn au D=>fu rfl rfl λe bN aS y ao=>T1 (bG:=[32]) (aS _ _ D) ao<|db (λak=>?_) λak=>?_
 ·clear D;cases Q with
  |nil=>cases ak
  |cons x Q=>have:=Ud ak;subst this;exact kt (k:=1) (aS _ _<|bn _ _ aA) (dN i) λg bM bE bO bJ=>(bj Q.length (hm▸tf _)<|fM.mk (E:=E Q.length) (P:=P Q.length) (g,Q) ⟨((K.trans bn).trans aS).trans bE,rfl,Jy i,hd,bJ⟩)
 ·have f:Q.dropWhile (· ==32)=Q:=by
   clear hm D;cases Q with
   |nil=>rfl
   |cons x Q=>rw[Yl];intro X;exact ak (by refine J (eq_of_beq X) ?_;rfl)
  have x:=(K.trans bn).trans aS;refine up (x _ _ ax) (dN aq) λg bM bE bO bJ=>eC bJ (bE _ _<|aS _ _<|bn _ _ aA) (eD aq) i rfl λj bQ bi h bu=>af j bQ ((x.trans bE).trans bi) (.inr<|(x.trans bE).none h) ?_;refine J bu ?_;unfold cls;exact J (if_neg<|JG.mpr C)<|bm hd<|J f rfl
theorem RO (H:ba c)(aR:w="string"\/w="number"\/w="open"\/w="clear"\/w="close"\/w="delete")(ax:I ae=Y (.list<|br aM))(an:I cl=Y (.list<|br A))(aq:aM.length<=100000)(h:A.length<=100000)(o:b<=l)(ap:l<=100000) (af:kB ad I ae (hc w aM b l A)):bk c 2 (.ref 1377) [.str w,.ref ae,.int b,.int l,.ref cl] ad I:=by
 rcases aR with rfl|rfl|rfl|rfl|rfl|rfl
 ·refine GN H (by decide) ⟨λq=>rfl,λX=>(X rfl).elim⟩ ax an aq h (a5 o ap) λa Z x n C=>af a Z x (.inr n)<|J C<|bm (Hm o) ?_;rfl
 ·refine GN H (by decide) (m:=b) ⟨λX=>absurd X<|by decide,λq=>rfl⟩ ax an aq h (a5 o ap) λa Z x n C=>af a Z x (.inr n)<|J C<|bm (Hm<|c1 b) ?_;rfl
 ·exact SK H ax aq o ap af
 ·exact SG H ax aq o ap af
 ·exact SH H ax aq ap af
 ·exact SJ H ax aq o af
structure iv where
 O:Addr
 R:Addr
 L:Addr
 K:Addr
 cu:Addr
 cl:Addr
def XL (aJ:Addr->Prop)(W:iv):Addr->Prop:=λa=>aJ a\/a=W.O\/a=W.R\/a=W.K\/a=W.cu
def ed (W:iv):Addr->Prop:=λa=>a=W.R\/a=W.cu
def ec (W:iv):Addr->Prop:=λa=>a=W.O\/a=W.K
def f2 (aJ:Addr->Prop)(I:aI)(u:V)(Q:List Int):Prop:=∃a,u=.ref a/\aJ a/\I a=Y (.list<|br Q)
def lW (aJ:Addr->Prop)(I:aI)(p:Int×V)(X:Int×List (List Int)):Prop:=p.1=X.1/\∃a us,p.2=.ref a/\aJ a/\I a=Y (.list us)/\bY (f2 aJ I) us X.2
structure hs where
 aV:List (List Int)
 last:List (List Int)
 cA:List (Int×List (List Int))
 cnt:Nat
structure eQ (aJ:Addr->Prop)(W:iv)(I:aI)(a0:List Int)(T:hs):Prop where
 c6:I W.O=Y (.fQ [("rows",.ref W.R),("last",.ref W.L),("kept",.ref W.K)])
 cd:∃rs,I W.R=Y (.list rs)/\bY (f2 aJ I) rs T.aV
 c3:∃us,I W.L=Y (.list us)/\bY (f2 aJ I) us T.last
 js:aJ W.L
 bU:∃aO,I W.K=Y (.cP aO)/\bY (lW aJ I) aO T.cA
 hd:I W.cu=Y (.list [.ref W.cl,.int T.cnt])
 a1:I W.cl=Y (.list (br a0))
 lH:aJ W.cl
 pT:¬ aJ W.O
 kX:¬ aJ W.R
 rf:¬ aJ W.K
 jt:¬ aJ W.cu
 ne:W.R≠W.cu
 gI:eJ aJ I
 rO:∀a ae al,aJ a->I a≠Y (.attrs ae al)
theorem f2.gx (C:f2 aJ I u Q)(f:∀a,aJ a->aF a)(an:∀a us,aJ a->I a=Y (.list us)->Z a=Y (.list us)):f2 aF Z u Q:=d8 C λa e z g=>⟨a,e,f a z,an a _ z g⟩
variable{aB:Int×List (List Int)}
theorem lW.gx {p:Int×V}(C:lW aJ I p aB)(f:∀a,aJ a->aF a)(an:∀a us,aJ a->I a=Y (.list us)->Z a=Y (.list us)):lW aF Z p aB:= let⟨e,a,us,bv,z,g,r⟩:=C;⟨e,a,us,bv,f a z,an a _ z g,r.mono λq q aB=>aB.gx f an⟩
def iS (aJ:Addr->Prop)(I ay:aI):Addr->Prop:=λa=>aJ a\/(I a=am/\∃us,ay a=Y (.list us))
variable{aw:hs}{aY:iv}
theorem eQ.keep (C:eQ aJ aY I a0 aw)(k:ds (XL aJ aY) I Z):eQ aJ aY Z a0 aw:=by have an:∀a us,aJ a->I a=Y (.list us)->Z a=Y (.list us):=λa us z e=>k a _ (.inl z) e;exact⟨k _ _ (.inr<|.inl rfl) C.c6,a9 (C.cd) λrs a b=>⟨rs,k _ _ (.inr<|.inr<|.inl rfl) a,b.mono λq q X=>X.gx (λq z=>z) an⟩,a9 (C.c3) λus a b=>⟨us,k _ _ (.inl C.js) a,b.mono λq q X=>X.gx (λq z=>z) an⟩,C.js, a9 (C.bU) λaO a b=>⟨aO,k _ _ (.inr<|.inr<|.inr<|.inl rfl) a,b.mono λq q X=>X.gx (λq z=>z) an⟩,k _ _ (.inr<|.inr<|.inr<|.inr rfl) C.hd,k _ _ (.inl C.lH) C.a1,C.lH,C.pT,C.kX,C.rf,C.jt,C.ne,λa z=>dr (C.gI a z) λo e=>⟨o,k a o (.inl z) e⟩, λa ae al z e=>by obtain⟨o,a7⟩:=C.gI a z;have:=k a o (.inl z) a7;rw[e] at this;cases this;exact C.rO a ae al z a7⟩
theorem eQ.aV (C:eQ aJ aY I a0 aw):l3 I aY.R aw.aV:=a9 (C.cd) λrs a b=>⟨rs,a,b.mono λ_ _ ⟨x,e,_,g⟩=>⟨x,e,g⟩⟩
variable{b7:hs}
theorem eQ.step {dA:Addr}(C:eQ aJ aY I a0 b7)(F:Fr (ed aY) (ec aY) No I aN)(f:∀a,aJ a->aF a)(aX:∀a,aF a->aJ a\/(I a=am/\∃us,aN a=Y (.list us))) (c6:aN aY.O=Y (.fQ [("rows",.ref aY.R),("last",.ref dA),("kept",.ref aY.K)]))(cd:∃rs,aN aY.R=Y (.list rs)/\bY (f2 aF aN) rs aw.aV)(c3:∃us,aN dA=Y (.list us)/\bY (f2 aF aN) us aw.last)(js:aF dA)(bU:∃aO,aN aY.K=Y (.cP aO)/\bY (lW aF aN) aO aw.cA) (hd:aN aY.cu=Y (.list [.ref aY.cl,.int aw.cnt])):eQ aF {aY with L:=dA} aN a0 aw:=by
 have alive:∀a,(∃o,I a=Y o)->¬ aJ a->¬ aF a:=λa A z d=>dr A λo e=>by
  rcases aX a d with X|⟨X,_⟩
  ·exact z X
  ·replace e:=X▸e;exact bX e
 have dx:∀a us,aJ a->I a=Y (.list us)->aN a=Y (.list us):=λa us z e=>F.list e λX=>X.elim (λX=>C.kX<|X▸z) λX=>C.jt<|X▸z;refine bA λco aB=>a9 (C.cd) λrs c q=>a9 (C.bU) λaO b q=>aB<|⟨c6,cd,c3,js,bU,hd,dx _ _ C.lH C.a1,f _ C.lH,alive _ ⟨_,C.c6⟩ C.pT,alive _ ⟨_,c⟩ C.kX,alive _ ⟨_,b⟩ C.rf,alive _ ⟨_,C.hd⟩ C.jt,C.ne,λa z=>?_,λa ae al z e=>?_⟩
 ·rcases aX a z with X|bo
  ·obtain⟨o,e⟩:=C.gI a X;exact F.gI a o e
  ·refine vd bo λq us X=>?_;clear bo;exact⟨_,X⟩
 ·rcases aX a z with X|bo
  ·obtain⟨o,a7⟩:=C.gI a X;have U:wB (ed aY) (ec aY) No a o:=by
    cases o with
    |list us=>exact λbB=>bB.elim (λbB=>C.kX<|bB▸X) λbB=>C.jt<|bB▸X
    |cP al=>exact λbB=>bB.elim (λbB=>C.pT<|bB▸X) λbB=>C.rf<|bB▸X
    |fQ al=>exact λbB=>bB.elim (λbB=>C.pT<|bB▸X) λbB=>C.rf<|bB▸X
    |attrs ae al=>exact id
    |_=>trivial
   have:=F.keep a o a7 U;rw[e] at this;cases this;exact C.rO a ae al X a7
  ·refine vd bo λq us X=>?_;clear bo;replace X:=e▸X;cases X
theorem eQ.draw (C:eQ aJ aY I a0 aw)(u:Upd I aN aY.cu (.list [.ref aY.cl,.int (aw.cnt+1:Nat)])):eQ aJ aY aN a0 {aw with cnt:=aw.cnt+1}/\Fr (ed aY) (ec aY) No I aN:=by have F:Fr (ed aY) (ec aY) No I aN:=.mL u C.hd<|.inr rfl;have dx:∀a us,aJ a->I a=Y (.list us)->aN a=Y (.list us):=λa us z e=>F.list e λX=>X.elim (λX=>C.kX<|X▸z) λX=>C.jt<|X▸z;refine bA λco aB=>a9 (C.cd) λrs c g=>a9 (C.c3) λus j l=>a9 (C.bU) λaO b d=>aB<|⟨C.step (dA:=aY.L) F (λq z=>z) (λa z=> .inl z) ((u.ne<|gc C.c6 C.hd).trans C.c6) (bj rs ((u.ne C.ne).trans c)<|g.mono λq q X=>X.gx (λq z=>z) dx) (bj us (dx _ _ C.js j)<|l.mono λq q X=>X.gx (λq z=>z) dx) C.js (bj aO ((u.ne<|gc b C.hd).trans b)<|d.mono λq q X=>X.gx (λq z=>z) dx) u.at,F⟩
theorem eQ.ext (C:eQ aJ aY I a0 aw)(x:bF I aN):eQ (iS aJ I aN) aY aN a0 aw:=by have f:∀a,aJ a->iS aJ I aN a:=λq z=> .inl z;have dx:∀a us,aJ a->I a=Y (.list us)->aN a=Y (.list us):=λa us z e=>x _ _ e;exact bA λco aB=>a9 (C.cd) λrs c g=>a9 (C.c3) λus j l=>a9 (C.bU) λaO b d=>aB<|C.step (dA:=aY.L) (.cg x) f (λa z=>z) (x _ _ C.c6) (bj rs (x _ _ c)<|g.mono λq q X=>X.gx f dx) (bj us (x _ _ j)<|l.mono λq q X=>X.gx f dx) (f _ C.js) (bj aO (x _ _ b)<|d.mono λq q X=>X.gx f dx)<|x _ _ C.hd
theorem eQ.vu (C:eQ aJ aY I a0 aw)(u:Upd I aN aY.R (.list ai))(ax:bY (f2 aJ I) ai h):eQ aJ aY aN a0 {aw with aV:=h}/\Fr (ed aY) (ec aY) No I aN:=by refine bA λco aB=>a9 (C.cd) λrs c g=>?_;have F:Fr (ed aY) (ec aY) No I aN:=.mL u c<|.inl rfl;have dx:∀a us,aJ a->I a=Y (.list us)->aN a=Y (.list us):=λa us z e=>F.list e λX=>X.elim (λX=>C.kX<|X▸z) λX=>C.jt<|X▸z;exact a9 (C.c3) λus j l=>a9 (C.bU) λaO b d=>aB<|⟨C.step (dA:=aY.L) F (λq z=>z) (λa z=> .inl z) ((u.ne<|gc C.c6 c).trans C.c6) (bj ai u.at (ax.mono λq q X=>X.gx (λq z=>z) dx)) (bj us (dx _ _ C.js j)<|l.mono λq q X=>X.gx (λq z=>z) dx) C.js (bj aO ((u.ne<|gc b c).trans b)<|d.mono λq q X=>X.gx (λq z=>z) dx)<|(u.ne<|hT C.ne).trans C.hd,F⟩
theorem eQ.VO (C:eQ aJ aY I a0 aw)(u:Upd I aN aY.O (.fQ [("rows",.ref aY.R),("last",.ref ae),("kept",.ref aY.K)]))(i:aJ ae)(ap:I ae=Y (.list us))(ax:bY (f2 aJ I) us h):eQ aJ {aY with L:=ae} aN a0 {aw with last:=h}/\Fr (ed aY) (ec aY) No I aN:=by have F:Fr (ed aY) (ec aY) No I aN:=.upd u C.c6 λs=>s<|.inl rfl;have dx:∀a us,aJ a->I a=Y (.list us)->aN a=Y (.list us):=λa us z e=>F.list e λX=>X.elim (λX=>C.kX<|X▸z) λX=>C.jt<|X▸z;exact bA λco aB=>a9 (C.cd) λrs c g=>a9 (C.bU) λaO b d=>aB<|⟨C.step (dA:=ae) F (λq z=>z) (λa z=> .inl z) u.at (bj rs ((u.ne<|gc c C.c6).trans c)<|g.mono λq q X=>X.gx (λq z=>z) dx) (bj us (dx _ _ i ap)<|ax.mono λq q X=>X.gx (λq z=>z) dx) i (bj aO ((u.ne<|gc b C.c6).trans b)<|d.mono λq q X=>X.gx (λq z=>z) dx) ((u.ne<|gc C.hd C.c6).trans C.hd),F⟩
theorem Rs (aU:∃a us,u=.ref a/\aJ a/\I a=Y (.list us)/\bY (f2 aJ I) us h):∀{al:List (Int×V)} {b:List (Int×List (List Int))},bY (lW aJ I) al b->bY (lW aJ I) (hi pt u al) (hj pt h b):=by
 intro al b C;have ak:al.any (λf=>f.1=pt)=b.any (λf=>f.1=pt):=by
  induction al generalizing b with
  |nil=>cases b with|nil=>rfl|cons=>exact C.elim
  |cons p al B=>cases b with
   |nil=>exact C.elim
   |cons X b=>obtain⟨⟨e,_⟩,C⟩:=C;exact J oS<|J oS<|J (B C)<|J e rfl
 have ao:bY (lW aJ I) (al.map λf=>if f.1=pt then(f.1,u) else f) (b.map λf=>if f.1=pt then(f.1,h) else f):=by
  clear ak;induction al generalizing b with
  |nil=>cases b with|nil=>trivial|cons=>exact C.elim
  |cons p al B=>cases b with
   |nil=>exact C.elim
   |cons X b=>
    obtain⟨⟨e,aG⟩,C⟩:=C;refine⟨?_,B C⟩;refine(?_:lW aJ I (if p.1=pt then(p.1,u) else p) (if X.1=pt then(X.1,h) else X));by_cases bB:p.1=pt
    ·refine J (if_pos bB)<|J (if_pos<|e▸bB) ?_;exact⟨e,aU⟩
    ·refine J (if_neg bB)<|J (if_neg<|e▸bB) ?_;exact⟨e,aG⟩
 unfold hi hj;refine J ak ?_;split
 ·exact ao
 ·exact C.append ⟨⟨rfl,aU⟩,trivial⟩
theorem eQ.VM (C:eQ aJ aY I a0 aw)(U:I aY.K=Y (.cP aO))(u:Upd I aN aY.K (.cP<|hi pt (.ref ae) aO))(i:aJ ae)(ap:I ae=Y (.list us))(ax:bY (f2 aJ I) us h):eQ aJ aY aN a0 {aw with cA:=hj pt h aw.cA}/\Fr (ed aY) (ec aY) No I aN:=by have F:Fr (ed aY) (ec aY) No I aN:=.s5 u U<|.inr rfl;have dx:∀a us,aJ a->I a=Y (.list us)->aN a=Y (.list us):=λa us z e=>F.list e λX=>X.elim (λX=>C.kX<|X▸z) λX=>C.jt<|X▸z;refine bA λco aB=>a9 (C.cd) λrs c g=>a9 (C.c3) λls j l=>a9 (C.bU) λf b d=>aB ?_;replace b:=U▸b;cases b;exact⟨C.step (dA:=aY.L) F (λq z=>z) (λa z=> .inl z) ((u.ne<|gc C.c6 U).trans C.c6) (bj rs ((u.ne<|gc c U).trans c)<|g.mono λq q X=>X.gx (λq z=>z) dx) (bj ls (dx _ _ C.js j)<|l.mono λq q X=>X.gx (λq z=>z) dx) C.js ⟨_,u.at,(Rs ⟨ae,us,rfl,i,ap,ax⟩ d).mono λq q X=>X.gx (λq z=>z) dx⟩<|(u.ne<|gc C.hd U).trans C.hd,F⟩
theorem eG.Gn (C:eG ag aF I au ar aW bL last bO)(F:Fr L D No I aN)(c3:∀a,L a->aF a)(ax:∀a,D a->aF a)(bJ:∀a,aJ a->aF a\/I a=am)(ai:eJ aJ aN)(m:∀a ae al,aJ a->aN a≠Y (.attrs ae al)):eG ag aJ aN au ar aW bL last bO:=by
 have az:∀a,L a->dH ag bL aF a:=λa z=> .inr<|.inr<|c3 a z;have c:∀a,(∃o,I a=Y o)->¬ aF a->¬ aJ a:=λa A z d=>dr A λo e=>(bJ a d).elim z λX=>by replace e:=X▸e;exact bX e
 have f:∀a,dH ag bL aJ a->dH ag bL aF a\/aN a=am\/I a=am:=λa z=>by
  rcases z with z|z|z
  ·exact .inl<|.inl z
  ·exact .inl<|.inr<|.inl z
  ·exact(bJ a z).elim (λX=> .inl<|.inr<|.inr X) λX=> .inr<|.inr X
 have cd:=C.R.fr F az;have p:=C.G.fr F (λX=>C.ck<|ax _ X) az;have nm:∀{u:V} {Q:List (List Int)},eg (dH ag bL aF) I u Q->eg (dH ag bL aJ) aN u Q:=λ{u Q} ⟨a,us,bv,bE,dA,s⟩=>
  have g:∀b,(∃o,I b=Y o)->¬ dH ag bL aF b->¬ dH ag bL aJ b:=λb A z d=>dr A λo e=>by
   rcases d with d|d|d
   ·exact z<|.inl d
   ·exact z<|.inr<|.inl d
   ·exact(bJ b d).elim (λX=>z<|.inr<|.inr X) λX=>by replace e:=X▸e;exact bX e
  ⟨a,us,bv,g a ⟨_,dA⟩ bE,F.list dA λX=>bE<|az a X,s.mono λ_ _ ⟨b,w,l,j⟩=>⟨b,w,g b ⟨_,j⟩ l,F.list j λX=>l<|az b X⟩⟩
 refine a9 (C.G) λal i n=>?_;have h:∃o,I ag.cl=Y o:=C.D _<|.inl rfl;have v:∃o,I ag.ls=Y o:=⟨_,C.B.R.ap⟩;refine⟨C.B.fr F (λX=>C.bw<|c3 _ X) (λX=>C.bD<|c3 _ X) (λX=>C.bR<|ax _ X) id id id id,C.K,C.E.fr F (λX=>C.b4<|ax _ X) id id id,λa z=>?_,nm C.R,⟨al,F.cP i λX=>C.ck<|ax _ X,n.mono λ_ _ ⟨bv,t,r,bE,dA,s⟩=>⟨bv,t,r,bE,F.tup dA,nm s⟩⟩, C.N.fr F (λX=>C.cV<|ax _ X) id λa e X=>(C.cB a e).1<|c3 _ X,C.num,C.iY,C.nl,C.ex,C.ok,c _ h C.bD,c _ v C.bw,c _ ⟨_,C.B.R.hm.f7⟩ C.bR,c _ ⟨_,C.E.gu⟩ C.b4,c _ ⟨_,i⟩ C.ck,?_,λa e=>?_,m⟩
 ·rcases z with rfl|z|z
  ·exact dr h λo e=>F.gI _ o e
  ·obtain⟨o,e⟩:=C.D a<|.inr<|.inl z;exact F.gI _ o e
  ·exact ai a z
 ·rcases C.N with⟨e,_⟩|bo
  ·exact c _ ⟨_,e⟩ C.cV
  ·refine hh bo λr fV a us bG=>fT bG λq e q=>?_;clear bo;exact c _ ⟨_,e⟩ C.cV
 ·obtain⟨o,X⟩:=C.D a<|.inr<|.inl e;exact fT (C.cB a e) λak ao bp=>⟨c a ⟨o,X⟩ ak,ao,bp⟩
structure ct (ag:gR)(aJ:Addr->Prop)(W:iv)(I:aI)(a0:List Int)(T:hs)(S:fO):Prop where
 l:eQ aJ W I a0 T
 w:dM ag (XL aJ W) I S
theorem eQ.zJ (C:eQ aJ aY I a0 aw):eJ (XL aJ aY) I:=λa z=>by
 refine bA λco aB=>a9 (C.cd) λrs c g=>a9 (C.bU) λaO b d=>aB ?_;rcases z with z|rfl|rfl|rfl|rfl
 ·exact C.gI a z
 ·exact⟨_,C.c6⟩
 ·exact⟨_,c⟩
 ·exact⟨_,b⟩
 ·exact⟨_,C.hd⟩
theorem eQ.zI (C:eQ aJ aY I a0 aw):∀a ae al,XL aJ aY a->I a≠Y (.attrs ae al):=λa ae al z e=>by
 refine bA λco aB=>a9 (C.cd) λrs c g=>a9 (C.bU) λaO b d=>aB ?_;rcases z with z|rfl|rfl|rfl|rfl
 ·exact C.rO a ae al z e
 ·replace e:=C.c6▸e;cases e
 ·replace e:=c▸e;cases e
 ·replace e:=b▸e;cases e
 ·replace e:=C.hd▸e;cases e
theorem ct.to {aE:iv}(C:ct ag aJ aE I a0 b7 au)(F:Fr (ed aE) (ec aE) No I aN)(aG:eQ aF aY aN a0 aw)(bJ:∀a,XL aF aY a->XL aJ aE a\/I a=am):ct ag aF aY aN a0 aw au:=by
 refine bA λco aB=>?_;obtain⟨l,mk,aW,bL,last,bO,w⟩:=C;refine aB<|⟨aG,mk,aW,bL,last,bO,w.Gn F (λa X=>?_) (λa X=>?_) bJ aG.zJ aG.zI⟩
 ·exact X.elim (λX=> .inr<|.inr<|.inl X) λX=> .inr<|.inr<|.inr<|.inr X
 ·exact X.elim (λX=> .inr<|.inl X) λX=> .inr<|.inr<|.inr<|.inl X
theorem ct.ext (C:ct ag aJ aY I a0 aw au)(x:bF I aN):ct ag (iS aJ I aN) aY aN a0 aw au:= C.to (.cg x) (C.l.ext x) λa z=>by
  rcases z with(z|z)|z
  ·exact .inl<|.inl z
  ·exact .inr z.1
  ·exact .inl<|.inr z
theorem nb (H:ba c)(C:ct ag aJ aY I a0 aw au)(aq:a0.length<=1000)(E:aw.cnt<=10000)(hm:0<pt)(W:pt<1000000) (af:∀v Z,0<=v->v<pt->Fr (ed aY) (ec aY) No I Z->ct ag aJ aY Z a0 {aw with cnt:=aw.cnt+1} au->ad (.int v) Z):bk c 1 (.ref 1332) [.ref aY.cu,.int pt] ad I:= Go H C.l.hd C.l.a1 aq E hm W λv Z ak ao u=>dF (C.l.draw u) λd F=>af v Z ak ao F<|C.to F d λq z=> .inl z
noncomputable def chg (aE:List (List Int))(w:Str)(t j f l:Nat)(fg:Nat->List Int):List (List Int):=aE.mapIdx λi aM=>if t<=i/\i<t+j then hc w aM f l (fg i) else aM
noncomputable def ey (w:Str)(cs:List Int)(aQ:Int)(t b i:Nat):List Int:=if w="number" then qY (aQ+b -t+1) (aQ+i -t) else cs
variable{bd:Nat->List Int}
theorem NS:chg h w t 0 b l bd=h:=by
 unfold chg;refine oT λi=>J hq ?_;cases h[i]? with
 |none=>rfl
 |some r=>exact congrArg Y<|if_neg λX=>rC.mpr X.1 X.2
theorem tT:(chg h w t j b l bd).length=h.length:=by unfold chg;exact J k1 rfl
theorem NQ (C:h[t+j]?=Y aM):(chg h w t j b l bd)[t+j]?=Y aM:=by unfold chg;exact J hq<|J C<|congrArg Y<|if_neg λX=>nY _ X.2
theorem NR {f:Nat}{fg:Nat->List Int}(C:h[t+j]?=Y aM):chg h w t (j+1) f l fg=(chg h w t j f l fg).set (t+j) (hc w aM f l<|fg<|t+j):=by
 unfold chg;have G:=(e8.mp C).1;refine oT λi=>J hq ?_;by_cases X:t+j=i
 ·subst X;exact J (Jl<|by rw[k1];exact G)<|J C<|congrArg Y<|if_pos (by exact⟨hI<|.le aa<|.a aa ab,hI<|.lt (.a aa ab)<|.a aa<|.a ab aC⟩)
 ·refine J (JK X)<|J hq ?_;cases h[i]? with
  |none=>rfl
  |some r=>
   refine congrArg Y<|(?_:(if t<=i/\i<t+(j+1) then hc w r f l (fg i) else r)=(if t<=i/\i<t+j then hc w r f l (fg i) else r));by_cases ai:t<=i/\i<t+j
   ·exact J (if_pos<|by exact⟨bH (.le aa ab) [.le aa ab] ai.1,ch (.lt aa<|.a ab<|.a ah aC) [.lt aa<|.a ab ah] ai.2⟩)<|J (if_pos ai) rfl
   ·exact J (if_neg λz=>ai ⟨z.1,AF (Nat.le_of_lt_succ z.2) λe=>X e.symm⟩)<|J (if_neg ai) rfl
theorem Hf (ak: -3<=pt)(ao:pt<=200):pt.natAbs.log2<1920:=by have:=GX ak ao;have:pt.natAbs.log2<=200:=a5 (Ym _) this;exact cK (.lt aa<|.k 1920) [.le aa<|.k 200] this
theorem ct.setAt (B:ct ag aJ aY I a0 aw au)(cd:I aY.R=Y (.list us))(x:bF I ay)(aU:∃a,u=.ref a/\(aJ a\/I a=am)/\ay a=Y (.list<|br Q))(up:Upd ay aN aY.R (.list<|us.set i u)): ct ag (iS aJ I ay) aY aN a0 {aw with aV:=aw.aV.set i Q} au/\Fr (ed aY) (ec aY) No I aN:=by have al:=B.ext x;refine bA λco aB=>a9 (al.l.cd) λb e ax=>?_;replace e:=(x _ _ cd)▸e;cases e;refine d8 aU λa h aq aK=>?_;clear aU;subst h;have aL:f2 (iS aJ I ay) ay (.ref a) Q:=(dj a rfl (aq.imp id λX=>(nF X _ aK)) aK);obtain⟨N,bg⟩:=al.l.vu up<|ax.set aL i;exact aB<|⟨al.to bg N λq z=> .inl z,(Fr.cg x).trans bg⟩
theorem WB (C:t<=b)(bu:j<b+1 -t):t+j<=b:=by exact cn (.le (.a aa ab) ah) [.lt ab az,.sub az (.a ah aC) aa] bu rfl
theorem Ii (C:t<=b):((b:Int)+1 -t).toNat=b+1 -t:=by exact cn (.eq aa ab) [.fE aa<|.s (.a (.c ah) aC)<|.c az,.sub ab (.a ah aC) az] rfl rfl
theorem RI (H:ba c)(aR:w="string"\/w="number"\/w="open"\/w="clear"\/w="close"\/w="delete")(B:ct ag aJ aY I a0 b7 au)(Q:I b0=Y (.tup [.int t,.int b,.int i,.int l]))(an:I ae=Y (.list<|br A))(x:ae≠aY.R/\ae≠aY.cu) (bd:t<=b)(aA:b<b7.aV.length)(aq:b7.aV.length<=10000)(S:∀r∈b7.aV,r.length<=90000)(h:A.length<=1000)(o:i<=l)(ap:l<=90000)(F: -3<=aQ)(N:aQ+b -t+1<=200) (af:∀aF Z,Fr (ed aY) (ec aY) No I Z->ct ag aF aY Z a0 {b7 with aV:=chg b7.aV w t (b+1 -t) i l (ey w A aQ t b)} au->ad .none Z):bk c 3 (.ref 1382) [.ref aY.O,.str w,.ref b0,.ref ae,.int aQ] ad I:=by
 have v: -3<=aQ+b -t+1:=by clear af;exact jQ (.bW (.g<|.k 3)<|.a (.s (.a bh<|.c aa)<|.c ab) aC) [.le ab aa,.bW (.g<|.k 3) bh] bd F
 have D:(jT<|aQ+b -t+1).length<=3:=(qZ v N).2;have ao:b<=10000:=a5 (hp aA) aq;refine MQ (n:=2) H<|eE Q rfl ⟨Hf v N,jY D<|by decide,Vs (by clear af;exact gb<|.bW (.g<|.k 100000)<|.c aa) (by clear af;exact bH (.Lt (.c aa)<|.k 4611686018427387904) [.le aa ab,.le ab<|.k 10000] bd ao) (by clear af;exact gb<|.bW (.g<|.k 100000)<|.a (.c aa) aC) (by clear af;exact cK (.Lt (.a (.c aa) aC)<|.k 4611686018427387904) [.le aa<|.k 10000] ao) ?_⟩;let av:V:=.int (jT<|aQ+b -t+1).length;let aw:Nat->hs:=λj=>{b7 with aV:=chg b7.aV w t j i l (ey w A aQ t b)};let E:Nat->Addr×V->List V:=λq p=>[.ref aY.O,.str w,.ref b0,.ref p.1,.int aQ,.int b,.int i,p.2,.int l,.int t,av];let P:Nat->Addr×V->aI->Prop:=λj p Z=>(∃aF,Fr (ed aY) (ec aY) No I Z/\ct ag aF aY Z a0 (aw j) au)/\(w≠"number"->p.1=ae);refine xY E P (a:=(ae,.aD)) rfl ⟨(bj aJ (.cg .refl)<|by refine(?_:ct ag aJ aY I a0 {b7 with aV:=chg b7.aV w t 0 i l _} au);refine J NS ?_;exact B),λq=>rfl⟩ (λj p ay C bu=>?_) λp ay C=>?_
 ·obtain⟨aB,cm⟩:=p;obtain⟨⟨ai,bC,al⟩,bp⟩:=C;replace bu:=(Ii bd)▸bu;have ar:=WB bd bu;refine J (by rw[pY];rfl:(t:Int)+1*(j:Nat)=((t+j:Nat):Int)) ?_;have G:t+j<b7.aV.length:=jY ar aA;obtain⟨aM,a6⟩:∃aM,b7.aV[t+j]?=Y aM:=⟨_,eu G⟩;have aP:=S aM<|d1 a6;have go:∀{d:Addr} {aN:aI},bF ay aN->aN d=Y (.list<|br<|ey w A aQ t b<|t+j)->(w≠"number"->d=ae)->(ey w A aQ t b<|t+j).length<=100000-> wt (x8 (d5 c 2 ad) (fM (E<|j+1)<|P<|j+1) bM) [.ref aY.O,.str w,.ref b0,.ref d,.int aQ,.int b,.int i,.int (t+j:Nat),.int l,.int t,av] [] aN:=λ{d aN} a3 aE az aO=>by have aj:=al.ext a3;refine bA λco aB=>?_;refine a9 (aj.l.cd) λrs cd ax=>?_;refine ig (ax.get<|NQ a6) λu aU a bt a7 aK=>?_;subst bt;refine aB ?_;have bl:=ax.length;replace bl:=tT▸bl;have bv:rs.length<=100000:=bl▸a5 aq (by decide);refine⟨(H.f 120),fS aj.l.c6 rfl<|cU (k:=t+j) cd aU (fd bv)<|ca<|RO H aR aK aE (a5 aP<|by decide) aO o (a5 ap<|by decide) λaG M K ak m=>?_⟩;refine fS (K _ _ aj.l.c6) rfl<|dZ (k:=t+j) (K _ _ cd) (bl▸G) (fd bv) λbz bf=>?_;obtain⟨aL,a2⟩:=aj.setAt cd K (dj aG rfl (ak.elim (λX=> .inl<|by refine J X ?_;exact a7) .inr) m) bf;exact fM.mk (E:=E<|j+1) (P:=P<|j+1) (d,.int (t+j:Nat)) ⟨(bj _ (bC.trans<|(Fr.cg a3).trans a2)<|NR (w:=w) (f:=i) (l:=l) (fg:=ey w A aQ t b) a6▸aL),az⟩
  refine eqs<|db (λaX=>?_) λaX=>?_
  ·clear aR;subst aX;have T: -3<=aQ+(t+j:Nat) -t:=by clear af go;exact jQ (.bW (.g<|.k 3)<|.s (.a bh<|.c<|.a aa ab)<|.c aa) [.bW (.g<|.k 3) bh] F
   have W:aQ+(t+j:Nat) -t<=200:=by clear af go;exact ow (.bW (.s (.a bh<|.c<|.a aa ab)<|.c aa)<|.k 200) [.bW (.a (.s (.a bh<|.c ah)<|.c aa) aC)<|.k 200,.le (.a aa ab) ah] N ar
   have U:=yJ (w:=aQ+b -t+1) (n:=aQ+(t+j:Nat) -t) T W v N;have am:(mz (aQ+b -t+1)<|aQ+(t+j:Nat) -t).length<=7:=U.2;refine⟨Hf T W,rfl,fl.mpr<|jY D (by decide:3<1000),jY (qZ T W).2<|by decide,p3 (by decide:(-1000:Int)<0)<|mR _,?_⟩;refine(?_:e5 (.str<|q1 (jT<|aQ+(t+j:Nat) -t) ((jT<|aQ+b -t+1).length:Int)) _ _ _);refine J TY ?_;change srcOf (.str<|mz (aQ+b -t+1)<|aQ+(t+j:Nat) -t) _ _/\(mz (aQ+b -t+1)<|aQ+(t+j:Nat) -t).length<=_;refine⟨⟨?_,vh (by refine J eI ?_;exact a5 am<|by decide) λe M aH=>go aH.ext aH.at (λX=>(X rfl).elim) (by unfold ey qY d0;refine J (if_pos rfl)<|J (fx _) ?_;exact a5 am<|by decide)⟩,by refine J eI ?_;exact a5 am<|by decide⟩;refine bm Jt<|mJ rr ?_;intro y L;have:=U.1 y L;simp;clear af go;exact cK (.lt aa<|.k 128) [.lt aa<|.k 127] this.2
  ·have e:ey w A aQ t b (t+j)=A:=if_neg aX;have:=bp aX;subst this;exact go .refl (by refine J e ?_;exact bC.list an λX=>X.elim x.1 x.2) bp (by refine J e ?_;exact a5 h<|by decide)
 ·obtain⟨⟨ai,bC,al⟩,-⟩:=C;replace al:=(Ii bd)▸al;exact af _ _ bC al
theorem SE (P:Nat->List V->aI->Prop)(h0:P 0 ai I)(ap:∀k ai I,P k ai I->I a=Y (.list us)) (U:∀k ai I u,P k ai I->us[k]?=Y u->B (pN [i,j] [.int k,u] ai) (iC (P<|k+1) dJ) I)(he:∀ai I,P us.length ai I->dJ .next ai I):tz a i j B dJ ai I:=by refine(fv (λk ai I=>k<=us.length/\P k ai I) us.length ⟨dU _,h0⟩ λk ai I A=>dF A λan C=>(⟨us,(ap _ _ _ C),rfl,an,(λe=>he _ _<|e▸C),(λu aU=>?_)⟩));have G:=(e8.mp aU).1;have bd:(k+1<=us.length)=True:=eq_true G;exact u1 (U k ai I u C aU) _ λb d aN=>by cases b<;>simp[bd,iC]
noncomputable def dn (aE:List (List Int))(i j:Nat)(bB:List (List Int)):List (List Int):=aE.take i++(bB.mapIdx λn p=>eU (aE[i+n]?.getD []) j p)++aE.drop (i+bB.length)
theorem q3 {bB:List (List Int)}(a4:i<=h.length)(n:Nat):(dn h i j bB)[n]?=if n<i then h[n]? else if n<i+bB.length then(bB[n -i]?).map λp=>eU (h[n]?.getD []) j p else h[n]?:=by
 unfold dn;refine J (en _ _ _)<|J v8<|J cF<|J (dG a4) ?_;by_cases ak:n<i
 ·exact J (if_pos ak)<|J (if_pos ak)<|J oZ<|J (if_pos ak) rfl
 ·refine J (if_neg ak)<|J (if_neg ak)<|J v8<|J k1 ?_;by_cases ao:n<i+bB.length
  ·exact J (if_pos ao)<|J (if_pos<|by exact cn (.lt aa ab) [.es ah az,.lt ah<|.a az ab,.sub aa ah az] ak ao rfl)<|J hq<|J (by exact ch (.eq (.a aa ab) ah) [.es ah aa,.sub ab ah aa] ak rfl:i+(n -i)=n) rfl
  ·exact J (if_neg ao)<|J (if_neg<|by exact cn (.es aa ab) [.es ah<|.a az ab,.sub aa ah az] ao rfl)<|J JH<|J (by exact de (.eq (.a (.a aa ab) ah) az) [.es az<|.a aa ab,.sub ah a8 ab,.sub a8 az aa] ao rfl rfl:i+bB.length+(n -i -bB.length)=n) rfl
theorem sV {bB:List (List Int)}(a4:i<=h.length):(dn h i j bB).length=max h.length (i+bB.length):=by unfold dn;refine J bK<|J bK<|J cF<|J k1<|J dz ?_;exact e3 (.eq (.a (.a aa ab) ah) az) [.le a8 bS,.e4 az bS<|.a a8 ab,.sub ah bS<|.a a8 ab,.cN aa a8 bS] a4 rfl rfl rfl
theorem vm:dn h i j []=h:=by unfold dn;simp
theorem UU (a4:i<h.length)(aP:bg[b]?=Y A): dn h i j (bg.take<|b+1)=(if i+b=(dn h i j<|bg.take b).length then dn h i j (bg.take b)++[[]] else dn h i j (bg.take b)).set (i+b) (eU (h[i+b]?.getD []) j A):=by
 have an:=(e8.mp aP).1;have v:(bg.take<|b+1).length=b+1:=by refine J cF ?_;exact ch (.eq aa<|.a ab aC) [.lt ab ah,.cN aa (.a ab aC) ah] an rfl
 have iY:(bg.take b).length=b:=by refine J cF ?_;exact ch (.eq aa ab) [.lt ab ah,.cN aa ab ah] an rfl
 have ap:=sV (j:=j) (bB:=bg.take b)<|hp a4;rw[iY] at ap;refine oT λn=>?_;refine J (q3 (hp a4) _)<|J v<|J YW ?_;by_cases aX:i+b=n
 ·refine bm aX ?_;rw[if_neg<|by exact hI<|.es (.a aa ab) aa,if_pos<|by exact hI<|.lt (.a aa ab)<|.a aa<|.a ab aC,if_pos rfl,show i+b -i=b by exact ch (.eq aa ab) [.sub aa (.a ah ab) ah] rfl,oZ,if_pos<|by exact gb<|.lt aa<|.a aa aC,aP,if_pos]
  ·rfl
  ·split
   ·refine J bK<|J fe<|J ju ?_;exact ch (.lt (.a aa ab)<|.a ah<|.a b1 aC) [.eq (.a aa ab) ah] ‹_›
   ·exact de (.lt (.a aa ab) ah) [.eq ah az,.ne (.a aa ab) ah,.e4 az a8<|.a aa ab] ap ‹_› rfl
 ·refine J (if_neg aX) ?_;have g:(if i+b=(dn h i j<|bg.take b).length then dn h i j (bg.take b)++[[]] else dn h i j (bg.take b))[n]?=(dn h i j<|bg.take b)[n]?:=by
   split
   ·rename_i C;refine J v8 ?_;split
    ·rfl
    ·exact J (nL<|by simp;exact de (.le aC aa) [.ne (.a ab ah) az,.eq (.a ab ah) a8,.es az a8,.sub aa az a8] aX C ‹_› rfl)<|J (nL<|by exact bH (.le aa ab) [.es ab aa] ‹_›) rfl
   ·rfl
  refine J g<|J (q3 (hp a4) _)<|J iY ?_;by_cases ak:n<i
  ·exact J (if_pos ak)<|J (if_pos ak) rfl
  ·refine J (if_neg ak)<|J (if_neg ak) ?_;by_cases ao:n<i+b
   ·exact J (if_pos ao)<|J (if_pos<|by exact ch (.lt aa<|.a ab<|.a ah aC) [.lt aa<|.a ab ah] ao)<|J oZ<|J oZ<|J (if_pos<|by exact cn (.lt aa<|.a ab aC) [.lt ah<|.a az ab,.sub aa ah az] ao rfl)<|J (if_pos<|by exact cn (.lt aa ab) [.es ah az,.lt ah<|.a az ab,.sub aa ah az] ak ao rfl) rfl
   ·exact J (if_neg ao)<|J (if_neg<|by exact ch (.es aa<|.a ab<|.a ah aC) [.ne (.a ab ah) aa,.es aa<|.a ab ah] aX ao) rfl
theorem ct.VQ {ga:List (List Int)}(B:ct ag aJ aY I a0 aw au)(x:bF I ay)(up:Upd ay aN aY.R (.list us))(ax:bY (f2 (iS aJ I ay) ay) us ga): ct ag (iS aJ I ay) aY aN a0 {aw with aV:=ga} au/\Fr (ed aY) (ec aY) No I aN:=by have al:=B.ext x;obtain⟨N,bg⟩:=al.l.vu up ax;exact⟨al.to bg N λq z=> .inl z,(Fr.cg x).trans bg⟩
theorem T2 (C:I a=Y (.list us))(ap:I ae=Y (.list []))(bw:a≠ae)(af:ad (.bool<|decide<|us=[]) I):oEq (.ref a) (.ref ae) ad I:=by
 refine(eV (1) _ (kN<|.le aC<|.k 20) ?_ af);clear af;cases us with
 |nil=>exact .sF (λq=>true) bw C ap rfl (λj u w C=>bX C) rfl
 |cons u us=>exact .of (.len bw C ap λX=>(by cases X)) rfl
theorem RD (E:Nat->av->List V)(P:Nat->av->aI->Prop){a:av}(e:ai=E 0 a)(h0:P 0 a I)(ap:∀k a I,P k a I->I ae=Y (.list us)) (U:∀k a I u,P k a I->us[k]?=Y u->B (pN [i,j] [.int k,u]<|E k a) (iC (fM (E<|k+1)<|P<|k+1) dJ) I)(he:∀a I,P us.length a I->dJ .next (E us.length a) I):tz ae i j B dJ ai I:= SE (λk=>fM (E k)<|P k) (bj a e h0) (λk q I A=>a9 A λa q C=>ap k a I C) (λk q I u A aU=>a9 A λa e C=>e▸U k a I u C aU) λq I A=>a9 A λa e C=>e▸he a I C
theorem UG (a6:us[b -1]?=Y u)(e:us.length=b)(aP:0<b)(aq:us.length<=100000):item (.list us) (.int (-1)) u:=⟨by unfold pick;refine J (if_neg<|by decide)<|J (if_pos<|by exact bH (.bW (.g<|.c aa)<|.g aC) [.eq aa ab,.lt b1 ab] e aP)<|J (by exact cn (.eq aa ab) [.eq ah az,.fE aa<|.a (.g aC)<|.c ah,.sub ab az aC] e rfl rfl:((-1:Int)+us.length).toNat=b -1) ?_;exact a6,by exact cK (.lt aa<|.k 4611686018427387904) [.le aa<|.k 100000] aq⟩
theorem Gr (H:ba c)(B:ct ag aJ aY I a0 b7 au)(ta:aJ ae)(ax:I ae=Y (.list us))(bb:bY (f2 aJ I) us h)(h0:b7.aV≠[])(aq:b7.aV.length<=5000)(bu:(aT b7.aV).length<=50000)(aK:bc<=(aT b7.aV).length)
  (bo:h.length<=1000)(b2:∀p∈h,p.length<=1000)
  (af:∀aF Z i j aM,b7.aV[i]?=Y aM->j<=aM.length->bc=cw 0 b7.aV i+j->Fr (ed aY) (ec aY) No I Z->ct ag aF aY Z a0 {b7 with aV:=dn b7.aV i j h} au->
   ad (.int (if h=[] then bc else cw 0 (dn b7.aV i j h) (i+h.length -1)+(j+(h.getLastD []).length):Nat)) Z):bk c 2 (.ref 1389) [.ref aY.O,.ref ae,.int bc] ad I:=by
 have S:=bb.length
 have ai:b7.aV.length<=10000:=a5 aq (by decide)
 have aQ:us.length<=100000:=S▸a5 bo (by decide)
 have b3:∀{m:Nat},(b7.aV[m]?.getD []).length<=50000:=λ{m}=>by
  cases X:b7.aV[m]? with
  |none=>exact dU _
  |some y=>exact a5 (iX<|d1 X) bu
 refine MX (n:=1) H ⟨(H.f 115),fS B.l.c6 rfl<|ca<|uR H B.l.aV h0 ai (a5 bu<|by decide) aK λt ay i j aM av q aR ar aZ bx=>eE bx rfl ?_⟩
 have al:=B.ext av
 have a4:i<b7.aV.length:=(e8.mp aR).1
 have b8:ae≠aY.R:=λX=>B.l.kX<|X▸ta
 have bd:ae≠aY.cu:=λX=>B.l.jt<|X▸ta
 have a1:j<=50000:=a5 ar<|a5 (iX<|d1 aR) bu
 let aw:Nat->hs:=λk=>{b7 with aV:=dn b7.aV i j (h.take k)}
 let E:Nat->V×V×V->List V:=λq p=>[.ref aY.O,.ref ae,.int bc,.int j,p.1,.int i,p.2.1,p.2.2]
 let P:Nat->V×V×V->aI->Prop:=λk q Z=>∃aF,Fr (ed aY) (ec aY) No I Z/\ct ag aF aY Z a0 (aw k) au
 refine RD E P (us:=us) (a:=(.aD,.aD,.aD)) rfl (bj _ (.cg av)<|by refine(?_:ct ag _ aY ay a0 {b7 with aV:=dn b7.aV i j (h.take 0)} au);refine J nS<|J vm ?_;exact al) (λk p Z A=>a9 A λq F q=>F.list ax λX=>X.elim b8 bd) (λk p aN u C aU=>?_) λp aN C=>?_
 ·obtain⟨bH,cl,cm⟩:=p
  refine bA λco aB=>?_
  refine a9 C λa7 bg aj=>?_;clear C
  refine ig (bb.get' aU) λp aP oG bt bw bZ=>?_;clear aU;subst bt
  refine aB ?_
  have bR:=b2 p<|d1 aP
  have g0:∀{Z:aI},Fr (ed aY) (ec aY) No I Z->Z oG=Y (.list<|br p):=λF=>F.list bZ λX=>X.elim (λX=>B.l.kX<|X▸bw) λX=>B.l.jt<|X▸bw
  have an:=(e8.mp aP).1
  have iY:(h.take k).length=k:=List.length_take_of_le<|hp an
  have bL:=sV (j:=j) (bB:=h.take k)<|hp a4
  rw[iY] at bL
  have ao:(dn b7.aV i j<|h.take k).length<=6000:=by clear af;exact e3 (.le aa<|.k 6000) [.le ab<|.k 5000,.le ah<|.k 1000,.lt az ab,.lt a8 ah,.eq aa bS,.e4 bS ab<|.a az a8] aq bo a4 an bL rfl
  refine a9 (aj.l.cd) λrs cd bv=>?_
  have bl:rs.length=(dn b7.aV i j<|h.take k).length:=bv.length
  --bC aM is there,then
  have go:∀{b5:Addr->Prop} {M:aI} {W:List (List Int)},Fr (ed aY) (ec aY) No I M->ct ag b5 aY M a0 {b7 with aV:=W} au->W=(if i+k=(dn b7.aV i j<|h.take k).length then dn b7.aV i j (h.take k)++[[]] else dn b7.aV i j (h.take k))->W[i+k]?=Y (b7.aV[i+k]?.getD [])->W.length<=10000->
    wu (x8 (d5 c 1 ad) (fM (E<|k+1)<|P<|k+1) Bz) [.ref aY.O,.ref ae,.int bc,.int j,.int k,.int i,cl,.ref oG] [] M:=λ{b5 M W} bF aG U x cj=>by
   refine bA λco aB=>?_
   refine a9 (aG.l.cd) λce be b9=>?_
   refine ig (b9.get x) λv a6 b bt cn aA=>?_;subst bt
   refine aB ?_
   have aW:ce.length=W.length:=b9.length
   have cb:ce.length<=100000:=aW▸a5 cj (by decide)
   have cf:=(e8.mp x).1
   have b0:(pad (b7.aV[i+k]?.getD []) j).length<=100000:=mC (a5 b3<|by decide)<|a5 a1 (by decide)
   refine⟨(H.f 119),fS aG.l.c6 rfl<|cU (k:=i+k) be a6 (fd cb)<|ca<|Gp H aA (a5 b3<|by decide) (a5 a1<|by decide) λo bz bn no aO=>up (k:=j) aO (dN b0) λd bN aS fb hd=>?_⟩
   refine eC hd (aS _ _<|bn _ _<|g0 bF) (q8 a1) bR rfl λg bM bE bO bJ=>kt (k:=j) (bE _ _<|aS _ _ aO) (dN b0) λX bQ bi sJ ap=>eC (bi _ _ bJ) ap (jc (q8 a1) bR) (eh b0) rfl λy bV bD ck L=>?_
   have b4:=(((bn.trans aS).trans bE).trans bi).trans bD
   refine fS (b4 _ _ aG.l.c6) rfl<|dZ (k:=i+k) (b4 _ _ be) (aW▸cf) (fd cb) λbW bX=>?_
   obtain⟨bT,bP⟩:=aG.setAt (Q:=eU (b7.aV[i+k]?.getD []) j p) be b4 (dj y rfl (.inr<|bn.none<|aS.none<|bE.none<|bi.none ck) L) bX
   have b6:dn b7.aV i j (h.take<|k+1)=W.set (i+k) (eU (b7.aV[i+k]?.getD []) j p):=by exact J (UU a4 aP)<|bm U rfl
   exact fM.mk (E:=E<|k+1) (P:=P<|k+1) (.int k,.ref o,.ref oG)<|bj _ (bF.trans bP)<|b6▸bT
  refine fS aj.l.c6 rfl<|li cd (fd<|bl▸a5 ao (by decide))<|Fa<|db (p:=((i:Int)+k=(rs.length:Nat))) (λhe=>?_) λhe=>?_
  ·have w:i+k=(dn b7.aV i j<|h.take k).length:=(YJ.mp he).trans bl
   refine fS aj.l.c6 rfl ⟨ty_list cd,cv rfl,λl M aH=>(dj rs (aH.ext _ _ cd) (by refine J eI<|J bl ?_;exact a5 ao<|by decide) λbz bf=>?_)⟩
   obtain⟨aL,a2⟩:=aj.VQ (ga:=dn b7.aV i j (h.take k)++[[]]) aH.ext bf<|(bv.mono λq q X=>X.gx (λq z=> .inl z) λa us q e=>aH.ext _ _ e).append ⟨(dj l rfl (.inr<|nF aH.1 _ aH.at) aH.at),trivial⟩
   refine go (bg.trans a2) aL (if_pos w).symm ?_<|a5 (jc (n:=1) ao<|c1 1) (by decide)
   have a3:b7.aV[i+k]?=am:=nL (by refine J w<|J bL ?_;exact AI ..)
   refine J a3<|J w<|J (vO<|c1 _)<|J (rt _) ?_;rfl
  ·have w:¬ i+k=(dn b7.aV i j<|h.take k).length:=λX=>he (YJ.mpr<|X.trans bl.symm)
   have G:i+k<b7.aV.length:=by clear af go;exact e3 (.lt (.a aa ab) ah) [.eq az a8,.eq bS az,.Ne (.a (.c aa)<|.c ab)<|.c bS,.e4 a8 ah<|.a aa ab] bL bl he rfl
   refine go bg aj (if_neg w).symm ?_<|a5 ao (by decide)
   refine J (q3 (hp a4) _)<|J iY<|J (if_neg<|rC.mpr<|nU ..)<|J (if_neg<|nY _)<|J (eu G) ?_;rfl
 ·refine a9 C λa7 bg C=>?_
  have aj:ct ag a7 aY aN a0 {b7 with aV:=dn b7.aV i j h} au:=by
   change ct ag a7 aY aN a0 {b7 with aV:=dn b7.aV i j (h.take us.length)} au at C
   rwa[S,k0] at C
  have K:aN ae=Y (.list us):=bg.list ax λX=>X.elim b8 bd
  refine⟨cv rfl,λl M aH=>T2 (aH.ext _ _ K) aH.at (cQ K aH.1) (db (λhe=>?_) λhe=>?_)⟩
  ·subst he
   have D:h=[]:=YK S.symm
   have:=af _ M i j aM aR ar aZ (bg.trans<|.cg aH.ext)<|aj.ext aH.ext
   rw[if_pos D] at this
   exact this
  ·have D:h≠[]:=λX=>he (YK<|by refine J S<|J X ?_;rfl)
   have dA:0<h.length:=rz.mpr D
   have aG:=aj.ext aH.ext
   have bF:=bg.trans<|.cg aH.ext
   have bG:=aH.ext _ _ K
   obtain⟨p,aP⟩:∃p,h[h.length -1]?=Y p:=⟨_,eu<|Yh dA Nat.one_pos⟩
   refine bA λco aB=>?_
   refine ig (bb.get aP) λv a6 oG bt bw bZ=>?_;subst bt
   refine aB ?_
   have bR:=b2 p<|d1 aP
   have ci:M oG=Y (.list<|br p):=bF.list bZ λX=>X.elim (λX=>B.l.kX<|X▸bw) λX=>B.l.jt<|X▸bw
   have bU:item (.list us) (.int (-1)) (.ref oG):=UG a6 S dA aQ
   have T:h.getLastD []=p:=by refine J AK<|J ru<|J aP ?_;rfl
   have bL:=sV (j:=j) (bB:=h)<|hp a4
   have ao:(dn b7.aV i j h).length<=6000:=by clear af;exact de (.le aa<|.k 6000) [.le ab<|.k 5000,.le ah<|.k 1000,.lt az ab,.eq aa a8,.e4 a8 ab<|.a az ah] aq bo a4 bL rfl
   refine⟨(H.f 116),fS aG.l.c6 rfl<|li bG (fd aQ)<|d3<|dP<|ii bG bU<|li ci (F1 (n:=0)<|a5 bR<|by decide)<|d3 ?_⟩
   refine J (by rw[S];clear af;exact ch (.Eq (.s (.a (.c aa)<|.c ab) aC)<|.c ah) [.lt b1 ab,.sub ah (.a aa ab) aC] dA rfl:(i:Int)+(us.length:Nat) -1=((i+h.length -1:Nat):Int)) ?_
   refine ca<|Gq H (aE:=dn b7.aV i j h) aG.l.aV (by clear af;exact cK (.le aa<|.k 10000) [.le aa<|.k 6000] ao) ?_ (by clear af;exact e3 (.le aa ab) [.eq ab ah,.sub aa (.a az a8) aC,.e4 ah bS<|.a az a8] bL rfl rfl) λbz bn=>?_
   ·intro y L
    obtain⟨n,aX⟩:=tt L
    rw[q3<|hp a4] at aX
    have cc:∀{m:Nat} {z:List Int},b7.aV[m]?=Y z->z.length<=100000:=λ{m z} X=>a5 (iX<|d1 X)<|a5 bu (by decide)
    split at aX
    ·exact cc aX
    ·split at aX
     ·refine a9 (hS.mp aX) λN bI bh=>?_;refine bm bh ?_
      have ak:=b2 N<|d1 bI
      have bp:(pad (b7.aV[n]?.getD []) j).length<=50000:=by refine J oH ?_;exact tl.mpr ⟨b3,a1⟩
      unfold eU
      refine J bK<|J bK<|J (p7 _ _ _)<|bm bK<|J (ho _ _) ?_
      exact a5 (nQ bp ak) (by decide)
     ·exact cc aX
   ·have:=af _ bz i j aM aR ar aZ (bF.trans<|.cg bn) (aG.ext bn)
    rw[if_neg D,T] at this
    refine J e1 ?_
    exact this
def Raw (u:V):Prop:=u=.none\/u=.int 4\/u=.int (-3)
theorem Raw.plain (C:Raw u):u.plain:=by rcases C with rfl|rfl|rfl<;>trivial
theorem Gd {k:Int}:∀{al:List (Int×V)} {b:List (Int×List (List Int))},bY (lW aJ I) al b->(b.lookup k=am->al.lookup k=am)/\∀aE,b.lookup k=Y aE->∃a us,al.lookup k=Y (.ref a)/\aJ a/\I a=Y (.list us)/\bY (f2 aJ I) us aE:=by
 intro D;induction D with
 |nil=>
  intro f;cases f with
  |nil=>intro o;exact⟨λq=>rfl,λq C=>by exact bX C⟩
  |cons _ _=>intro d;first|exact d.elim|cases d
 |cons c al B=>
  intro f;obtain⟨cz,u⟩:=c;cases f with
  |nil=>intro d;first|exact d.elim|cases d
  |cons i b=>
   intro g;obtain⟨cM,v⟩:=i;obtain⟨⟨e,aG⟩,C⟩:=g;have B:=B C;change cz=cM at e;refine bm e<|J g4<|J g4 ?_;cases X:k==cz with
   |true=>refine⟨(λz=>by exact gB z),λaE z=>?_⟩;cases z;refine bA λco aB=>cS aG λa us bE dA s aO=>?_;clear aG;exact aB<|(gd a us (by exact J (show u=.ref a from bE) rfl) dA s aO)
   |false=>exact B
def At (aE:List (List Int))(bc i j:Nat):Prop:=∃aM,aE[i]?=Y aM/\j<=aM.length/\bc=cw 0 aE i+j
noncomputable def hv (aE:List (List Int))(bc i j:Nat)(bB:List (List Int)):Nat:=if bB=[] then bc else cw 0 (dn aE i j bB) (i+bB.length -1)+(j+(bB.getLastD []).length)
def Due (aJ:Addr->Prop)(I:aI)(u:V):Bool->Prop
 |false=>u=.none
 |true=>∃e m,u=.ref e/\aJ e/\aJ m/\I e=Y (.list [.str "user-error",.ref m])/\I m=Y (.list [.str "Register does not contain text"])
structure io (T:hs):Prop where
 h0:T.aV≠[]
 ax:(aT T.aV).length<=4000
 aX:T.aV.length<=150
 ap:T.last.length<=1000/\∀p∈T.last,p.length<=1000
 dx:T.cA.length<=1000
 an:∀k bB,T.cA.lookup k=Y bB->bB.length<=1000/\∀p∈bB,p.length<=1000
theorem zc (h0:h≠[]):h.length<=(aT h).length+1:=by
 have:=nu h0;have C:∀l:List (List Int),l.length<=(l.map λr=>r.length+1).sum:=λl=>by
  induction l with
  |nil=>simp
  |cons x l B=>refine J fe<|J hQ<|J p6 ?_;exact ch (.le (.a aa aC)<|.a (.a ab aC) ah) [.le aa ah] B
 have:=C h;exact ch (.le aa<|.a ab aC) [.eq (.a ab aC) ah,.le aa ah] ‹_› this
theorem RN (H:ba c)(B:ct ag aJ aY I a0 aw au)(bD:io aw)(aq:(aT aw.aV).length<=4000)(aK:bc<=(aT aw.aV).length)(A:Raw bn)
 (af:∀aF Z dy e,aw.cA.lookup pt=am->Fr (ed aY) (ec aY) No I Z->ct ag aF aY Z a0 aw au->Z dy=Y (.tup [.int bc,.none,.ref e])->Due aF Z (.ref e) true->ad (.ref dy) Z)
 (ap:∀aF Z dy bB i j,aw.cA.lookup pt=Y bB->At aw.aV bc i j->Fr (ed aY) (ec aY) No I Z->ct ag aF aY Z a0 {aw with aV:=dn aw.aV i j bB} au-> Z dy=Y (.tup [.int (if bn.isNone then bc else hv aw.aV bc i j bB:Nat),.int (if bn.isNone then hv aw.aV bc i j bB else bc:Nat),.none])->ad (.ref dy) Z):
 bk c 3 (.ref 1396) [.ref aY.O,.int pt,.int bc,bn] ad I:=by
 refine a9 (B.l.bU) λaO bU U=>?_
 obtain⟨cz,cM⟩:=Gd (k:=pt) U
 refine MY (n:=2) H<|fS B.l.c6 rfl<|ie (b:=(aO.lookup pt).isSome) bU rfl ?_
 cases X:aw.cA.lookup pt with
 |none=>refine J (cz X)<|⟨cv rfl,λm ay n₁=>⟨cv rfl,λe aN o=>⟨cv rfl,λdy M aH=>?_⟩⟩⟩;have x:=(n₁.ext.trans o.ext).trans aH.ext;exact af _ M dy e X (.cg x) (B.ext x) aH.at (rb e m rfl (.inr<|nF (n₁.ext.none o.1) _<|aH.ext _ _ o.at) (.inr<|nF n₁.1 _<|aH.ext _ _<|o.ext _ _ n₁.at) (aH.ext _ _ o.at)<|aH.ext _ _<|o.ext _ _ n₁.at)
 |some bB=>
  refine bA λco aB=>cS (cM bB X) λa us bv a7 ak bb=>?_;obtain⟨aE,d⟩:=bD.an _ _ X;refine aB ?_;have bl:aw.aV.length<=5000:=a5 (zc bD.h0)<|a5 (hR aq) (by decide);refine J bv<|⟨(H.f 122),fS B.l.c6 rfl<|pr bU bv<|ca<|Gr H B a7 ak bb bD.h0 bl (a5 aq<|by decide) aK aE d λaF ay i j aM aR ar aZ bC al=>?_⟩;refine lz A.plain<|Hi A.plain<|EF (λ(C:bn.isNone=true)=>⟨cv rfl,λdy aN o=>?_⟩) λ(C:bn.isNone=false)=>⟨cv rfl,λdy aN o=>?_⟩
  ·exact ap _ aN dy bB i j X (dj aM aR ar aZ) (bC.trans<|.cg o.ext) (al.ext o.ext) (by refine J C ?_;exact o.at)
  ·exact ap _ aN dy bB i j X (dj aM aR ar aZ) (bC.trans<|.cg o.ext) (al.ext o.ext) (by refine J C ?_;exact o.at)
structure eP (aE:List (List Int))(s e t b f l:Nat):Prop where
 le:s<=e
 he:e<=(aT aE).length
 Za:rE aE s e t b f l
noncomputable def i1 (W:iv)(w:Str)(bc e6:Nat)(b0:Addr)(s e:Nat)(one fV:Nat)(bn:V)(cE:Int):List V:=[.ref W.cu,.ref W.O,.str w,.int bc,.int e6,.aD,.ref b0,.aD,.aD,.int<|(s:Int)+1,.int<|(e:Int)+1,.aD,.int one,.int fV,.aD,bn,.int cE,.aD]
theorem rE.hJ (C:rE h i e t b j l):rE h (min i e) (max i e) t b j l:=by refine bA λco aB=>hh C λo g u d bG=>sQ bG λlf c q n f m s=>?_;clear C;exact aB<|⟨o,g,u,d,lf,c,q,n,by refine bm f ?_;exact de (.eq aa ab) [.cN aa ab ah,.e4 ah az a8,.cN ab az a8] rfl rfl rfl,by refine bm m ?_;exact de (.eq aa ab) [.e4 aa ah ab,.e4 ab az a8,.cN ah az a8] rfl rfl rfl,s⟩
theorem Ks (H:ba c)(B:ct ag aJ aY I a0 aw au)(bD:io aw)(aO:a0.length<=1000)(E:aw.cnt<=5000)(aq:(aT aw.aV).length<=4000)(U:e6=(aT aw.aV).length) (C:∀aF Z b0 s e t b f l one fV bn cE,Fr (ed aY) (ec aY) No I Z->ct ag aF aY Z a0 {aw with cnt:=aw.cnt+4} au->eP aw.aV s e t b f l->Z b0=Y (.tup [.int (t:Nat),.int (b:Nat),.int (f:Nat),.int (l:Nat)])->Raw bn->(cE=97\/cE=98)-> kA (d5 c 3 ad) (i1 aY w bc e6 b0 s e one fV bn cE) [] Z):bk c 4 (.ref 1401) [.ref aY.cu,.ref aY.O,.str w,.int bc,.int e6] ad I:=by
 have d:∀{k:Nat},k<=5->aw.cnt+k<=10000:=λan=>a5 (nQ E an) (by decide);have aP:aw.aV.length<=10000:=a5 bD.aX (by decide);have x:(aT aw.aV).length<=100000:=a5 aq (by decide);have ar:0<(e6:Int)+1/\(e6:Int)+1<1000000:=by clear C;exact⟨gb<|.Lt b1<|.a (.c aa) aC,bH (.Lt (.a (.c aa) aC)<|.k 1000000) [.le ab<|.k 4000,.eq aa ab] aq U⟩
 refine MP (n:=3) H ⟨(H.f 113),d3<|ca<|nb H B aO (d (k:=0)<|by decide) ar.1 ar.2 λaW ay aS aK bC al=>⟨(H.f 113),d3<|ca<|nb H al aO (d (k:=1)<|by decide) ar.1 ar.2 λp aN bl bB bg aj=>?_⟩⟩;obtain⟨one,rfl⟩:=oU aS;obtain⟨fV,rfl⟩:=oU bl;refine⟨cv rfl,λg M aH=>⟨(H.f 113),ca<|nb H (aj.ext aH.ext) aO (d (k:=2)<|by decide) (by decide) (by decide) λK bz bP o a2 aL=>?_⟩⟩;obtain⟨dh,rfl⟩:=oU bP;have bI:bz g=Y (.list [.none,.int 4,.int (-3)]):=a2.list aH.at λX=>X.elim (λX=>by obtain⟨rs,e,_⟩:=aj.l.cd;replace e:=aH.1▸(dp X)▸e;exact bX e) λX=>by have e:=aj.l.hd;replace e:=aH.1▸(dp X)▸e;exact bX e
 obtain⟨bn,G,A⟩:∃u,([.none,.int 4,.int (-3)]:List V)[dh]?=Y u/\Raw u:=by
  rcases dh with _|_|_|dh
  ·exact(bj _ rfl<|.inl rfl)
  ·exact(bj _ rfl<|.inr<|.inl rfl)
  ·exact(bj _ rfl<|.inr<|.inr rfl)
  ·clear C;lia
 refine cU (k:=dh) bI G (da rfl) ⟨cv rfl,λv bN y=>eE y.at rfl ?_⟩;have D:=aL.ext y.ext;have ak:one<=(aT aw.aV).length:=U▸dL.mp (JI.mp aK);have ao:fV<=(aT aw.aV).length:=U▸dL.mp (JI.mp bB);refine⟨(H.f 117),fS D.l.c6 rfl<|ca<|RJ H D.l.aV bD.h0 aP x ak ao λb0 bM t b f l bE N q Q=>?_⟩;have ai:=D.ext bE;refine⟨(H.f 113),ca<|nb H ai aO (d (k:=3)<|by decide) (by decide) (by decide) λL bQ bq J bK j=>?_⟩;refine d3 ⟨cv rfl,λh bV am=>eE am.at rfl (u4 (m:=(min one fV:Nat)) yR<|d3<|sG (m:=(max one fV:Nat)) yQ<|d3 ⟨cv rfl,λi bW aZ=>eE aZ.at rfl ?_⟩)⟩;have F:Fr (ed aY) (ec aY) No I bW:=bC.trans<|bg.trans<|(Fr.cg aH.ext).trans<|a2.trans<|(Fr.cg<|y.ext.trans bE).trans<|bK.trans<|.cg<|am.ext.trans aZ.ext;exact C _ bW b0 (min one fV) (max one fV) t b f l one fV bn (97+L) F (j.ext<|am.ext.trans aZ.ext) ⟨a5 (nP ..)<|AI ..,tl.mpr ⟨ak,ao⟩,q.hJ⟩ (aZ.ext _ _<|am.ext _ _<|bK.tup Q) A (by clear C;lia)
theorem Ev {aE:List (List Int)}(C:i<=j)(bu:j<=aE.length):cw 0 aE i<=cw 0 aE j:=by
 induction j with
 |zero=>refine J (Yt.mp C) ?_;exact c1 _
 |succ j B=>
  rcases YL i (j+1) with X|X
  ·have:=B (by exact bH (.le aa ab) [.lt aa<|.a ab aC] X) (by exact bH (.le aa ab) [.le (.a aa aC) ab] bu);have ao:=oc (lo:=0)<|eu (by exact bH (.lt aa ab) [.le (.a aa aC) ab] bu:j<aE.length);exact cn (.le aa ab) [.le aa ah,.eq ab<|.a (.a ah az) aC] this ao
  ·refine J (by exact bH (.eq aa<|.a ab aC) [.le aa<|.a ab aC,.le (.a ab aC) aa] C X:i=j+1) ?_;exact c1 _
theorem eP.facts (C:eP h i e t b j l):t<=b/\b<h.length/\j<=l/\l<=(aT h).length/\i<=(aT h).length:=by
 refine bA λco aB=>?_;obtain⟨ak,ao,o,g,u,d,lf,c,q,n,f,m,s,p⟩:=C;refine aB ?_;have bd:=(e8.mp lf).1;have aA:=(e8.mp c).1;have v:=iX<|d1 lf;have w:=iX<|d1 c;refine⟨?_,aA,by exact e3 (.le aa ab) [.eq aa ah,.eq ab az,.cN ah a8 bS,.e4 az a8 bS] s p rfl rfl,by exact RT (.le aa ab) [.le ah az,.le az ab,.eq a8<|.a bS dQ,.eq ht<|.a n7 ql,.eq aa tB,.e4 tB dQ ql,.e4 ht ah az,.cN a8 ah az] ak ao f m p rfl rfl rfl,by exact ch (.le aa ab) [.le aa ah,.le ah ab] ak ao⟩;rcases YL b t with X|X
 ·have bp:=Ev (aE:=h) (X:b+1<=t)<|bH (.le aa ab) [.lt aa ab] bd;have bI:=oc (lo:=0) c;exact RU (.le aa ab) [.le ah az,.eq a8<|.a bS dQ,.eq ht<|.a n7 ah,.le ql bS,.eq ql<|.a (.a n7 az) aC,.cN a8 tB AZ,.e4 ht tB AZ] n f m bp bI rfl rfl
 ·exact X
noncomputable def ib (aE:List (List Int))(t b f l:Nat):List (List Int):=((aE.take<|b+1).drop t).map λr=>kb r f l
noncomputable def dc (w:Str)(cs:List Int)(aQ:Int)(aE:List (List Int))(t b f l:Nat):List (List Int):=chg aE w t (b+1 -t) f l<|ey w cs aQ t b
noncomputable abbrev hE (s e:Nat):List V:=[.int<|(s:Int)+1,.int<|(e:Int)+1]
inductive ip (T:hs)(bc:Nat):Str->List (List Int)->List (List Int)->List (Int×List (List Int))->Addr->List V->V->V->Bool->Prop
 |hn {i j:Nat}:At T.aV bc i j->ip T bc "yank" (dn T.aV i j T.last) T.last T.cA 800 [] (.int (hv T.aV bc i j T.last:Nat)) (.int bc) false
 |refused {cE:Int} {bn:V}:Raw bn->(cE=97\/cE=98)->T.cA.lookup cE=am->ip T bc "insert" T.aV T.last T.cA 765 [.int cE,bn] (.int bc) .none true
 |insert {cE:Int} {bn:V} {bB:List (List Int)} {i j:Nat}:Raw bn->(cE=97\/cE=98)->T.cA.lookup cE=Y bB->At T.aV bc i j->
   ip T bc "insert" (dn T.aV i j bB) T.last T.cA 765 [.int cE,bn] (.int (if bn.isNone then bc else hv T.aV bc i j bB:Nat)) (.int (if bn.isNone then hv T.aV bc i j bB else bc:Nat)) false
 |copy {s e t b f l:Nat}:eP T.aV s e t b f l->ip T bc "copy" T.aV (ib T.aV t b f l) T.cA 786 (hE s e) .none .none false
 |kill {s e t b f l:Nat}:eP T.aV s e t b f l->ip T bc "kill" (dc "delete" [] 0 T.aV t b f l) (ib T.aV t b f l) T.cA 779 (hE s e) .none .none false
 |delete {s e t b f l:Nat}:eP T.aV s e t b f l->ip T bc "delete" (dc "delete" [] 0 T.aV t b f l) T.last T.cA 793 (hE s e) .none .none false
 |register {s e t b f l:Nat} {cE:Int} {bn:V}:eP T.aV s e t b f l->Raw bn->(cE=97\/cE=98)->
   ip T bc "register" (if bn.isNone then T.aV else dc "delete" [] 0 T.aV t b f l) T.last (hj cE (ib T.aV t b f l) T.cA) 772 (.int cE::(hE s e++[bn])) .none .none false
 |string {s e t b f l:Nat} {x:Str}:eP T.aV s e t b f l->(x=""\/x="x"\/x="yz")->
   ip T bc "string" (dc "string" (d0 x) 0 T.aV t b f l) T.last T.cA 828 (hE s e++[.str x]) (.int (cw 0 (dc "string" (d0 x) 0 T.aV t b f l) b+(f+x.length):Nat)) .none false
 |number {s e t b f l:Nat} {bn:V} {aQ:Int}:eP T.aV s e t b f l->(bn=.none/\aQ=1\/(bn=.int aQ/\(aQ=4\/aQ= -3)))->
   ip T bc "number" (dc "number" [] aQ T.aV t b f l) T.last T.cA 835 (hE s e++[bn]) .none .none false
 |open{s e t b f l:Nat}:eP T.aV s e t b f l->ip T bc "open" (dc "open" [] 0 T.aV t b f l) T.last T.cA 807 (hE s e) (.int s) .none false
 |clear{s e t b f l:Nat}:eP T.aV s e t b f l->ip T bc "clear" (dc "clear" [] 0 T.aV t b f l) T.last T.cA 814 (hE s e) .none .none false
 |close {s e t b f l:Nat}:eP T.aV s e t b f l->ip T bc "close" (dc "close" [] 0 T.aV t b f l) T.last T.cA 821 (hE s e) .none .none false
def jw (ag:gR)(W:iv)(a0:List Int)(T:hs)(S:fO)(w:Str)(bc:Nat)(ad:V->aI->Prop)(I:aI):Prop:= ∀aJ dA Z dy eM ga t af i cR al pt mk C ak,Fr (ed W) (ec W) No I Z->ct ag aJ {W with L:=dA} Z a0 ⟨ga,t,af,i⟩ S->i<=T.cnt+1->aJ eM->Z eM=Y (.list al)->Z dy=Y (.tup [.ref cR,.ref eM,pt,mk,C])->Due aJ Z C ak-> ip T bc w ga t af cR al pt mk ak->ad (.ref dy) Z
theorem jw.fin {dA:Addr}{aw:hs}(P:jw ag aY a0 b7 au w bc ad I)(F:Fr (ed aY) (ec aY) No I ay)(B:ct ag aJ {aY with L:=dA} ay a0 ⟨h,bg,af,b⟩ au)(a1:b<=b7.cnt+1) (n:dI ay aN ae (.list us))(dO:dI aN Z a (.tup [.ref cl,.ref ae,ar,aS,u]))(hd:u=.none/\cL=false)(D:ip b7 bc w h bg af cl us ar aS cL):ad (.ref a) Z:=by obtain⟨rfl,rfl⟩:=hd;exact P _ dA Z a ae h bg af b cl us ar aS _ false (F.trans<|.cg<|n.ext.trans dO.ext) (B.ext<|n.ext.trans dO.ext) a1 (.inr<|nF n.1 _<|dO.ext _ _ n.at) (dO.ext _ _ n.at) dO.at rfl D
theorem Kr {c:cG}{S:fO}{e bc s fV e6 one:Nat}{ag:gR}{I:aI}{aJ:Addr->Prop}{b0:Addr}{W:iv}{T:hs}{a0:List Int}{bn:V}{cE:Int}{ad:V->aI->Prop}(H:ba c)(B:ct ag aJ W I a0 T S)(bD:io T)(aq:(aT T.aV).length<=4000)(aK:bc<=(aT T.aV).length)(P:jw ag W a0 T S "yank" bc ad I):kA (d5 c 3 ad) (i1 W "yank" bc e6 b0 s e one fV bn cE) [] I:=by have bl:=zc bD.h0;refine a9 (B.l.c3) λus c3 bb=>?_;refine eqs<|jV rfl<|bx (H.f 122)<|fS B.l.c6 rfl<|ca<|Gr H B B.l.js c3 bb bD.h0 (by exact bH (.le aa<|.k 5000) [.le ab<|.k 4000,.le aa<|.a ab aC] aq bl) (by exact cK (.le aa<|.k 50000) [.le aa<|.k 4000] aq) aK bD.ap.1 bD.ap.2 λQ ay i j aM aR ar aZ bC al=>bx (cv rfl) λeM aN o=>bx (cv rfl) λdy M aH=>?_;exact P.fin (dA:=W.L) (aw:=T) bC al (g5 _) o aH ⟨rfl,rfl⟩<|.hn<|dj aM aR ar aZ
theorem Km {c:cG}{S:fO}{e bc s fV e6 one:Nat}{ag:gR}{I:aI}{aJ:Addr->Prop}{b0:Addr}{W:iv}{T:hs}{a0:List Int}{bn:V}{cE:Int}{ad:V->aI->Prop}(H:ba c)(B:ct ag aJ W I a0 T S)(bD:io T)(aq:(aT T.aV).length<=4000)(aK:bc<=(aT T.aV).length)(A:Raw bn)(ar:cE=97\/cE=98)(P:jw ag W a0 T S "insert" bc ad I):kA (d5 c 3 ad) (i1 W "insert" bc e6 b0 s e one fV bn cE) [] I:=by
 refine eqs<|cr (by decide)<|eqs<|jV rfl<|bx (H.f 123)<|lz (u:=bn) A.plain<|ca<|RN H B bD aq aK A (λQ ay dy e ap bC al bd hd=>eE bd rfl<|lz (u:=bn) A.plain<|bx (cv rfl) λeM aN o=>bx (cv rfl) λa M aH=>?_) λQ ay dy bB i j ap aQ bC al bd=>eE bd rfl<|lz (u:=bn) A.plain<|bx (cv rfl) λeM aN o=>bx (cv rfl) λa M aH=>?_
 ·have x:=o.ext.trans aH.ext;refine bA λco aB=>?_;refine gZ hd λa7 m X D bh ak ao=>?_;clear hd;refine aB ?_;cases X;exact P _ W.L M a eM T.aV T.last T.cA T.cnt _ _ _ _ _ true (bC.trans<|.cg x) (al.ext x) (g5 _) (.inr<|nF o.1 _<|aH.ext _ _ o.at) (aH.ext _ _ o.at) aH.at (rb _ m rfl (.inl D) (.inl bh) (x _ _ ak)<|x _ _ ao) (.refused A ar ap)
 ·exact P.fin (dA:=W.L) (aw:=T) bC al (g5 _) o aH ⟨rfl,rfl⟩<|.insert A ar ap aQ
theorem fresh_ne {aE:O}(C:I a=Y aE)(n:I ae=am):ae≠a:=λX=>by replace n:=C▸X▸n;exact gB n
theorem ct.apart (B:ct ag aJ aY I a0 aw au)(n:I a=am):a≠aY.R/\a≠aY.cu:=by exact a9 (B.l.cd) λrs cd q=>⟨fresh_ne cd n,fresh_ne B.l.hd n⟩
theorem ct.HL (B:ct ag aJ aY I a0 aw au)(x:bF I ay)(na:I a=am)(aK:ay a=Y (.list us))(bb:bY (gf I ay) us h)(u:Upd ay aN aY.O (.fQ [("rows",.ref aY.R),("last",.ref a),("kept",.ref aY.K)])): ct ag (iS aJ I ay) {aY with L:=a} aN a0 {aw with last:=h} au/\Fr (ed aY) (ec aY) No I aN:=by have al:=B.ext x;obtain⟨N,bg⟩:=al.l.VO u (.inr ⟨na,_,aK⟩) aK<|bb.mono λ_ _ ⟨b,e,n,g⟩=>⟨b,e,.inr ⟨n,_,g⟩,g⟩;exact⟨al.to bg N λq z=> .inl z,(Fr.cg x).trans bg⟩
theorem ct.VN (B:ct ag aJ aY I a0 aw au)(x:bF I ay)(na:I a=am)(aK:ay a=Y (.list us))(bb:bY (gf I ay) us h)(U:I aY.K=Y (.cP aO))(u:Upd ay aN aY.K (.cP<|hi pt (.ref a) aO)): ct ag (iS aJ I ay) aY aN a0 {aw with cA:=hj pt h aw.cA} au/\Fr (ed aY) (ec aY) No I aN:=by have al:=B.ext x;obtain⟨N,bg⟩:=al.l.VM (x _ _ U) u (.inr ⟨na,_,aK⟩) aK<|bb.mono λ_ _ ⟨b,e,n,g⟩=>⟨b,e,.inr ⟨n,_,g⟩,g⟩;exact⟨al.to bg N λq z=> .inl z,(Fr.cg x).trans bg⟩
def wd (aE:List (List Int)):Prop:=(aT aE).length<=4000/\aE.length<=150
theorem io.m7 (C:io aw):wd aw.aV:=⟨C.ax,C.aX⟩
theorem xE (H:ba c)(B:ct ag aJ aY I a0 aw au)(bD:wd aw.aV)(bi:eP aw.aV j e t b i l)(d:I b0=Y (.tup [.int (t:Nat),.int (b:Nat),.int (i:Nat),.int (l:Nat)])) (af:∀a us Z,bF I Z->I a=am->Z a=Y (.list us)->bY (gf I Z) us (ib aw.aV t b i l)->ad (.ref a) Z):bk c 1 (.ref 1363) [.ref aY.R,.ref b0] ad I:=by refine gy (bi.facts) λak ao bp bI c9=>?_;have:=bD.1;exact RK H B.l.aV (by have:=bD.2;exact cK (.le aa<|.k 10000) [.le aa<|.k 150] this) (λr ax=>by have:=iX ax;exact bH (.le aa<|.k 100000) [.le ab<|.k 4000,.le aa ab] ‹_› this) (by have:=bD.2;exact bH (.le aa<|.k 10000) [.lt aa ab,.le ab<|.k 150] ao this) (bH (.le aa<|.k 100000) [.le aa ab,.le ab<|.k 4000] bI this) bp d af
theorem qw {T:hs}(H:ba c)(aR:w="string"\/w="number"\/w="open"\/w="clear"\/w="close"\/w="delete")(B:ct ag aJ aY I a0 T au)(bD:wd T.aV)(bi:eP T.aV j e t b i l)(d:I b0=Y (.tup [.int (t:Nat),.int (b:Nat),.int (i:Nat),.int (l:Nat)])){cs:List Int}(an:I a=Y (.list<|br cs))(x:a≠aY.R/\a≠aY.cu)(h:cs.length<=1000)(F: -3<=aQ)(N:aQ<=4) (af:∀aF Z,Fr (ed aY) (ec aY) No I Z->ct ag aF aY Z a0 {T with aV:=dc w cs aQ T.aV t b i l} au->ad .none Z):bk c 3 (.ref 1382) [.ref aY.O,.str w,.ref b0,.ref a,.int aQ] ad I:=by refine gy (bi.facts) λak ao bp bI c9=>?_;have:=bD.1;have:=bD.2;exact RI H aR B d an x ak ao (cK (.le aa<|.k 10000) [.le aa<|.k 150] this) (λr ax=>by have:=iX ax;exact bH (.le aa<|.k 90000) [.le ab<|.k 4000,.le aa ab] ‹_› this) h bp (bH (.le aa<|.k 90000) [.le aa ab,.le ab<|.k 4000] bI ‹_›) F (ow (.bW (.a (.s (.a bh<|.c aa)<|.c ab) aC)<|.k 200) [.bW bh<|.k 4,.lt aa ah,.le ah<|.k 150] N ao this) af
noncomputable def t1:List (Str×V):=[("copy",.ref 786),("kill",.ref 779),("delete",.ref 793),("open",.ref 807),("clear",.ref 814),("close",.ref 821)]
theorem Eh {c:cG}{S:fO}{e bc s fV e6 one:Nat}{ag:gR}{I ay:aI}{aJ:Addr->Prop}{b0:Addr}{W:iv}{T:hs}{a0:List Int}{bn:V}{cE:Int}{ad:V->aI->Prop}{w:Str}{cR dA:Addr}{ga t:List (List Int)}{af:List (Int×List (List Int))}{i:Nat}(P:jw ag W a0 T S w bc ad I)(F:Fr (ed W) (ec W) No I ay)(B:ct ag aJ {W with L:=dA} ay a0 ⟨ga,t,af,i⟩ S)(a1:i<=T.cnt+1) (ap:t1.lookup w=Y (.ref cR))(D:ip T bc w ga t af cR (hE s e) (if w="open" then .int s else .none) .none false):ws (d5 c 3 ad) (i1 W w bc e6 b0 s e one fV bn cE) [] ay:=by
 refine bx (by decide) λd aN o=>fS o.at ap (bx (cv rfl) λeM M aH=>eqs<|db (λaR=>dP<|bx (cv rfl) λdy bz be=>?_) λaR=>bx (cv rfl) λdy bz be=>?_)
 ·have O:w="open":=aR;replace D:=(if_pos O)▸D;have b:dI M bz dy (.tup [.ref cR,.ref eM,.int s,.none,.none]):=by
   have bv:(s:Int)+1 -1=s:=by clear P;exact gb<|.Eq (.s (.a (.c aa) aC) aC)<|.c aa
   have:=be;change dI M bz dy (.tup [.ref cR,.ref eM,.int<|(s:Int)+1 -1,.none,.none]) at this;rwa[bv] at this
  exact P.fin (dA:=dA) (aw:=T) (F.trans<|.cg o.ext) (B.ext o.ext) a1 aH b ⟨rfl,rfl⟩ D
 ·have O:¬ w="open":=aR;replace D:=(if_neg O)▸D;exact P.fin (dA:=dA) (aw:=T) (F.trans<|.cg o.ext) (B.ext o.ext) a1 aH be ⟨rfl,rfl⟩ D
theorem wO {dA:Addr}(P:jw ag aY a0 aw au w bc ad I)(F:Fr (ed aY) (ec aY) No I ay)(B:ct ag aJ {aY with L:=dA} ay a0 ⟨h,bg,af,l⟩ au)(a1:l<=aw.cnt+1) (ak:w≠"register")(ao:w≠"string")(bp:w≠"number")(bI:["open","clear","close"].any (· ==w)=false) (ap:t1.lookup w=Y (.ref a))(D:ip aw bc w h bg af a (hE t e) .none .none false):rL (d5 c 3 ad) (i1 aY w bc e6 b0 t e j i bn pt) [] ay:=by
 have c9:w≠"open":=λX=>by subst X;revert bI;decide
 refine eqs<|cr ak<|eqs<|cr ao<|eqs<|cr bp<|bx (cv rfl) λv aN o=>ie (b:=false) o.at (bj (["open","clear","close"]) rfl bI.symm) (fg ?_);exact Eh P (F.trans<|.cg o.ext) (B.ext o.ext) a1 ap (by refine J (if_neg c9) ?_;exact D)
theorem Kk (H:ba c)(B:ct ag aJ aY I a0 aw au)(bD:io aw)(bi:eP aw.aV j e t b i l)(d:I b0=Y (.tup [.int (t:Nat),.int (b:Nat),.int (i:Nat),.int (l:Nat)]))(P:jw ag aY a0 aw au "copy" bc ad I):kA (d5 c 3 ad) (i1 aY "copy" bc e6 b0 j e cnt bf bn pt) [] I:=by refine eqs<|cr (by decide)<|eqs<|cr (by decide)<|bx (cv rfl) λv ay n₁=>ie (b:=true) n₁.at (bj (["copy","kill"]) rfl<|by decide) (r0 ?_);have al:=B.ext n₁.ext;refine bx (H.f 118)<|fS al.l.c6 rfl<|ca<|xE H al bD.m7 bi (n₁.ext _ _ d) λa us aN a3 na aK bb=>ss (a3 _ _ al.l.c6) (cv rfl) λM o=>?_;obtain⟨aG,bF⟩:=al.HL a3 na aK bb o;have F:=(Fr.cg (L:=ed aY) (D:=ec aY) (ae:=No) n₁.ext).trans bF;refine eqs<|cr (by decide)<|bx (cv rfl) λh bz be=>ie (b:=false) be.at (bj (["kill","delete"]) rfl<|by decide) (fg<|eqs<|cr (by decide)<|(?_));exact wO P (F.trans<|.cg be.ext) (aG.ext be.ext) (g5 _) (by decide) (by decide) (by decide) (by decide) rfl<|.copy bi
theorem Kn {c:cG}{S:fO}{b e bc f t s fV e6 one l:Nat}{ag:gR}{I:aI}{aJ:Addr->Prop}{b0:Addr}{W:iv}{T:hs}{a0:List Int}{bn:V}{cE:Int}{ad:V->aI->Prop}(H:ba c)(B:ct ag aJ W I a0 T S)(bD:io T)(bi:eP T.aV s e t b f l)(d:I b0=Y (.tup [.int (t:Nat),.int (b:Nat),.int (f:Nat),.int (l:Nat)]))(P:jw ag W a0 T S "kill" bc ad I):kA (d5 c 3 ad) (i1 W "kill" bc e6 b0 s e one fV bn cE) [] I:=by refine eqs (cr (by decide) (eqs (cr (by decide) (bx (cv rfl) λv ay n₁=>ie (b:=true) n₁.at (bj (["copy","kill"]) rfl (by decide)) (r0 ?_)))));have al:=B.ext n₁.ext;refine bx (H.f 118) (fS al.l.c6 rfl (ca (xE H al bD.m7 bi (n₁.ext _ _ d) λa us aN a3 na aK bb=>ss (a3 _ _ al.l.c6) (cv rfl) λM o=>?_)));obtain⟨aG,bF⟩:=al.HL a3 na aK bb o;have F:=(Fr.cg (L:=ed W) (D:=ec W) (ae:=No) n₁.ext).trans bF;refine eqs (cr (by decide) (bx (cv rfl) λh bz be=>ie (b:=true) be.at (bj (["kill","delete"]) rfl (by decide)) (r0 (?_))));have aL:=aG.ext be.ext;have a2:=F.trans (.cg be.ext);refine bx (H.f 121) (bx (cv rfl) λk bN y=>ca (qw H (aY:={W with L:=a}) (T:={T with last:=ib T.aV t b f l}) (.inr (.inr (.inr (.inr (.inr rfl))))) (aL.ext y.ext) (cs:=[]) bD.m7 bi (y.ext _ _ (a2.tup d)) y.at (by exact⟨fresh_ne (aL.l.cd.choose_spec.1) y.1,fresh_ne aL.l.hd y.1⟩) (by decide) (by decide) (by decide) λQ bM a1 ai=>?_));exact wO P (a2.trans ((Fr.cg y.ext).trans a1)) ai (g5 _) (by decide) (by decide) (by decide) (by decide) rfl (.kill bi)
theorem Kl (H:ba c)(B:ct ag aJ aY I a0 aw au)(bD:io aw)(bi:eP aw.aV j e t b i l)(d:I b0=Y (.tup [.int (t:Nat),.int (b:Nat),.int (i:Nat),.int (l:Nat)]))(P:jw ag aY a0 aw au "delete" bc ad I):kA (d5 c 3 ad) (i1 aY "delete" bc e6 b0 j e cnt bf bn pt) [] I:=by refine eqs<|cr (by decide)<|eqs<|cr (by decide)<|bx (cv rfl) λv ay n₁=>ie (b:=false) n₁.at (bj (["copy","kill"]) rfl<|by decide) (fg ?_);refine eqs<|cr (by decide)<|bx (cv rfl) λh bz be=>ie (b:=true) be.at (bj (["kill","delete"]) rfl<|by decide) (r0<|?_);have x:=n₁.ext.trans be.ext;have aL:=B.ext x;refine bx (H.f 121)<|bx (cv rfl) λk bN y=>ca<|qw H (.inr<|.inr<|.inr<|.inr<|.inr rfl) (aL.ext y.ext) (cs:=[]) bD.m7 bi (y.ext _ _<|x _ _ d) y.at (aL.apart y.1) (by decide) (by decide) (by decide) λQ bM a1 ai=>?_;exact wO (dA:=aY.L) P ((Fr.cg<|x.trans y.ext).trans a1) ai (g5 _) (by decide) (by decide) (by decide) (by decide) rfl<|.delete bi
theorem Kp {c:cG}{S:fO}{b e bc f t s fV e6 one l:Nat}{ag:gR}{I:aI}{aJ:Addr->Prop}{b0:Addr}{W:iv}{T:hs}{a0:List Int}{bn:V}{cE:Int}{ad:V->aI->Prop}(H:ba c)(B:ct ag aJ W I a0 T S)(bD:io T)(bi:eP T.aV s e t b f l)(d:I b0=Y (.tup [.int (t:Nat),.int (b:Nat),.int (f:Nat),.int (l:Nat)]))(A:Raw bn)(ar:cE=97\/cE=98)(P:jw ag W a0 T S "register" bc ad I):kA (d5 c 3 ad) (i1 W "register" bc e6 b0 s e one fV bn cE) [] I:=by
 refine eqs<|cr (by decide)<|eqs<|cr (by decide)<|bx (cv rfl) λv ay n₁=>ie (b:=false) n₁.at (bj (["copy","kill"]) rfl<|by decide) (fg ?_);have al:=B.ext n₁.ext;refine a9 (al.l.bU) λaO bU U=>?_;have x:aO.length=T.cA.length:=U.length;refine eqs<|jV rfl<|bx (H.f 118)<|fS al.l.c6 rfl<|ca<|xE H al bD.m7 bi (n₁.ext _ _ d) λa us aN a3 na aK bb=>fS (a3 _ _ al.l.c6) rfl<|sZ (a3 _ _ bU) ?_ λM o=>?_
 ·have:=bD.dx;refine J x<|J eI ?_;exact cK (.le aa<|.k 16777216) [.le aa<|.k 1000] this
 obtain⟨aG,bF⟩:=al.VN a3 na aK bb bU o;have F:=(Fr.cg (L:=ed W) (D:=ec W) (ae:=No) n₁.ext).trans bF;have fin:∀Q bz ga,Fr (ed W) (ec W) No I bz->ct ag Q W bz a0 {T with cA:=hj cE (ib T.aV t b f l) T.cA,aV:=ga} S->ga=(if bn.isNone then T.aV else dc "delete" [] 0 T.aV t b f l)-> rL (d5 c 3 ad) (i1 W "register" bc e6 b0 s e one fV bn cE) [] bz:=λQ bz ga a2 aL aX=>by refine eqs<|jV rfl<|lz (u:=bn) A.plain<|bx (cv rfl) λeM bN y=>bx (cv rfl) λdy bM aR=>?_;exact P.fin (dA:=W.L) (aw:=T) a2 aL (g5 _) y aR ⟨rfl,rfl⟩<|aX▸.register bi A ar
 refine bx (cv rfl) λh bz be=>ie (b:=false) be.at (bj (["kill","delete"]) rfl<|by decide) (fg<|eqs<|jV rfl<|lz (u:=bn) A.plain<|sT A.plain<|EF (λ(C:(!bn.isNone)=true)=>(?_)) λ(C:(!bn.isNone)=false)=>(?_))
 ·have aL:=aG.ext be.ext;have a2:=F.trans<|.cg be.ext;refine bx (H.f 121)<|bx (cv rfl) λk bN y=>ca<|qw H (T:={T with cA:=hj cE (ib T.aV t b f l) T.cA}) (.inr<|.inr<|.inr<|.inr<|.inr rfl) (aL.ext y.ext) (cs:=[]) bD.m7 bi (y.ext _ _<|a2.tup d) y.at (aL.apart y.1) (by decide) (by decide) (by decide) λQ bM a1 ai=>?_;refine fin _ bM _ (a2.trans<|(Fr.cg y.ext).trans a1) ai (if_neg ?_).symm;intro X;replace C:=X▸C;exact kc C
 ·refine fin _ bz T.aV (F.trans<|.cg be.ext) (aG.ext be.ext) (if_pos ?_).symm;cases X:bn.isNone with
  |true=>rfl
  |false=>replace C:=X▸C;exact vy C
theorem wL (B:ct ag aJ aY I a0 aw au)(ak:w≠"yank")(ao:w≠"insert")(bp:["copy","kill"].any (· ==w)=false)(bI:w≠"register")(c9:["kill","delete"].any (· ==w)=false) (C:∀aF ay,bF I ay->ct ag aF aY ay a0 aw au->Bs (d5 c 3 ad) (i1 aY w bc e6 b0 l e i t bn pt) [] ay):kA (d5 c 3 ad) (i1 aY w bc e6 b0 l e i t bn pt) [] I:=by refine eqs<|cr ak<|eqs<|cr ao<|bx (cv rfl) λv ay n₁=>ie (b:=false) n₁.at (bj (["copy","kill"]) rfl bp.symm) (fg ?_);refine eqs<|cr bI<|bx (cv rfl) λh bz be=>ie (b:=false) be.at (bj (["kill","delete"]) rfl c9.symm) (fg<|eqs<|cr bI<|((eqs<|cr bI ?_)));have x:=n₁.ext.trans be.ext;exact C _ bz x<|B.ext x
theorem wM {c:cG}{S:fO}{b e bc f t s fV e6 one l:Nat}{ag:gR}{I:aI}{aJ:Addr->Prop}{b0:Addr}{W:iv}{T:hs}{a0:List Int}{bn:V}{cE:Int}{ad:V->aI->Prop}{aQ:Int}(H:ba c)(B:ct ag aJ W I a0 T S)(bD:io T)(bi:eP T.aV s e t b f l)(d:I b0=Y (.tup [.int (t:Nat),.int (b:Nat),.int (f:Nat),.int (l:Nat)]))(A:bn=.none/\aQ=1\/(bn=.int aQ/\(aQ=4\/aQ= -3)))(P:jw ag W a0 T S "number" bc ad I):kA (d5 c 3 ad) (i1 W "number" bc e6 b0 s e one fV bn cE) [] I:=by
 refine wL B (by decide) (by decide) (by decide) (by decide) (by decide) λai ay av al=>eqs<|cr (by decide)<|eqs<|jV rfl<|bx (H.f 121)<|bx (cv rfl) λk aN o=>?_;have aA: -3<=aQ/\aQ<=4:=by clear P;rcases A with⟨_,C⟩|⟨_,C|C⟩<;>subst C<;>decide
 have go:bk c 3 (.ref 1382) [.ref W.O,.str "number",.ref b0,.ref k,.int aQ] (λq Z=>Bw (d5 c 3 ad) (i1 W "number" bc e6 b0 s e one fV bn cE) [] Z) aN:=by
  refine(qw H (.inr<|.inl rfl) (al.ext o.ext) (cs:=[]) bD.m7 bi (o.ext _ _<|av _ _ d) o.at (al.apart o.1) (by decide) aA.1 aA.2 λQ M bF aG=>?_);have aP:bn.plain:=by rcases A with⟨C,_⟩|⟨C,_⟩<;>refine J C ?_<;>trivial
  refine lz (u:=bn) aP<|bx (cv rfl) λeM bN y=>bx (cv rfl) λdy bM aR=>?_;exact P.fin (dA:=W.L) (aw:=T) ((Fr.cg<|av.trans o.ext).trans bF) aG (g5 _) y aR ⟨rfl,rfl⟩<|.number bi A
 rcases A with⟨rfl,rfl⟩|⟨rfl,G⟩
 ·exact ca go
 ·exact ca go
theorem wN (H:ba c)(B:ct ag aJ aY I a0 aw au)(bD:io aw)(bi:eP aw.aV j e t b i l)(d:I b0=Y (.tup [.int (t:Nat),.int (b:Nat),.int (i:Nat),.int (l:Nat)]))(aR:w="open"\/w="clear"\/w="close")(P:jw ag aY a0 aw au w bc ad I):kA (d5 c 3 ad) (i1 aY w bc e6 b0 j e cnt bf bn pt) [] I:=by
 have O:w="string"\/w="number"\/w="open"\/w="clear"\/w="close"\/w="delete":=by rcases aR with C|C|C<;>simp[C]
 have g:∃cR,t1.lookup w=Y (.ref cR)/\ip aw bc w (dc w [] 0 aw.aV t b i l) aw.last aw.cA cR (hE j e) (if w="open" then .int j else .none) .none false/\w≠"yank"/\w≠"insert"/\["copy","kill"].any (· ==w)=false/\w≠"register"/\["kill","delete"].any (· ==w)=false/\w≠"string"/\w≠"number"/\["open","clear","close"].any (· ==w)=true:=by
  clear P;rcases aR with rfl|rfl|rfl
  ·exact(⟨_,rfl,(.open bi),(by decide),(by decide),(by decide),(by decide),(by decide),(by decide),(by decide),(by decide)⟩)
  ·exact(⟨_,rfl,(.clear bi),(by decide),(by decide),(by decide),(by decide),(by decide),(by decide),(by decide),(by decide)⟩)
  ·exact(⟨_,rfl,(.close bi),(by decide),(by decide),(by decide),(by decide),(by decide),(by decide),(by decide),(by decide)⟩)
 refine dr g λcR bG=>yN bG λap D cz cM dh y dw a h m=>?_;clear g;refine wL B cz cM dh y dw λai ay av al=>eqs<|cr a<|eqs<|cr h<|bx (cv rfl) λv aN o=>ie (b:=true) o.at (bj (["open","clear","close"]) rfl m.symm) (r0<|bx (H.f 121)<|bx (cv rfl) λk M aH=>?_);have aj:=al.ext o.ext;refine ca<|qw H O (aj.ext aH.ext) (cs:=[]) bD.m7 bi (aH.ext _ _<|o.ext _ _<|av _ _ d) aH.at (aj.apart aH.1) (by decide) (by decide) (by decide) λQ bz a2 aL=>?_;exact Eh (dA:=aY.L) P ((Fr.cg<|(av.trans o.ext).trans aH.ext).trans a2) aL (g5 _) ap D
theorem Kq {c:cG}{S:fO}{b e bc f t s fV e6 one l:Nat}{ag:gR}{I:aI}{aJ:Addr->Prop}{b0:Addr}{W:iv}{T:hs}{a0:List Int}{bn:V}{cE:Int}{ad:V->aI->Prop}(H:ba c)(B:ct ag aJ W I a0 T S)(bD:io T)(aO:a0.length<=1000)(E:T.cnt<=9000)(bi:eP T.aV s e t b f l)(d:I b0=Y (.tup [.int (t:Nat),.int (b:Nat),.int (f:Nat),.int (l:Nat)]))(P:jw ag W a0 T S "string" bc ad I):kA (d5 c 3 ad) (i1 W "string" bc e6 b0 s e one fV bn cE) [] I:=by
 refine gy (bi.facts) λF N q w ao=>wL B (by decide) (by decide) (by decide) (by decide) (by decide) λai ay av al=>eqs<|jV rfl<|bx (cv rfl) λg aN o=>bx (H.f 113)<|ca<|nb H (al.ext o.ext) aO (by clear P;exact cK (.le aa<|.k 10000) [.le aa<|.k 9000] E) (by decide) (by decide) λv M aS bl bF aG=>?_;obtain⟨dh,rfl⟩:=oU aS;have bp:M g=Y (.list [.str "",.str "x",.str "yz"]):=bF.list o.at λX=>X.elim (al.apart o.1).1 (al.apart o.1).2;obtain⟨x,aL,p⟩:∃x:Str,([.str "",.str "x",.str "yz"]:List V)[dh]?=Y (.str x)/\(x=""\/x="x"\/x="yz"):=by
  clear P;rcases dh with _|_|_|dh
  ·exact(bj _ rfl<|.inl rfl)
  ·exact(bj _ rfl<|.inr<|.inl rfl)
  ·exact(bj _ rfl<|.inr<|.inr rfl)
  ·lia
 have m:(∀n∈x.cps.toList,n<128)/\x.cps.toList.length<=2/\x.length<=2/\x.cps.all (· <128)=true:=by clear P;rcases p with rfl|rfl|rfl<;>decide+kernel
 have h:Fr (ed W) (ec W) No I M:=(Fr.cg<|av.trans o.ext).trans bF;refine cU (k:=dh) bp aL (da rfl)<|bx (H.f 121)<|bx m.2.2.2<|vh (by clear P;refine J eI ?_;have:=m.2.1;exact cK (.le aa<|.k 16777216) [.le aa j6] m.2.1) λk bz be=>?_;refine ca<|qw H (T:={T with cnt:=T.cnt+1}) (.inl rfl) (aG.ext be.ext) (cs:=d0 x) bD.m7 bi (be.ext _ _<|h.tup d) be.at (aG.apart be.1) (by clear P;unfold d0;refine J (fx _) ?_;have:=m.2.1;exact cK (.le aa<|.k 1000) [.le aa j6] m.2.1) (by decide) (by decide) λQ bN bv D=>?_;have i:=h.trans<|(Fr.cg be.ext).trans bv;have j:=i.tup d;refine bx (H.f 116)<|fS D.l.c6 rfl<|it (k:=1) (u:=.int (b:Nat)) j rfl (da rfl)<|it (k:=2) (u:=.int (f:Nat)) j rfl (da rfl)<|bx (by clear P;have:=m.2.2.1;exact cK (.lt aa<|.k 4611686018427387904) [.le aa j6] m.2.2.1:x.length<2^62)<|d3 ?_;refine ca<|Gq H (aE:=dc "string" (d0 x) 0 T.aV t b f l) D.l.aV ?_ ?_ ?_ λbM bE=>?_
 ·clear P;refine(?_:(chg _ _ _ _ _ _ _).length<=_);refine J tT ?_;have:=bD.aX;exact cK (.le aa<|.k 10000) [.le aa<|.k 150] this
 ·clear P;intro r ax;obtain⟨n,aX⟩:=tt ax;change(List.mapIdx _ _)[n]?=Y r at aX;replace aX:=hq▸aX;refine a9 (hS.mp aX) λaM a6 bh=>?_;refine bm bh ?_;have:=iX<|d1 a6;have:=bD.ax;split
  ·refine(?_:(jU aM f l<|d0 x).length<=_);unfold jU d0;have bI:=oH (aM:=aM) (bf:=f);refine J bK<|J bK<|J cF<|J dz<|J (fx _) ?_;have:=m.2.1;exact Gv (.le (.a (.a aa ab) ah)<|.k 100000) [.le az a8,.le a8 bS,.le ab j6,.le dQ bS,.le bS<|.k 4000,.eq ht n7,.e4 n7 dQ az,.sub ah ht a8,.cN aa az ht] q w m.2.1 ‹_› ‹_› bI rfl rfl rfl
  ·exact bH (.le aa<|.k 100000) [.le aa ab,.le ab<|.k 4000] ‹_› this
 ·clear P;refine(?_:b<=(chg _ _ _ _ _ _ _).length);refine J tT ?_;exact bH (.le aa ab) [.lt aa ab] N
 ·refine bx (cv rfl) λeM bQ aB=>bx (cv rfl) λdy bV am=>?_;have y:dI bQ bV dy (.tup [.ref 828,.ref eM,.int (cw 0 (dc "string" (d0 x) 0 T.aV t b f l) b+(f+x.length):Nat),.none,.none]):=by have:=am;change dI bQ bV dy (.tup [.ref 828,.ref eM,.int<|(cw 0 (dc "string" (d0 x) 0 T.aV t b f l) b:Nat)+((f:Int)+(x.length:Nat)),.none,.none]) at this;rwa[show((cw 0 (dc "string" (d0 x) 0 T.aV t b f l) b:Nat):Int)+((f:Int)+(x.length:Nat))=((cw 0 (dc "string" (d0 x) 0 T.aV t b f l) b+(f+x.length):Nat):Int) by clear P;exact kk<|.Eq (.a (.c aa)<|.a (.c ab)<|.c ah)<|.c<|.a aa<|.a ab ah] at this
  exact P.fin (dA:=W.L) (aw:=T) (i.trans<|.cg bE) (D.ext bE) (c1 _) aB y ⟨rfl,rfl⟩<|.string bi p
def qp (w:Str):Prop:=w="kill"\/w="yank"\/w="copy"\/w="register"\/w="insert"\/w="open"\/w="string"\/w="number"\/w="clear"\/w="close"\/w="delete"
theorem RH (H:ba c)(aR:qp w)(B:ct ag aJ aY I a0 aw au)(bD:io aw)(aO:a0.length<=1000)(E:aw.cnt<=5000)(aK:bc<=(aT aw.aV).length) (P:∀Z,Fr (ed aY) (ec aY) No I Z->jw ag aY a0 {aw with cnt:=aw.cnt+4} au w bc ad Z):bk c 4 (.ref 1401) [.ref aY.cu,.ref aY.O,.str w,.int bc,.int ((aT aw.aV).length:Nat)] ad I:=by
 have i:aw.cnt+4<=9000:=by clear P;exact cK (.le (.a aa<|.k 4)<|.k 9000) [.le aa<|.k 5000] E
 refine Ks H B bD aO E bD.ax rfl λai ay b0 s e t b f l one fV bn cE bC al bi d A ar=>?_;have g:=P ay bC;have h:io {aw with cnt:=aw.cnt+4}:=⟨bD.h0,bD.ax,bD.aX,bD.ap,bD.dx,bD.an⟩;rcases aR with rfl|rfl|rfl|rfl|rfl|rfl|rfl|rfl|rfl|rfl|rfl
 ·exact Kn H al h bi d g
 ·exact Kr H al h bD.ax aK g
 ·exact Kk H al h bi d g
 ·exact Kp H al h bi d A ar g
 ·exact Km H al h bD.ax aK A ar g
 ·exact wN H al h bi d (.inl rfl) g
 ·exact Kq H al h aO i bi d g
 ·rcases A with rfl|rfl|rfl
  ·exact wM H al h bi d (.inl ⟨rfl,rfl⟩) g
  ·exact wM H al h bi d (.inr ⟨rfl,.inl rfl⟩) g
  ·exact wM H al h bi d (.inr ⟨rfl,.inr rfl⟩) g
 ·exact wN H al h bi d (.inr<|.inl rfl) g
 ·exact wN H al h bi d (.inr<|.inr rfl) g
 ·exact Kl H al h bi d g
theorem SF (P:Nat->List V->aI->Prop)(h0:P 0 ai I)(ap:∀k ai I,P k ai I->I a=Y (.tup us)) (U:∀k ai I u,P k ai I->us[k]?=Y u->B (ai.set i u) (iC (P<|k+1) dJ) I)(he:∀ai I,P us.length ai I->dJ .next ai I):j7 (.tup a) i B dJ ai I:=by
 refine(fv (λk ai I=>k<=us.length/\P k ai I) us.length ⟨dU _,h0⟩ λk ai I A=>dF A λan C=>⟨an,λe=>?_,λG=>?_⟩)
 ·clear an;subst e;exact⟨(bj us (ap _ _ _ C)<|by simp),he _ _ C⟩
 ·refine(bj (us[k]) (bj us (ap _ _ _ C)<|by simp[G]) ?_);have bd:(k+1<=us.length)=True:=eq_true G;exact u1 (U k ai I us[k] C<|by simp[G]) _ λb d aN=>by cases b<;>simp[bd,iC]
theorem E7 (aK:I a=Y (.list us))(aA:I ae=Y (.list b6))(aU:bY (hZ I) us h)(aR:bY (hZ I) b6 h):ew I 2 (.ref a) (.ref ae) true:=by
 by_cases X:a=ae
 ·subst X;exact .same aK
 ·refine .sF (λq=>true) X aK aA (aU.length.trans aR.length.symm) (λj u w ak ao=>?_) (by simp);refine bA λco aB=>kq (aU.get' ak) λQ bp x bt aL=>?_;clear ak;subst bt;refine kq (aR.get' ao) λbG bI y bt L=>?_;clear ao;subst bt;refine aB ?_;replace bI:=bp▸bI;cases bI;have:=xk aL L 0;rwa[decide_eq_true rfl] at this
theorem eg.aV (C:eg aJ I u h):∃a us,u=.ref a/\I a=Y (.list us)/\bY (hZ I) us h:=cS C λa us e q g r=>⟨a,us,e,g,r.mono λq q X=>X.rw⟩
theorem f2.zd (C:f2 aJ I u Q):hZ I u Q:=d8 C λa e q g=>⟨a,e,g⟩
theorem KA (H:ba c)(C:b3 W I A pt ar aW)(af:jB ad I A):bk c 2 (.ref 990) [.ref W.b,.int 1,.int<|(A.length:Nat)+1] ad I:=by have:=tL H C (s:=0) (e:=A.length) (dU _) (c1 _) (ad:=ad) (by refine J k0<|J tk ?_;exact af);exact this
theorem RL (H:ba c)(B:ct ag aJ aY I a0 aw au)(bD:io aw)(ak:au.a2=aT aw.aV)(ao:au.dY=aw.last)(bp:au.et=aw.cA)(af:∀Z,bF I Z->ad (.bool true) Z):bk c 3 (.ref 1408) [.ref ag.cT,.ref aY.O] ad I:=by
 refine bA λco aB=>?_;obtain⟨l,mk,aW,bL,last,bO,w⟩:=B;obtain⟨f,d4⟩:=w.E.d4;refine aB ?_;have ax:=bD.ax;have aX:=bD.aX;refine MV (n:=2) H<|dq w.E.he d4 rfl (H.m 24)<|ca<|xe H w.E ?_;refine fU (w.B.R.dB) λv h i dB=>dq w.B.R.aA dB rfl (H.m 16)<|dq w.B.R.aA dB rfl (H.m 14)<|ca<|Ey H w.B<|d3<|ca<|KA H w.B λp ay av np aP=>?_;have d:=w.ext av;have P:=l.keep<|ds.ext av;refine bx (H.f 114)<|fS P.c6 rfl<|ca<|x2 H P.aV bD.h0 (cK (.le aa<|.k 10000) [.le aa<|.k 150] aX) (cK (.le aa<|.k 100000) [.le aa<|.k 4000] ax) λX aN a3 sJ ap=>?_;have L:=d.ext a3;have N:=P.keep<|ds.ext a3;refine Hg (a3 _ _ aP) ap<|fE (λbw=>(bw ak).elim) λq=>?_;refine bA λco aB=>?_;obtain⟨aC,V⟩:=L.E.d4;refine hg (L.R.aV) λbP aI bh a4 an=>?_;clear d;subst bh;refine a9 (N.c3) λaG c3 ah=>aB<|c8 L.E.he V rfl<|fS N.c6 rfl<|kw 2<|kw true<|bx (by decide)<|bx (E7 a4 c3 an<|ao▸ah.mono λq q X=>X.zd)<|(?_);refine bx (cv rfl) λdy M aH=>Or.inr<|kw _<|bx aH.at (SF (us:=[.int 97,.int 98]) (λk ai Z=>bF I Z/\Z dy=Y (.tup [.int 97,.int 98])/\∃D bH,ai=[.ref ag.cT,.ref aY.O,.ref ag.b,D,bH]) (⟨((av.trans a3).trans aH.ext),aH.at,_,_,rfl⟩) (λk ai Z C=>C.2.1) ?_ ?_)
 ·intro k K bz u bo aU;refine fT bo λbn ab bG=>fc bG λD bH aD=>?_;clear bo;subst aD;refine bA λco aB=>?_;obtain⟨cE,rfl⟩:∃cE,u=.int cE:=by
   rcases k with _|_|k
   ·cases aU;exact⟨_,rfl⟩
   ·cases aU;exact⟨_,rfl⟩
   ·exact bX aU
  have F:=w.ext bn;have A:=l.keep<|ds.ext bn;refine a9 (A.bU) λaO bU U=>?_;obtain⟨cz,cM⟩:=Gd (k:=cE) U;refine a9 (F.G) λal g x=>?_;obtain⟨aR,ar⟩:=y7 (k:=cE) x;rw[bp] at aR ar;obtain⟨aE,W⟩:=F.E.d4;refine aB<|fS A.c6 rfl<|ie (b:=(aO.lookup cE).isSome) bU rfl ?_;cases e:aw.cA.lookup cE with
  |none=>refine J (cz e)<|bx (H.f 72)<|c8 F.E.he W rfl<|ca<|su H F.E g ?_;exact J (aR e)<|kw 0<|kw true<|bx (by decide)<|bx .none<|(⟨bn,ab,_,_,rfl⟩)
  |some bB=>
   refine bA λco aB=>cS (cM bB e) λa us bv a7 aK bb=>hg (ar bB e) λt r bE dA s=>hg (s.aV) λS aL bh aj aq=>?_;clear s;subst bh;refine aB<|J bv<|fS A.c6 rfl<|pr bU bv<|bx (cv rfl) λo bN y=>?_;have aS:=bn.trans y.ext;have Q:=w.ext aS;obtain⟨aF,ae⟩:=Q.E.d4;refine bx (H.f 72)<|c8 Q.E.he ae rfl<|ca<|su H Q.E (y.ext _ _ g) ?_;refine J bE ?_;have T:=y.ext _ _ aK;have am:=y.ext _ _ aj;have az:=y.ext _ _ dA;have qy:ew bN 2 (.ref S) (.ref a) true:=E7 am T (aq.mono λq q X=>X.ext y.ext)<|bb.mono λq q X=>X.zd.ext y.ext;refine kw 3<|kw true<|bx (by decide)<|bx (.WH (us:=[.str "rectangle",.ref S]) (b6:=[.str "rectangle",.ref a]) (λq=>true) (cQ dA y.1) az y.at rfl (λj u w aR ar=>?_) (by simp))<|(⟨aS,(y.ext _ _ ab),_,_,rfl⟩);rcases j with _|_|j
   ·cases aR;cases ar;exact .of (.str _ _) (by decide:true=(("rectangle":Str)=="rectangle"))
   ·cases aR;cases ar;exact qy
   ·exact bX aR
 ·intro K bz bo;refine fT bo λbn ab bG=>fc bG λD bH aD=>?_;clear bo;subst aD;exact af bz bn
def lY (aE:List (List Int)):Prop:=∀r∈aE,∀x∈r,x≠10
theorem lY.of (C:∀r∈h,b9 r):lY h:=λr ax x aL=>by have:=(C r ax x aL).1;exact dW (.Ne bh<|.k 10) [.bW (.k 32) bh] this
theorem pu:(fq<|h.take i).length=cw 0 h i:=by refine J uL ?_;unfold cw;exact J (Ax _) rfl
theorem zv (C:h[i]?=Y aM)(bu:j<=aM.length):(aT h).take (cw 0 h i+j)=fq (h.take i)++aM.take j:=by exact J (sx C)<|bm pu<|J (en _ _ _)<|J (v2 _)<|J v7<|J (AM bu)<|J nS<|J (hV _) rfl
theorem OO (C:h[i]?=Y aM)(bu:j<=aM.length):(aT h).drop (cw 0 h i+j)=aM.drop j++f9 (h.drop<|i+1):=by exact J (sx C)<|bm pu<|J (en _ _ _)<|J (tr _)<|J JC<|J (AM bu)<|J tk rfl
theorem Rh:(fq h).reverse.takeWhile (· !=10)=[]:=by
 rcases List.eq_nil_or_concat h with rfl|bo
 ·rfl
 ·refine fc bo λl r bh=>?_;clear bo;subst bh;unfold fq;simp
theorem Rk:(f9 h).takeWhile (· !=10)=[]:=by
 cases h with
 |nil=>rfl
 |cons r h=>unfold f9;simp
theorem Iq (C:∀x∈A,x≠10)(aA:Q.takeWhile (· !=10)=[]):(A++Q).takeWhile (· !=10)=A:=by exact J (List.takeWhile_append_of_pos λx aL=>by simpa using C x aL)<|J aA<|J (hV _) rfl
theorem x5 (aX:lY h)(C:h[i]?=Y aM)(bu:j<=aM.length):eB (aT h) (cw 0 h i+j)=cw 0 h i:=by have ax:=aX aM<|d1 C;unfold eB;exact J (zv C bu)<|J Yx<|J (Iq (λx aL=>ax x<|lN<|JA.mp aL) Rh)<|J qf<|J cF<|de (.eq aa ab) [.le ah az,.sub aa (.a ab ah) a8,.cN a8 ah az] bu rfl rfl
theorem x4 (aX:lY h)(C:h[i]?=Y aM)(bu:j<=aM.length):dX (aT h) (cw 0 h i+j)=cw 0 h i+aM.length:=by have ax:=aX aM<|d1 C;unfold dX;exact J (OO C bu)<|J (Iq (λx aL=>ax x<|nR aL) Rk)<|J dz<|cn (.eq (.a (.a aa ab) ah)<|.a aa az) [.le ab az,.sub ah az ab] bu rfl
theorem rY (aX:lY h)(C:h[i]?=Y aM)(bu:j<=aM.length):eZ (aT h) (cw 0 h i+j)=j:=by unfold eZ;refine J (x5 aX C bu) ?_;exact ch (.eq aa ab) [.sub aa (.a ah ab) ah] rfl
theorem Fx (C:∀x∈Q,x≠10):Q.foldl iG (h,A)=(h,A++Q):=by
 induction Q generalizing A with
 |nil=>refine J (hV _) ?_;rfl
 |cons x Q B=>have e:iG (h,A) x=(h,A++[x]):=if_neg<|C x<|.head _;refine J vN<|J e<|J (B λy L=>C y<|.tail _ L) ?_;simp
theorem HW (h0:h≠[])(aX:lY h):fL (aT h)=h:=by
 have g:∀(rs:List (List Int)) (r:List Int) (a:List (List Int)) (b:List Int),lY (r::rs)->((aT<|r::rs).foldl iG (a,b)).1++[((aT<|r::rs).foldl iG (a,b)).2]=a++(b++r)::rs:=λrs=>by
  induction rs with
  |nil=>intro r a b C;refine(?_:((r.foldl iG (a,b)).1++[(r.foldl iG (a,b)).2])=_);exact J (Fx<|C r<|.head _) rfl
  |cons s rs B=>
   intro r a b C;have e:(aT<|r::s::rs).foldl iG (a,b)=(aT<|s::rs).foldl iG (a++[b++r],[]):=by refine(?_:(r++10::aT (s::rs)).foldl iG (a,b)=_);refine J Ys<|J (Fx<|C r<|.head _)<|J vN ?_;rfl
   refine J e<|J (B s _ _ λx aL=>C x<|.tail _ aL) ?_;simp
 refine fc (YI h0) λr rs bh=>?_;subst bh;have:=g rs r [] [] aX;unfold fL hP;simpa using this
theorem xT {N R:List (List Int)}(C:N≠[]):aT (N++R)=aT N++f9 R:=by
 induction N with
 |nil=>exact(C rfl).elim
 |cons n N B=>
  cases N with
  |nil=>
   cases R with
   |nil=>simp[f9]
   |cons r R=>
    refine(?_:n++10::aT (r::R)=_);induction R generalizing n r with
    |nil=>simp[aT,f9]
    |cons s R a=>refine(?_:n++10::(r++10::aT (s::R))=_);have:=a (n:=r) (r:=s) (by simp) λX=>(X rfl).elim;refine J this ?_;simp[aT,f9]
  |cons m N=>refine(?_:n++10::aT ((m::N)++R)=_);refine J (B<|by simp) ?_;simp[aT]
theorem Rl (C:bg≠[]):aT (h++bg)=fq h++aT bg:=by
 induction h with
 |nil=>rfl
 |cons l h B=>
  have:h++bg≠[]:=by simp[C]
  refine J I1<|J (F9 this)<|J B ?_;simp[fq]
theorem uO (C:bg≠[]):aT (h++bg++cI)=fq h++aT bg++f9 cI:=by exact J (en _ _ _)<|J (Rl<|by simp[C])<|J (xT C)<|J (en _ _ _) rfl
noncomputable def mid (aE:List (List Int))(t b:Nat):List (List Int):=(aE.take<|b+1).drop t
theorem Tc {aE:List (List Int)}(ak:t<=b):aE.take t++mid aE t b++aE.drop (b+1)=aE:=by
 unfold mid;have:aE.take t=(aE.take<|b+1).take t:=by exact J tm<|J (dG<|bH (.le aa<|.a ab aC) [.le aa ab] ak) rfl
 exact J this<|J (ho _ _)<|J (ho _ _) rfl
theorem oz {aE:List (List Int)}(ao:b<aE.length):(mid aE t b).length=b+1 -t:=by unfold mid;refine J dz<|J cF ?_;exact e3 (.eq aa ab) [.lt ah az,.sub ab (.a ah aC) a8,.sub aa bS a8,.cN bS (.a ah aC) az] ao rfl rfl rfl
theorem qR {aE:List (List Int)}(ak:t<=b)(ao:b<aE.length):mid aE t b≠[]:=λX=>by have:=oz (t:=t) ao;rw[X,ju] at this;exact ch .nh [.le aa ab,.eq b1 ah,.sub ah (.a ab aC) aa] ak this rfl
theorem yo (C:A∈mid h t b):A∈h:=lN<|nR C
theorem py:(mid h t b)[e]?=if t+e<b+1 then h[t+e]? else am:=by unfold mid;exact J JH<|J oZ rfl
theorem zz {aE:List (List Int)}(ak:t<=b)(ao:b<aE.length):aT aE=fq (aE.take t)++aT (mid aE t b)++f9 (aE.drop<|b+1):=by
 conv=>lhs;rw[<-Tc (aE:=aE) ak]
 exact uO<|qR ak ao
theorem ym {aE:List (List Int)}{t b:Nat}{d:List Int}(ak:t<=b)(aA:aE[b]?=Y d):cw 0 aE b+d.length=(fq (aE.take t)++aT (mid aE t b)).length:=by
 have ao:=(e8.mp aA).1;have bv:=oc (lo:=0) aA;have bE:=nu<|qR (aE:=aE) ak ao;refine J bK<|J pu ?_;have dA:cw 0 aE (b+1)=cw 0 aE t+((mid aE t b).map λr=>r.length+1).sum:=by
  unfold cw mid;conv=>lhs;rw[<-ho t (aE.take<|b+1),jv,o0,tm,dG (by exact bH (.le aa<|.a ab aC) [.le aa ab] ak:t<=b+1)]
  exact hI<|.eq (.a b1<|.a aa ab)<|.a (.a b1 aa) ab
 exact e3 (.eq (.a aa ab)<|.a ah az) [.eq a8<|.a (.a aa ab) aC,.eq (.a az aC) bS,.eq a8<|.a ah bS] bv bE dA
structure l2 (aE:List (List Int))(s e t b f l:Nat):Prop where
 lo:gA (aT aE) s e=cw 0 aE t
 x9:(aT aE).take (gA (aT aE) s e)=fq (aE.take t)
 qF:(aT aE).drop (hN (aT aE) s e)=f9 (aE.drop (b+1))
 rs:cx (aT aE) s e=mid aE t b
 f:cD (aT aE) s e=f
 l:cZ (aT aE) s e=l
theorem eP.nB (aX:lY h)(C:eP h i e t b j l):l2 h i e t b j l:=by
 refine bA λco aB=>gy (C.facts) λcz cM dh y dw=>?_;obtain⟨ak,ao,o,g,u,d,lf,c,q,n,f,m,s,p⟩:=C;refine aB ?_;replace f:=(dG ak)▸f;replace m:=(nV ak)▸m;have lo:gA (aT h) i e=cw 0 h t:=by unfold gA;refine J (dG ak)<|J f ?_;exact x5 aX lf q
 have a4:hN (aT h) i e=cw 0 h b+d.length:=by unfold hN;refine J (nV ak)<|J m ?_;exact x4 aX c n
 have dy:=zz (aE:=h) cz cM;have kn:=ym (aE:=h) cz c;refine⟨lo,?_,?_,?_,?_,?_⟩
 ·refine J lo ?_;have:=zv lf<|dU _;rw[nS,hV,p2] at this;exact this
 ·exact J a4<|J kn<|J dy<|J v4 rfl
 ·unfold cx;refine J lo<|J a4<|J kn<|bm pu ?_;conv=>lhs;rw[dy]
  exact J v3<|J v4<|HW (qR cz cM) λr ax=>aX r<|yo ax
 ·unfold cD;refine J f<|J m<|J (rY aX lf q)<|J (rY aX c n) ?_;exact s.symm
 ·unfold cZ;refine J f<|J m<|J (rY aX lf q)<|J (rY aX c n) ?_;exact p.symm
theorem l2.eH (C:l2 h i e t b j l)(aX:bg≠[]):eH (aT h) i e bg=aT (h.take t++bg++h.drop (b+1)):=by unfold Mine.eH;exact J C.x9<|J C.qF<|J (uO aX) rfl
theorem w1 {aE:List (List Int)}{w:Str}{cs:List Int}{aQ:Int}{t b f l:Nat}(ak:t<=b)(ao:b<aE.length):dc w cs aQ aE t b f l=aE.take t++((mid aE t b).mapIdx λk r=>hc w r f l<|ey w cs aQ t b<|t+k)++aE.drop (b+1):=by
 unfold dc chg;refine oT λi=>?_;refine J hq<|J (en _ _ _)<|J v8<|J cF<|J (dG<|by exact ch (.le aa ab) [.le aa ah,.lt ah ab] ak ao) ?_;by_cases P:i<t
 ·refine J (if_pos P)<|J oZ<|J (if_pos P) ?_;cases aE[i]? with
  |none=>rfl
  |some r=>exact congrArg Y<|if_neg λz=>JG.mpr P z.1
 ·refine J (if_neg P)<|J v8<|J k1<|J (oz ao) ?_;by_cases ai:i<b+1
  ·refine J (if_pos<|by exact de (.lt aa ab) [.le ah az,.lt a8<|.a az aC,.sub aa a8 ah,.sub ab (.a az aC) ah] ak ai rfl rfl)<|J hq<|J py<|J (if_pos<|by exact cn (.lt (.a aa ab)<|.a ah aC) [.le aa ah,.lt az<|.a ah aC,.sub ab az aa] ak ai rfl)<|J (by exact ch (.eq (.a aa ab) ah) [.es ah aa,.sub ab ah aa] P rfl:t+(i -t)=i) ?_;cases aE[i]? with
   |none=>rfl
   |some r=>exact congrArg Y<|if_pos (by exact⟨bH (.le aa ab) [.es ab aa] P,cn (.lt aa<|.a ab ah) [.lt aa<|.a az aC,.sub ah (.a az aC) ab] ai rfl⟩)
  ·refine J (if_neg<|by exact de (.es aa ab) [.es ah<|.a az aC,.sub aa ah a8,.sub ab (.a az aC) a8] ai rfl rfl)<|J JH<|J (by exact e3 (.eq (.a (.a aa aC) ab) ah) [.le az aa,.es ah<|.a aa aC,.sub ab a8 bS,.sub bS (.a aa aC) az,.sub a8 ah az] ak ai rfl rfl rfl:b+1+(i -t -(b+1 -t))=i) ?_;cases aE[i]? with
   |none=>rfl
   |some r=>exact congrArg Y<|if_neg λz=>ai<|Nat.lt_of_lt_of_eq z.2<|AD<|YG ak
theorem yh {g:av->fm}:pre.mapIdx (λq a=>g a)=pre.map g:=by exact oT λi=>J hq<|J rl rfl
theorem qP {g af:Nat->av->fm}(e:∀i a,pre[i]?=Y a->g i a=af i a):pre.mapIdx g=pre.mapIdx af:=by
 refine oT λi=>J hq<|J hq ?_;cases X:pre[i]? with
 |none=>rfl
 |some a=>exact congrArg Y<|e i a X
variable{aG:List Int->List Int}
theorem s1 (C:l2 h bf e t b j l)(ak:t<=b)(ao:b<h.length)(bJ:∀k r,hc w r j l (ey w A aQ t b<|t+k)=aG r):eH (aT h) bf e ((mid h t b).map aG)=aT (dc w A aQ h t b j l):=by refine J (C.eH<|by simpa using qR ak ao)<|J (w1 ak ao) ?_;congr 3;exact bm yh<|qP λi a q=>(bJ i a).symm
theorem zn (C:l2 h i e t b j l)(ak:t<=b)(ao:b<h.length):eH (aT h) i e (je (aT h) i e)=aT (dc "delete" [] 0 h t b j l):=by unfold je;refine J C.rs<|J C.f<|J C.l ?_;exact s1 C ak ao λq q=>rfl
theorem xs (C:l2 h i e t b j l):kG (aT h) i e=ib h t b j l:=by unfold kG;refine J C.rs<|J C.f<|J C.l ?_;rfl
theorem Wl (C:l2 h i e t b j l)(ak:t<=b)(ao:b<h.length):eH (aT h) i e (strN (aT h) i e A)=aT (dc "string" A 0 h t b j l):=by unfold strN;refine J C.rs<|J C.f<|J C.l ?_;exact s1 C ak ao λq q=>rfl
theorem Wk (C:l2 h bf e t b j l)(ak:t<=b)(ao:b<h.length):eH (aT h) bf e (gY (cx (aT h) bf e) (cD (aT h) bf e) aQ)=aT (dc "number" [] aQ h t b j l):=by refine J C.rs<|J C.f ?_;have bw:gY (mid h t b) j aQ≠[]:=λX=>qR ak ao (by have:=congrArg rv X;unfold gY at this;rw[k1] at this;exact kZ.mp this);refine J (C.eH bw)<|J (w1 ak ao) ?_;congr 3;unfold gY;refine qP λi a q=>(?_:eU a j _=eU a j (ey "number" [] aQ t b<|t+i));unfold ey;refine J (if_pos rfl)<|J (oz ao) ?_;congr 2<;>(first|exact ow (.Eq (.a bh<|.c aa)<|.a (.s (.a bh<|.c ab)<|.c ah) aC) [.le ah ab,.sub aa (.a ab aC) ah] ak rfl|exact Gu<|.Eq (.a bh<|.c aa)<|.s (.a bh<|.c<|.a ab aa)<|.c ab)
theorem GM (ax:b9 A)(a1:b9 Q):b9 (hc w A e l Q):=by
 have d:l0 32:=⟨by decide,by decide⟩;have c:∀{a b:List Int},b9 a->b9 b->b9 (a++b):=λaK aA x aL=>(gO.mp aL).elim (aK x)<|aA x;have rep:∀n,b9 (eb n 32):=λn x aL=>(vZ.mp aL).2▸d;have nil:b9 []:=jR;unfold hc;split
 ·exact c (c ((mD ax).take _) a1)<|(mD ax).drop _
 ·split
  ·exact c (c ((mD ax).take _) a1)<|(mD ax).drop _
  ·split
   ·unfold hL;split
    ·exact ax
    ·exact c (c (ax.take _)<|rep _)<|ax.drop _
   ·split
    ·unfold hw;refine c (ax.take _) ?_;split
     ·exact c (rep _)<|ax.drop _
     ·exact nil
    ·split
     ·unfold cls;split
      ·exact ax
      ·exact c (ax.take _) λx aL=>ax.drop _ x<|(YM _).subset aL
     ·exact c (ax.take _)<|ax.drop _
theorem yc {r cs:List Int}(o:b<=l):(hc w r b l cs).length<=r.length+(l+cs.length):=by
 have aP:(pad r b).length<=r.length+b:=by refine J oH ?_;exact tl.mpr ⟨nU ..,ry ..⟩
 unfold hc;split
 ·unfold jU;simp only[bK,cF,dz];exact kO (.le (.a (.a aa ab) ah)<|.a az<|.a a8 ab) [.le bS a8,.le dQ<|.a az bS,.cN aa bS dQ,.sub ah dQ a8] o aP rfl rfl
 ·split
  ·unfold eU;simp only[bK,cF,dz];exact kO (.le (.a (.a aa ab) ah)<|.a az<|.a a8 ab) [.le bS a8,.le dQ<|.a az bS,.cN aa bS dQ,.sub ah dQ bS] o aP rfl rfl
  ·split
   ·unfold hL;split
    ·exact kk<|.le aa<|.a aa<|.a ab ah
    ·simp only[bK,cF,dz,nK];exact kO (.le (.a (.a aa ab) ah)<|.a az<|.a a8 bS) [.sub ah az dQ,.sub ab a8 dQ,.cN aa dQ az] rfl rfl rfl
   ·split
    ·unfold hw;split
     ·simp only[bK,cF,dz,nK];exact kO (.le (.a aa<|.a ab ah)<|.a az<|.a a8 bS) [.le dQ a8,.sub ah az a8,.sub ab a8 dQ,.cN aa dQ az] o rfl rfl rfl
     ·simp only[bK,cF,ju];exact de (.le (.a aa b1)<|.a ab<|.a ah az) [.cN aa a8 ab] rfl
    ·split
     ·unfold cls;split
      ·exact kk<|.le aa<|.a aa<|.a ab ah
      ·have:=(YM (p:=(· ==(32:Int))) (l:=r.drop b)).length_le;rw[dz] at this;simp only[bK,cF];exact kO (.le (.a aa ab)<|.a ah<|.a az a8) [.le ab bS,.cN aa dQ ah,.sub bS ah dQ] this rfl rfl
     ·simp only[bK,cF,dz];exact e3 (.le (.a aa ab)<|.a ah<|.a az a8) [.le bS az,.cN aa bS ah,.sub ab ah az] o rfl rfl
theorem SI (o:b<=l):(hc "delete" A b l Q).length<=A.length:=by refine(?_:(A.take b++A.drop l).length<=_);simp only[bK,cF,dz];exact de (.le (.a aa ab) ah) [.le az a8,.cN aa az ah,.sub ab ah a8] o rfl rfl
theorem uN {K:Nat}{aE:List (List Int)}:∀{bg:List (List Int)},bg.length=aE.length->(∀(i:Nat) r gk,aE[i]?=Y r->bg[i]?=Y gk->gk.length<=r.length+K)->(aT bg).length<=(aT aE).length+aE.length*K:=by
 induction aE with
 |nil=>intro bg ap C;cases bg with
  |nil=>exact dU _
  |cons=>cases ap
 |cons r aE B=>intro bg ap C;cases bg with
  |nil=>cases ap
  |cons gk bg=>
   have h0:=C 0 r gk rfl rfl;cases aE with
   |nil=>cases bg with
    |nil=>refine(?_:gk.length<=r.length+1*K);rw[Nat.one_mul];exact h0
    |cons=>cases rq.inj ap
   |cons s aE=>cases bg with
    |nil=>cases rq.inj ap
    |cons aH bg=>have B:=B (bg:=aH::bg) (rq.inj ap) λi x D ak ao=>C (i+1) x D ak ao;refine(?_:(gk++10::aT (aH::bg)).length<=(r++10::aT (s::aE)).length+((s::aE).length+1)*K);exact J bK<|J bK<|J fe<|J fe<|J (JE _ _)<|e3 (.le (.a aa<|.a ab aC)<|.a (.a ah<|.a az aC)<|.a a8 bS) [.le ab<|.a az a8,.le aa<|.a ah bS] B h0
theorem EK (C:(dc w A aQ h t b e l)[i]?=Y Q):∃r,h[i]?=Y r/\(Q=r\/Q=hc w r e l (ey w A aQ t b i)):=by
 unfold dc chg at C;rw[hq] at C;refine a9 (hS.mp C) λr ax bh=>?_;refine bm bh ?_;refine bj r ax ?_;show(if _ then _ else _)=_\/(if _ then _ else _)=_;split
 ·exact .inr rfl
 ·exact .inl rfl
theorem pd:(dc w A aQ h t b e l).length=h.length:=tT
theorem NP (aP:∀r∈h,b9 r)(a1:∀i,b9<|ey w A aQ t b i):∀r∈dc w A aQ h t b e l,b9 r:=λgk d=>by
 obtain⟨i,a4⟩:=tt d;obtain⟨r,ax,rfl|rfl⟩:=EK a4
 ·exact aP _<|d1 ax
 ·exact GM (aP _<|d1 ax)<|a1 i
theorem NO {aE:List (List Int)}{cs:List Int}{f K:Nat}(C:∀i r,aE[i]?=Y r->(hc w r f l<|ey w cs aQ t b i).length<=r.length+K):(aT<|dc w cs aQ aE t b f l).length<=(aT aE).length+aE.length*K:=by
 refine uN pd λi r gk ak ao=>?_;obtain⟨N,bp,rfl|rfl⟩:=EK ao
 ·rw[ak] at bp;cases bp;exact hI<|.le aa<|.a aa ab
 ·rw[ak] at bp;cases bp;exact C i r ak
theorem QO (aP:∀r∈h,b9 r)(ap:l<=40)(aA:b+1 -t<=41)(ao:b<h.length):(ib h t b i l).length<=41/\∀p∈ib h t b i l,b9 p/\p.length<=40:=by
 have e:ib h t b i l=(mid h t b).map λr=>kb r i l:=rfl;refine J e<|⟨by refine J (fx _)<|J (oz ao) ?_;exact aA,λp bI=>?_⟩;refine a9 (eF.mp bI) λr ax bh=>?_;refine bm bh ?_;have d:=aP r<|yo ax;unfold kb;refine⟨λx aL=>?_,?_⟩
 ·rcases gO.mp aL with aL|aL
  ·exact d x<|lN<|nR aL
  ·refine J (vZ.mp aL).2 ?_;exact⟨by decide,by decide⟩
 ·simp only[bK,dz,cF,nK];exact kO (.le (.a aa ab)<|.k 40) [.le ah<|.k 40,.sub ab az aa,.sub az ah a8,.sub aa bS a8,.cN bS ah dQ] ap rfl rfl rfl rfl
theorem Wp {aE:List (List Int)}{s e t b f l:Nat}{cs:List Int}(C:l2 aE s e t b f l)(ak:t<=b)(ao:b<aE.length)(o:f<=l):(gA (aT aE) s e:Int)+1+(aT<|strN (aT aE) s e cs).length -(((cx (aT aE) s e).getLastD []).length -cZ (aT aE) s e:Nat)=((cw 0 (dc "string" cs 0 aE t b f l) b+(f+cs.length):Nat):Int)+1:=by
 obtain⟨d,aA⟩:∃d,aE[b]?=Y d:=⟨_,eu ao⟩;have T:(cx (aT aE) s e).getLastD []=d:=by refine J C.rs<|J AK<|J ru<|J (oz ao)<|J py<|J (if_pos<|by exact cn (.lt (.a aa ab)<|.a ah aC) [.le aa ah,.sub ab az aC,.sub az (.a ah aC) aa] ak rfl rfl)<|J (by exact cn (.eq (.a aa ab) ah) [.le aa ah,.sub ab az aC,.sub az (.a ah aC) aa] ak rfl rfl:t+(b+1 -t -1)=b)<|J aA ?_;rfl
 have B:strN (aT aE) s e cs=(mid aE t b).map λr=>jU r f l cs:=by unfold strN;exact J C.rs<|J C.f<|J C.l rfl
 have a1:(dc "string" cs 0 aE t b f l)[b]?=Y (jU d f l cs):=by unfold dc chg;refine J hq<|J aA ?_;exact congrArg Y<|if_pos (by exact⟨bH (.le aa ab) [.le aa ab] ak,ch (.lt aa<|.a ab ah) [.sub ah (.a aa aC) ab] rfl⟩)
 have kn:=ym (aE:=dc "string" cs 0 aE t b f l) ak a1;have h:mid (dc "string" cs 0 aE t b f l) t b=(mid aE t b).map λr=>jU r f l cs:=by
  refine oT λi=>?_;refine J py<|J rl<|J py ?_;by_cases X:t+i<b+1
  ·refine J (if_pos X)<|J (if_pos X) ?_;unfold dc chg;refine J hq ?_;cases aE[t+i]? with
   |none=>rfl
   |some r=>exact congrArg Y<|if_pos (by exact⟨hI<|.le aa<|.a aa ab,cn (.lt (.a aa ab)<|.a aa ah) [.lt (.a aa ab)<|.a az aC,.sub ah (.a az aC) aa] X rfl⟩)
  ·refine J (if_neg X)<|J (if_neg X) ?_;rfl
 have g:(fq<|(dc "string" cs 0 aE t b f l).take t).length=cw 0 aE t:=by exact J (w1 ak ao)<|J (en _ _ _)<|J (Jx<|by rw[cF];exact cn (.eq aa ab) [.le ab ah,.lt ah az,.cN aa ab az] ak ao rfl)<|J pu rfl
 rw[bK,g,h] at kn;have bl:(jU d f l cs).length=f+cs.length+(d.length -l):=by unfold jU;have:=oH (aM:=d) (bf:=f);simp only[bK,cF,dz];exact Gv (.eq (.a (.a aa ab) ah)<|.a (.a az ab) a8) [.le az bS,.eq dQ ht,.e4 ht n7 az,.sub a8 n7 bS,.sub ah dQ bS,.cN aa az dQ] o this rfl rfl rfl rfl
 refine J C.lo<|J B<|J T<|J C.l ?_;rw[bl] at kn;exact e3 (.Eq (.s (.a (.a (.c aa) aC)<|.c ab)<|.c ah)<|.a (.c<|.a az<|.a a8 bS) aC) [.eq (.a az<|.a (.a a8 bS) ah)<|.a aa ab] kn
noncomputable def jG (aE:List (List Int))(i:Nat):Nat:=cw 0 aE i+(aE[i]?.getD []).length
theorem pg (C:h[i]?=Y A):jG h i=cw 0 h i+A.length:=by unfold jG;refine J C ?_;rfl
theorem OV {aE:List (List Int)}(h0:aE≠[]):jG aE (aE.length -1)=(aT aE).length:=by have aP:=rz.mpr h0;obtain⟨r,ax⟩:∃r,aE[aE.length -1]?=Y r:=⟨_,eu<|by exact bH (.lt aa ab) [.lt b1 ab,.sub aa ab aC] aP rfl⟩;have ak:=oc (lo:=0) ax;have ao:=wT h0;replace ak:=(by exact bH (.eq (.a aa aC) ab) [.lt b1 ab,.sub aa ab aC] aP rfl:aE.length -1+1=aE.length)▸ak;refine J (pg ax) ?_;exact cn (.eq (.a aa ab) ah) [.eq az<|.a (.a aa ab) aC,.eq az<|.a ah aC] ak ao
theorem OW {aE:List (List Int)}(C:i+1<aE.length):jG aE i<(aT aE).length/\jG aE i+1=cw 0 aE (i+1):=by obtain⟨r,ax⟩:∃r,aE[i]?=Y r:=⟨_,eu<|bH (.lt aa ab) [.lt (.a aa aC) ab] C⟩;obtain⟨gk,d⟩:∃r,aE[i+1]?=Y r:=⟨_,eu C⟩;have ak:=oc (lo:=0) ax;have ao:=qr d;exact J (pg ax)<|⟨by exact de (.lt (.a aa ab) ah) [.eq az<|.a (.a aa ab) aC,.le (.a az a8) ah] ak ao,by exact ch (.eq (.a (.a aa ab) aC) ah) [.eq ah<|.a (.a aa ab) aC] ak⟩
theorem W3 {aE:List (List Int)}(aX:lY aE){i:Nat}(a4:i<aE.length):∀n,fw (aT aE) (jG aE i) n=jG aE (min (i+n)<|aE.length -1):=by
 intro D;induction D with
 |zero=>refine J (p2 _)<|J (dG<|by exact ch (.le aa ab) [.lt aa ah,.sub ab ah aC] a4 rfl) ?_;rfl
 |succ n B=>
  have B:=B;have h0:aE≠[]:=λX=>by replace a4:=X▸a4;simp at a4
  unfold fw;refine J B ?_;by_cases X:i+n<aE.length -1
  ·refine J (dG<|by exact ch (.le (.a aa ab) ah) [.lt (.a aa ab) ah] X)<|J (dG<|by exact ch (.le (.a aa<|.a ab aC) ah) [.lt (.a aa ab) ah] X) ?_;obtain⟨ak,ao⟩:=OW (aE:=aE) (i:=i+n) (by exact cn (.lt (.a (.a aa ab) aC) ah) [.lt (.a aa ab) az,.sub az ah aC] X rfl);obtain⟨gk,d⟩:∃r,aE[i+n+1]?=Y r:=⟨_,eu<|by exact cn (.lt (.a (.a aa ab) aC) ah) [.lt (.a aa ab) az,.sub az ah aC] X rfl⟩;refine J (if_pos ak)<|J ao ?_;have:=x4 aX d<|dU _;rw[p2] at this;exact J this<|J (by exact hI (.eq (.a aa<|.a ab aC)<|.a (.a aa ab) aC):i+(n+1)=i+n+1)<|J (pg d) rfl
  ·exact J (j1<|by exact ch (.le aa<|.a ab ah) [.es (.a ab ah) aa] X)<|J (j1<|by exact ch (.le aa<|.a ab<|.a ah aC) [.es (.a ab ah) aa] X)<|J (OV h0)<|J (if_neg<|by exact gb<|.es aa aa) rfl
theorem Ri (C:h≠[]):f9 h=10::aT h:=by have ak:=xT (N:=[[]]) (R:=h) (by simp);have ao:=F9 (r:=[]) C;change aT ([]::h)=[]++f9 h at ak;replace ak:=ao▸ak;simpa using ak.symm
theorem EJ (ak:st<=pt)(ao:pt<=last):eY pt last aQ st=st:=by
 unfold eY;split
 ·exact J (if_neg<|Gs (.hY bh g7) [.bW g7 bh] ak) rfl
 ·exact J (if_neg<|uS (.iQ bh g7) [.bW g7 jD,.bW jD bh,.Ne jD bh] ak ao ‹_›)<|J (if_neg<|Gs (.hY bh g7) [.bW g7 bh] ak) rfl
theorem Vw (C:pt<=((b+ef e A Q:Nat):Int)+1):pK b e l A Q pt=pt:=by unfold pK;have ak:=(@vp e l A Q).1;have ao:=(@vo e A Q).1;exact EJ C<|e3 (.bW (.a (.c<|.a aa ab) aC)<|.a (.c ah) aC) [.le az a8,.le ab bS,.sub ah (.a aa bS) az,.sub a8 bS ab] ak ao rfl rfl
theorem N3:∀{Q bG:List Int},Q.take b=bG.take b->b<=Q.length->b<=bG.length->gH b Q bG=b:=by
 induction b with
 |zero=>intro Q bG C ak ao;exact rfl
 |succ b B=>intro Q bG C ak ao;cases Q with
  |nil=>cases ak
  |cons x Q=>cases bG with
   |nil=>cases ao
   |cons y bG=>replace C:=rm.inj<|AG▸AG▸C;unfold gH;exact J (if_pos C.1)<|J (B C.2 (AJ ak)<|AJ ao) rfl
theorem VB (aO:h[0]?=Y A)(aR:bg[0]?=Y Q)(a1:bf<=A.length)(b:bf<=Q.length)(bd:A.take bf=Q.take bf):∀j,j<=h.length->ks lo bf bf h bg j (((lo+bf:Nat):Int)+1)=((lo+bf:Nat):Int)+1:=by
 intro D;induction D with
 |zero=>intro o;exact rfl
 |succ j B=>
  intro bu;have B:=B<|bH (.le aa ab) [.le (.a aa aC) ab] bu;refine(?_:nE lo bf bf h bg (h.length -(j+1)) (ks lo bf bf h bg j _)=_);refine J B ?_;unfold nE;cases ak:h[h.length -(j+1)]? with
  |none=>rfl
  |some q=>
   cases ao:bg[h.length -(j+1)]? with
   |none=>rfl
   |some aZ=>
    refine(?_:(if aZ=q then λp=>p else pK (cw lo h<|h.length -(j+1)) (min bf q.length) (q.length -bf) q aZ) _=_);split
    ·rfl
    ·refine Vw ?_;by_cases X:h.length -(j+1)=0
     ·rw[X] at ak ao⊢;replace ak:=aO▸ak;replace ao:=aR▸ao;cases ak;cases ao;have:ef (min bf A.length) A Q=bf:=by unfold ef;refine J (dG a1) ?_;exact N3 bd a1 b
      refine J this ?_;have:cw lo h 0=lo:=by unfold cw;simp
      refine J this ?_;exact hI<|.bW (.a (.c<|.a aa ab) aC)<|.a (.c<|.a aa ab) aC
     ·have bp:cw lo h (h.length -(j+1))>=lo+A.length+1:=by
       unfold cw;obtain⟨m,hm⟩:∃m,h.length -(j+1)=m+1:=⟨h.length -(j+1) -1,by exact bH (.eq aa<|.a ab aC) [.ne aa b1,.sub ab aa aC] X rfl⟩;refine J hm ?_;clear bu B ak ao X hm;cases h with
       |nil=>simp at aO
       |cons a h=>simp at aO;refine bm aO ?_;refine J AG<|J hQ<|J p6 ?_;exact kk<|.le (.a (.a aa ab) aC)<|.a aa<|.a (.a ab aC) ah
      exact de (.bW (.a (.c<|.a aa ab) aC)<|.a (.c<|.a ah az) aC) [.le ab a8,.le (.a (.a aa a8) aC) ah] a1 bp
structure J8 (aE:List (List Int))(k i j:Nat)(bB:List (List Int)):Prop where
 a2:oQ (aT aE) k bB=aT (dn aE i j bB)
 pt:oP (aT aE) k bB=((hv aE k i j bB:Nat):Int)+1
 mark:oO (aT aE) k bB ((k:Int)+1)=(k:Int)+1
theorem IS {aE bB:List (List Int)}{j i k:Nat}(aX:lY aE)(aQ:At aE k i j)(h0:bB≠[]):J8 aE k i j bB:=by
 refine d8 aQ λaM ax bu an=>?_;clear aQ;have a4:=(e8.mp ax).1;have bw:aE≠[]:=λX=>by replace a4:=X▸a4;simp at a4
 have B:=rz.mpr h0;have f:eB (aT aE) k=cw 0 aE i:=by refine J an ?_;exact x5 aX ax bu
 have x:dX (aT aE) k=jG aE i:=by refine J an<|J (pg ax) ?_;exact x4 aX ax bu
 have qz:eZ (aT aE) k=j:=by refine J an ?_;exact rY aX ax bu
 obtain⟨m,hm⟩:∃m,m=min (i+(bB.length -1)) (aE.length -1):=⟨_,rfl⟩;have b:i<=m:=by exact e3 (.le aa ab) [.lt aa ah,.eq ab az,.cN az (.a aa a8) bS,.sub bS ah aC] a4 hm rfl rfl
 have h:m<aE.length:=by exact e3 (.lt aa ab) [.lt ah ab,.eq aa az,.cN az (.a ah a8) bS,.sub bS ab aC] a4 hm rfl rfl
 obtain⟨E,o⟩:∃r,aE[m]?=Y r:=⟨_,eu h⟩;have s:kW (aT aE) k bB.length=jG aE m:=by unfold kW;exact J x<|J (W3 aX a4 _)<|bm hm rfl
 have kn:=ym (aE:=aE) b o;have dy:=zz (aE:=aE) b h;have e:gq (aT aE) k bB.length=mid aE i m:=by
  unfold gq;refine J s<|J f<|J (pg o)<|J kn<|bm pu ?_;conv=>lhs;rw[dy]
  refine J v3<|J v4 ?_;exact HW (qR b h) λr ax=>aX r<|yo ax
 have d:=oz (aE:=aE) (t:=i) h;have q:gp (aT aE) k bB=bB.mapIdx λn p=>eU (aE[i+n]?.getD []) j p:=by
  unfold gp;refine J e<|J qz ?_;refine qP λn p aP=>?_;have H:=(e8.mp aP).1;refine J py ?_;split
  ·rfl
  ·exact J (nL<|by exact sC (.le aa<|.a ab ah) [.eq az a8,.lt ah bS,.es (.a ab ah)<|.a az aC,.cN a8 (.a ab dQ) ht,.sub ht aa aC,.sub dQ bS aC] hm H ‹_› rfl rfl rfl) rfl
 have hz:(gp (aT aE) k bB).length=bB.length:=by exact J q<|J k1 rfl
 have cr:(aT aE).take (cw 0 aE i)=fq (aE.take i):=by have:=zv ax<|dU _;rw[nS,hV,p2] at this;exact this
 have O:(aT aE).drop (jG aE m)=f9 (aE.drop<|m+1):=by exact J (pg o)<|J kn<|J dy<|J v4 rfl
 have y:s8 (aT aE) k bB=if m+1 -i<bB.length then 10::aT ((gp (aT aE) k bB).drop<|m+1 -i) else[]:=by unfold s8;exact J e<|J d rfl
 have g:dn aE i j bB=aE.take i++gp (aT aE) k bB++aE.drop (i+bB.length):=by refine J q ?_;rfl
 have A:gp (aT aE) k bB≠[]:=λX=>by replace hz:=X▸hz;simp at hz;exact cK .nh [.lt b1 aa,.eq b1 aa] B hz
 refine⟨?_,?_,?_⟩
 ·unfold oQ;refine J f<|J e<|J s<|J d<|J cr<|J O<|J y<|J g<|J (uO A) ?_;by_cases X:m+1 -i<bB.length
  ·refine J (if_pos X) ?_;have u:m+1=aE.length:=by exact sC (.eq (.a aa aC) ab) [.eq aa ah,.lt aa ab,.lt az a8,.sub az (.a aa aC) bS,.cN ah (.a bS dQ) ht,.sub ht ab aC,.sub dQ a8 aC] hm h X rfl rfl rfl rfl
   have l:(gp (aT aE) k bB).drop (m+1 -i)≠[]:=λz=>by have:=congrArg rv z;rw[dz,hz,ju] at this;exact ch .nh [.lt aa ab,.eq ah b1,.sub ah ab aa] X this rfl
   have w:(gp (aT aE) k bB).take (m+1 -i)≠[]:=λz=>by have:=congrArg rv z;rw[cF,hz,ju] at this;exact e3 .nh [.lt aa ab,.lt b1 ah,.eq (.a az aC) ab,.eq a8 b1,.cN a8 bS ah,.sub bS (.a az aC) aa] a4 B u this rfl rfl
   have bv:aE.drop (m+1)=[]:=i6 (by exact bH (.le aa<|.a ab aC) [.eq (.a ab aC) aa] u);have bE:aE.drop (i+bB.length)=[]:=i6 (by exact de (.le aa<|.a ab ah) [.lt az ah,.eq (.a a8 aC) aa,.sub az (.a a8 aC) ab] X u rfl);refine J bv<|J bE<|bm (Ri l) ?_;have:=xT (R:=(gp (aT aE) k bB).drop<|m+1 -i) w;rw[ho] at this;refine J this ?_;simp[f9]
  ·have C:(gp (aT aE) k bB).take (m+1 -i)=gp (aT aE) k bB:=ik (by refine J hz ?_;exact bH (.le aa ab) [.es ab aa] X);exact J (if_neg X)<|J C<|J (by exact kO (.eq (.a aa aC)<|.a ab ah) [.lt b1 ah,.eq aa az,.es a8 ah,.sub a8 (.a aa aC) ab,.cN az (.a ab bS) dQ,.sub bS ah aC] B hm X rfl rfl rfl:m+1=i+bB.length)<|J (List.nil_append _) rfl
 ·have T:∀(aF:List (List Int)),aF.length=bB.length -1->(aT aF).length+(if 1<bB.length then 1 else 0)=(aF.map λr=>r.length+1).sum:=λaF bJ=>by
   by_cases X:1<bB.length
   ·refine J (if_pos X) ?_;exact nu λz=>by replace bJ:=z▸bJ;simp at bJ;exact bH .nh [.eq b1 aa,.lt aC ab,.sub aa ab aC] bJ X rfl
   ·refine J (if_neg X) ?_;have:aF=[]:=kZ.mp (by exact ch (.eq aa b1) [.eq aa ab,.es aC ah,.sub ab ah aC] bJ X rfl);refine J this ?_;rfl
  have aA:cw 0 (dn aE i j bB) (i+bB.length -1)=cw 0 aE i+(((gp (aT aE) k bB).take<|bB.length -1).map λr=>r.length+1).sum:=by unfold cw;refine J g<|J (en _ _ _)<|J v7<|J cF<|J (dG<|by exact bH (.le aa ab) [.lt aa ab] a4)<|J (ik<|by rw[cF];exact de (.le aa ab) [.lt b1 ah,.cN aa az a8,.sub ab (.a az ah) aC] B rfl rfl)<|J (by exact de (.eq aa ab) [.sub ab ah aC,.sub aa az a8,.sub az (.a a8 ah) aC] rfl rfl rfl:i+bB.length -1 -i=bB.length -1)<|J v7<|J hz<|J (by exact ch (.eq aa b1) [.sub aa ab ah,.sub ab ah aC] rfl rfl:bB.length -1 -bB.length=0)<|J nS<|J (hV _)<|J jv<|J o0 ?_;exact hI<|.eq (.a b1<|.a aa ab)<|.a (.a b1 aa) ab
  unfold oP IC hv;refine J (if_neg h0)<|J aA<|J f<|J qz ?_;have:=T ((gp (aT aE) k bB).take<|bB.length -1) (by refine J cF<|J hz ?_;exact ch (.eq aa ab) [.sub ab ah aC,.cN aa ab ah] rfl rfl);exact e3 (.Eq (.a (.a (.a (.c aa) aC)<|.c<|.a ab ah)<|.c<|.a az a8)<|.a (.c<|.a (.a aa bS)<|.a az a8) aC) [.eq (.a ab ah) bS] this
 ·unfold oO;refine J f<|J qz<|J e<|J s<|J d ?_;have aP:((k:Int)+1)<=((jG aE m:Nat):Int)+1:=by
   have ak:cw 0 aE i+aM.length<=jG aE m:=by refine J (pg o)<|J kn<|J bK<|J pu ?_;have:=iX (aE:=mid aE i m) (r:=aM)<|d1 (i:=0) (by refine J py<|J (if_pos<|by exact bH (.lt (.a aa b1)<|.a ab aC) [.le aa ab] b)<|J (p2 _) ?_;exact ax);exact ch (.le (.a aa ab)<|.a aa ah) [.le ab ah] this
   exact de (.bW (.a (.c aa) aC)<|.a (.c ab) aC) [.le ah az,.eq aa<|.a a8 ah,.le (.a a8 az) ab] bu an ak
  have bv:(if m+1 -i<bB.length then eY (((jG aE m:Nat):Int)+1) (((jG aE m:Nat):Int)+1) (s8 (aT aE) k bB).length ((k:Int)+1) else(k:Int)+1)=(k:Int)+1:=by
   split
   ·exact EJ aP<|p8 _
   ·rfl
  refine J bv<|J an ?_;have D:∃p,bB[0]?=Y p:=⟨_,eu B⟩;obtain⟨p,D⟩:=D;have aO:(mid aE i m)[0]?=Y aM:=by refine J py<|J (if_pos<|by exact bH (.lt (.a aa b1)<|.a ab aC) [.le aa ab] b)<|J (p2 _) ?_;exact ax
  have aR:((gp (aT aE) (cw 0 aE i+j) bB).take<|m+1 -i)[0]?=Y (eU aM j p):=by refine bm an<|J oZ<|J (if_pos<|by exact ch (.lt b1 aa) [.le ab ah,.sub aa (.a ah aC) ab] b rfl)<|J q<|J hq<|J D ?_;refine(?_:Y (eU (aE[i+0]?.getD []) j p)=_);refine J (p2 _)<|J ax ?_;rfl
  have v:pad aM j=aM:=by unfold pad;refine J (by exact ch (.eq aa b1) [.le ab ah,.sub aa ab ah] bu rfl:j -aM.length=0) ?_;simp
  refine VB aO aR bu ?_ ?_ _ (by refine J d ?_;exact c1 _)
  ·unfold eU;refine J v ?_;simp only[bK,cF];exact de (.le aa<|.a (.a ab ah) az) [.le aa a8,.cN ab aa a8] bu rfl
  ·unfold eU;exact J v<|J (en _ _ _)<|J v7<|J cF<|J tm<|J (YN _)<|J (dG bu)<|J (rt _)<|J nS<|J (hV _) rfl
def n9 (bB:List (List Int)):Prop:=bB.length<=41/\∀p∈bB,b9 p/\p.length<=40
structure Rel (T:hs)(S:fO)(k:Nat):Prop where
 a2:S.a2=aT T.aV
 dY:S.dY=T.last
 et:S.et=T.cA
 h0:T.aV≠[]
 cY:∀r∈T.aV,b9 r
 ax:(aT T.aV).length<=4000
 aX:T.aV.length<=150
 last:n9 T.last
 cA:∀X∈T.cA,n9 X.2
 dx:T.cA.length<=k
 n:S.n<=k
theorem GT (C:af.lookup pt=Y h):(pt,h)∈af:=by
 induction af with
 |nil=>exact bX C
 |cons p af B=>
  rw[g4] at C;split at C
  ·rename_i X;have:=beq_iff_eq.mp X;cases C;refine J this ?_;exact .head _
  ·exact .tail _<|B C
theorem Rel.Ew (R:Rel aw au b)(an:b<=900):io aw:= ⟨R.h0,R.ax,R.aX,⟨by have:=R.last.1;exact cK (.le aa<|.k 1000) [.le aa<|.k 41] this,λp aP=>by have:=(R.last.2 p aP).2;exact cK (.le aa<|.k 1000) [.le aa<|.k 40] this⟩,by have:=R.dx;exact bH (.le aa<|.k 1000) [.le ab<|.k 900,.le aa ab] an this,λX bB C=>by have:=R.cA (X,bB)<|GT C;exact⟨a5 this.1<|by decide,λp aP=>by have:=(this.2 p aP).2;exact cK (.le aa<|.k 1000) [.le aa<|.k 40] this⟩⟩
theorem Hj:∀{h:List (List Int)},(∀r∈h,b9 r)->eK (aT h)
 |[],_=>jR
 |[r],C=>λx aL=> .inr<|C r (.head _) x aL
 |r::s::h,C=>λx aL=>by
  rcases gO.mp (aL:x∈r++10::aT (s::h)) with aL|aL
  ·exact .inr<|C r (.head _) x aL
  ·rcases fF.mp aL with rfl|aL
   ·exact .inl rfl
   ·exact Hj (λr ax=>C r<|.tail _ ax) x aL
theorem Rel.kQ (R:Rel aw au b):eK au.a2:=R.a2▸Hj R.cY
theorem UY (C:aB∈hj pt h af):aB.2=h\/aB∈af:=by
 unfold hj at C;split at C
 ·refine a9 (eF.mp C) λp aP bh=>?_;refine bm bh ?_;refine(?_:(if p.1=pt then(p.1,h) else p).2=h\/(if p.1=pt then(p.1,h) else p)∈af);split
  ·exact .inl rfl
  ·exact .inr aP
 ·rcases gO.mp C with C|C
  ·exact .inr C
  ·cases gD.mp C;exact .inl rfl
theorem UX {k:Int}{v:List (List Int)}{l:List (Int×List (List Int))}:(hj k v l).length<=l.length+1:=by
 unfold hj;split
 ·refine J (fx _) ?_;exact gb<|.le aa<|.a aa aC
 ·refine J bK ?_;simp
def n6 (S:fO)(pt mk:V):Prop:=(∀p:Nat,pt=.int p->S.pt=(p:Int)+1)/\∀p:Nat,mk=.int p->S.mp=Y ((p:Int)+1)
theorem pJ:n6 au .none .none:=⟨(λq X=>by cases X),(λq X=>by cases X)⟩
theorem short (h0:h≠[])(C:(aT h).length<=40):h.length<=41/\∀r∈h,r.length<=40:=⟨by have:=zc h0;exact bH (.le aa<|.k 41) [.le ab<|.k 40,.le aa<|.a ab aC] C this,λr ax=>by have:=iX ax;exact bH (.le aa<|.k 40) [.le ab<|.k 40,.le aa ab] C this⟩
theorem Rel.nB (R:Rel aw au j)(bi:eP aw.aV i e t b bf l):l2 aw.aV i e t b bf l:=bi.nB<|.of R.cY
theorem Rel.held (R:Rel aw au j)(bi:eP aw.aV i e t b bf l)(U:(aT aw.aV).length<=40):n9 (ib aw.aV t b bf l):=by refine bA λco aB=>gy (bi.facts) λcz cM dh y dw=>aB ?_;have:=short R.h0 U;exact QO R.cY (bH (.le aa<|.k 40) [.le ab<|.k 40,.le aa ab] U y) (cn (.le aa<|.k 41) [.lt ab ah,.le ah<|.k 41,.sub aa (.a ab aC) az] cM this.1 rfl) cM
theorem Rel.chr {S:fO}(R:Rel aw S bc)(bi:eP aw.aV bf e t b j l)(aP:∀i,b9<|ey w A aQ t b i)(ap:(w="delete")\/((aT aw.aV).length<=40/\∀i,t<=i->i<=b->(ey w A aQ t b i).length<=7)) (ak:au.a2=aT (dc w A aQ aw.aV t b j l))(ao:au.dY=h)(bp:au.et=af)(bI:n9 h)(c9:∀X∈af,n9 X.2)(er:af.length<=bc+1)(D:au.n<=bc+1):Rel ⟨dc w A aQ aw.aV t b j l,h,af,cnt⟩ au (bc+1):=by
 refine bA λco aB=>gy (bi.facts) λcz cM dh y dw=>aB<|⟨ak,ao,bp,λX=>?_,NP R.cY aP,?_,by refine J pd ?_;exact R.aX,bI,c9,er,D⟩
 ·have:=congrArg rv X;rw[pd] at this;exact R.h0<|kZ.mp this
 ·rcases ap with rfl|⟨U,ap⟩
  ·have:=NO (aE:=aw.aV) (w:="delete") (cs:=A) (aQ:=aQ) (t:=t) (b:=b) (f:=j) (l:=l) (K:=0) λi r q=>SI dh;refine a5 this ?_;rw[YB];exact R.ax
  ·have u:=short R.h0 U;have c:=uN (aE:=aw.aV) (bg:=dc w A aQ aw.aV t b j l) (K:=47) pd λi r gk ak ao=>by
    unfold dc chg at ao;rw[hq,ak] at ao;have ao:(if t<=i/\i<t+(b+1 -t) then hc w r j l (ey w A aQ t b i) else r)=gk:=Y.inj ao;refine bm ao ?_;split
    ·rename_i a4;have a:=yc (w:=w) (r:=r) (cs:=ey w A aQ t b i) dh;have b:=ap i a4.1<|cn (.le aa ab) [.le ah ab,.lt aa<|.a ah az,.sub az (.a ab aC) ah] cz a4.2 rfl;exact de (.le aa<|.a ab<|.k 47) [.le ah az,.le az<|.k 40,.le aa<|.a ab<|.a ah a8,.le a8<|.k 7] y U a b
    ·exact gb<|.le aa<|.a aa<|.k 47
   exact ch (.le aa<|.k 4000) [.le aa<|.a ab ah,.le ah<|.k 1927,.le ab<|.k 40] c (AN _ u.1) U
theorem rV (aR:w≠"number"):ey w [] aQ t b i=[]:=by unfold ey;exact J (if_neg aR) rfl
theorem Ou {S:fO}(H:ba c)(R:Rel aw S bc)(bi:eP aw.aV bf e t b j l)(C:dM ag aF I S)(a6:I a=Y (.list<|hE bf e)) (af:∀Z au,ds aF I Z->dM ag aF Z au->Rel ⟨dc "delete" [] 0 aw.aV t b j l,aw.last,aw.cA,cnt⟩ au (bc+1)->ad .none Z):bk c 10 (.ref 793) [.ref ag.cT,.ref a] ad I:=by refine bA λco aB=>gy (bi.facts) λcz cM dh y dw=>aB ?_;have cW:=R.nB bi;have bd:=R.a2;have ax:=R.ax;have hd:=xh<|kR R.kQ (by refine J bd ?_;exact dw) (by refine J bd ?_;exact bi.he);refine OF H C R.kQ (by refine J bd ?_;exact dw) (by refine J bd ?_;exact bi.he) (a5 hd<|by refine J bd ?_;exact cK (.le (.m 2 aa)<|.k 90000) [.le aa<|.k 4000] ax) (by refine J bd ?_;exact cK (.le aa<|.k 40000) [.le aa<|.k 4000] ax) a6 λZ aB aZ=>af Z _ aB aZ<|R.chr bi (λi=>by refine J (rV<|by decide) ?_;exact jR) (.inl rfl) ?_ R.dY R.et R.last R.cA (by have:=R.dx;exact bH (.le aa<|.a ab aC) [.le aa ab] this) (by have:=R.n;refine(?_:S.n<=_);exact bH (.le aa<|.a ab aC) [.le aa ab] this);refine(?_:eH S.a2 bf e (je S.a2 bf e)=_);refine J bd ?_;exact zn cW cz cM
theorem Rx {S:fO}(H:ba c)(R:Rel aw S bc)(bi:eP aw.aV bf e t b j l)(U:(aT aw.aV).length<=40)(C:dM ag aF I S)(a6:I a=Y (.list<|hE bf e)) (af:∀Z au,ds aF I Z->dM ag aF Z au->Rel ⟨dc "delete" [] 0 aw.aV t b j l,ib aw.aV t b j l,aw.cA,cnt⟩ au (bc+1)->ad .none Z):bk c 10 (.ref 779) [.ref ag.cT,.ref a] ad I:=by
 refine bA λco aB=>gy (bi.facts) λcz cM dh y dw=>aB ?_;have cW:=R.nB bi;have bd:=R.a2;refine OH H C R.kQ (by refine J bd ?_;exact dw) (by refine J bd ?_;exact bi.he) (by refine J bd ?_;exact cK (.le aa<|.k 40000) [.le aa<|.k 40] U) a6 λZ aB aZ=>af Z _ aB aZ<|R.chr bi (λi=>by refine J (rV<|by decide) ?_;exact jR) (.inl rfl) ?_ ?_ R.et (R.held bi U) R.cA (by have:=R.dx;exact bH (.le aa<|.a ab aC) [.le aa ab] this) (by have:=R.n;refine(?_:S.n<=_);exact bH (.le aa<|.a ab aC) [.le aa ab] this)
 ·refine(?_:eH S.a2 bf e (je S.a2 bf e)=_);refine J bd ?_;exact zn cW cz cM
 ·refine(?_:kG S.a2 bf e=_);refine J bd ?_;exact xs cW
theorem Oh {S:fO}(H:ba c)(R:Rel aw S bf)(bi:eP aw.aV j e t b i l)(U:(aT aw.aV).length<=40)(C:dM ag aF I S)(a6:I a=Y (.list<|hE j e)) (af:∀Z au,ds aF I Z->dM ag aF Z au->Rel ⟨aw.aV,ib aw.aV t b i l,aw.cA,cnt⟩ au (bf+1)->ad .none Z):bk c 9 (.ref 786) [.ref ag.cT,.ref a] ad I:=by refine bA λco aB=>gy (bi.facts) λcz cM dh y dw=>aB ?_;have cW:=R.nB bi;have bd:=R.a2;refine OE H C R.kQ (by refine J bd ?_;exact dw) (by refine J bd ?_;exact bi.he) (by refine J bd ?_;exact cK (.le aa<|.k 40000) [.le aa<|.k 40] U) a6 λZ aB aZ=>af Z _ aB aZ ⟨bd,?_,R.et,R.h0,R.cY,R.ax,R.aX,R.held bi U,R.cA,by have:=R.dx;refine(?_:aw.cA.length<=_);exact bH (.le aa<|.a ab aC) [.le aa ab] this,by have:=R.n;refine(?_:S.n<=_);exact bH (.le aa<|.a ab aC) [.le aa ab] this⟩;refine(?_:kG S.a2 j e=_);refine J bd ?_;exact xs cW
theorem Vj {S:fO}(H:ba c)(A:Raw bn)(ar:pt=97\/pt=98)(R:Rel aw S bc)(an:bc<=800)(bi:eP aw.aV bf e t b j l)(U:(aT aw.aV).length<=40)(C:dM ag aF I S)(a6:I a=Y (.list<|.int pt::(hE bf e++[bn])))(o:aF a) (af:∀Z au,ds aF I Z->dM ag aF Z au->Rel ⟨if bn.isNone then aw.aV else dc "delete" [] 0 aw.aV t b j l,aw.last,hj pt (ib aw.aV t b j l) aw.cA,cnt⟩ au (bc+1)->ad .none Z):bk c 11 (.ref 772) [.ref ag.cT,.ref a] ad I:=by
 refine bA λco aB=>gy (bi.facts) λcz cM dh y dw=>aB ?_;have cW:=R.nB bi;have bd:=R.a2;have D:bn=.none\/∃i,bn=.int i:=by rcases A with C|C|C<;>simp[C]
 have m:∀X∈hj pt (ib aw.aV t b j l) aw.cA,n9 X.2:=λX af=>(UY af).elim (λe=>e▸R.held bi U)<|R.cA X;have cY:=@UX pt (ib aw.aV t b j l) aw.cA;have x:=R.dx;have aX:=R.n;have w:hj pt (kG S.a2 bf e) S.et=hj pt (ib aw.aV t b j l) aw.cA:=by exact J bd<|J (xs cW)<|J R.et rfl
 refine OK H C R.kQ D (by refine J bd ?_;exact dw) (by refine J bd ?_;exact bi.he) (by refine J bd ?_;exact cK (.le aa<|.k 40000) [.le aa<|.k 40] U) (by lia) (by lia) (by refine J R.et ?_;exact bH (.le aa<|.k 900) [.le ab<|.k 800,.le aa ab] an x) a6 o λZ aB aZ=>?_;by_cases X:bn.isNone=true
 ·rw[if_pos X] at aZ;exact af Z _ aB aZ<|J (if_pos X)<|⟨bd,R.dY,w,R.h0,R.cY,R.ax,R.aX,R.last,m,by refine(?_:(hj _ _ _).length<=_);exact ch (.le aa<|.a ab aC) [.le aa<|.a ah aC,.le ah ab] cY x,by refine(?_:S.n<=_);exact bH (.le aa<|.a ab aC) [.le aa ab] aX⟩
 ·rw[if_neg X] at aZ;refine af Z _ aB aZ<|J (if_neg X)<|R.chr bi (λi=>by refine J (rV<|by decide) ?_;exact jR) (.inl rfl) ?_ R.dY w R.last m (ch (.le aa<|.a ab aC) [.le aa<|.a ah aC,.le ah ab] cY x) (by refine(?_:S.n<=_);exact bH (.le aa<|.a ab aC) [.le aa ab] aX);refine(?_:eH S.a2 bf e (je S.a2 bf e)=_);refine J bd ?_;exact zn cW cz cM
theorem xC (R:Rel aw au bc)(U:(aT aw.aV).length<=40){cs:List Int}(bi:eP aw.aV bf e t b j l)(aX:bg=(mid aw.aV t b).mapIdx λbc r=>hc w r j l<|ey w cs aQ t b<|t+bc)(a1:∀i,t<=i->i<=b->(ey w cs aQ t b i).length<=7):(aT bg).length<=2000:=by
 refine bA λco aB=>gy (bi.facts) λcz cM dh y dw=>aB ?_;have u:=short R.h0 U;have hm:=oz (aE:=aw.aV) (t:=t) cM;have ak:(aT bg).length<=(aT<|mid aw.aV t b).length+(mid aw.aV t b).length*47:=by refine uN (by exact J aX<|J k1 rfl) λi r gk ak ao=>?_;rw[aX,hq,ak] at ao;have ao:hc w r j l (ey w cs aQ t b<|t+i)=gk:=Y.inj ao;have a4:=(e8.mp ak).1;refine bm ao ?_;have a:=yc (w:=w) (r:=r) (cs:=ey w cs aQ t b<|t+i) dh;have b:=a1 (t+i) (hI<|.le aa<|.a aa ab)<|de (.le (.a aa ab) ah) [.eq az a8,.lt ab az,.sub a8 (.a ah aC) aa] hm a4 rfl;exact de (.le aa<|.a ab<|.k 47) [.le ah<|.k 40,.le az ah,.le aa<|.a ab<|.a az a8,.le a8<|.k 7] U y a b
 have ao:(aT<|mid aw.aV t b).length<=(aT aw.aV).length:=by have:=congrArg rv<|zz (aE:=aw.aV) cz cM;rw[bK,bK] at this;exact cn (.le aa ab) [.eq ab<|.a (.a ah aa) az] this
 have:(mid aw.aV t b).length*47<=41*47:=AN _<|de (.le aa<|.k 41) [.lt ab ah,.le ah<|.k 41,.eq aa az,.sub az (.a ab aC) a8] cM u.1 hm rfl;exact cn (.le aa<|.k 2000) [.le ab<|.k 40,.le aa<|.a ah az,.le ah ab,.le az<|.m 41<|.k 47] U ak ao this
theorem yP {S:fO}(H:ba c)(aR:w="open"\/w="clear"\/w="close")(R:Rel aw S bc)(bi:eP aw.aV bf e t b j l)(U:(aT aw.aV).length<=40)(C:dM ag aF I S)(d:t1.lookup w=Y (.ref cl))(a6:I ae=Y (.list<|hE bf e)) (af:∀Z au,ds aF I Z->dM ag aF Z au->Rel ⟨dc w [] 0 aw.aV t b j l,aw.last,aw.cA,cnt⟩ au (bc+1)->n6 au (if w="open" then .int bf else .none) .none->ad .none Z):bk c 10 (.ref cl) [.ref ag.cT,.ref ae] ad I:=by
 refine bA λco aB=>gy (bi.facts) λcz cM dh y dw=>aB ?_;have cW:=R.nB bi;have bd:=R.a2;have bw:w≠"number":=by rcases aR with rfl|rfl|rfl<;>decide
 have aY:∀i,t<=i->i<=b->(ey w [] 0 t b i).length<=7:=λi q q=>by refine J (rV bw) ?_;simp
 have fin:∀(au:fO),au.a2=aT (dc w [] 0 aw.aV t b j l)->au.dY=S.dY->au.et=S.et->au.n=S.n->Rel ⟨dc w [] 0 aw.aV t b j l,aw.last,aw.cA,cnt⟩ au (bc+1):=λau ak ao bp bI=> R.chr bi (λi=>by refine J (rV bw) ?_;exact jR) (.inr ⟨U,aY⟩) ak (ao.trans R.dY) (bp.trans R.et) R.last R.cA (by have:=R.dx;exact bH (.le aa<|.a ab aC) [.le aa ab] this) (by have:=R.n;exact ch (.le aa<|.a ab aC) [.eq aa ah,.le ah ab] bI this);have ar:∀g:List Int->List Int,(∀bc r,hc w r j l (ey w [] 0 t b<|t+bc)=g r)->S.a2.length+(aT<|(cx S.a2 bf e).map g).length<=90000:=λg bJ=>by have:=xC R U bi (w:=w) (cs:=[]) (aQ:=0) (bg:=(mid aw.aV t b).map g) (by refine bm yh ?_;exact qP λi a q=>(bJ i a).symm) aY;refine J bd<|J cW.rs ?_;exact bH (.le (.a aa ab)<|.k 90000) [.le aa<|.k 40,.le ab<|.k 2000] U this
 rcases aR with rfl|rfl|rfl
 ·cases d;refine OJ H C R.kQ (by refine J bd ?_;exact dw) (by refine J bd ?_;exact bi.he) (ar _ λq q=>by refine J bd<|J cW.f<|J cW.l ?_;rfl) (by refine J bd ?_;exact cK (.le aa<|.k 40000) [.le aa<|.k 40] U) a6 λZ aB aZ=>af Z _ aB aZ (fin _ ?_ rfl rfl rfl) ⟨λp aP=>?_,(λq X=>by cases X)⟩
  ·refine(?_:eH S.a2 bf e ((cx S.a2 bf e).map λr=>hL r (cD S.a2 bf e)<|cZ S.a2 bf e)=_);refine J bd<|J cW.rs<|J cW.f<|J cW.l ?_;exact s1 cW cz cM λq q=>rfl
  ·have:(p:Int)=bf:=by rw[if_pos rfl] at aP;cases aP;rfl
   refine(?_:((min bf e:Nat):Int)+1=_);exact J (dG bi.le)<|J this rfl
 ·cases d;refine OC H C R.kQ (by refine J bd ?_;exact dw) (by refine J bd ?_;exact bi.he) (ar _ λq q=>by refine J bd<|J cW.f<|J cW.l ?_;rfl) (by refine J bd ?_;exact cK (.le aa<|.k 40000) [.le aa<|.k 40] U) a6 λZ aB aZ=>af Z _ aB aZ (fin _ ?_ rfl rfl rfl) ⟨λp aP=>?_,(λq X=>by cases X)⟩
  ·refine(?_:eH S.a2 bf e ((cx S.a2 bf e).map λr=>hw r (cD S.a2 bf e)<|cZ S.a2 bf e)=_);refine J bd<|J cW.rs<|J cW.f<|J cW.l ?_;exact s1 cW cz cM λq q=>rfl
  ·rw[if_neg<|by decide] at aP;cases aP
 ·cases d;refine OD H C R.kQ (by refine J bd ?_;exact dw) (by refine J bd ?_;exact bi.he) (ar _ λq q=>by refine J bd<|J cW.f ?_;rfl) (by refine J bd ?_;exact cK (.le aa<|.k 40000) [.le aa<|.k 40] U) a6 λZ aB aZ=>af Z _ aB aZ (fin _ ?_ rfl rfl rfl) ⟨λp aP=>?_,(λq X=>by cases X)⟩
  ·refine(?_:eH S.a2 bf e ((cx S.a2 bf e).map λr=>cls r<|cD S.a2 bf e)=_);refine J bd<|J cW.rs<|J cW.f ?_;exact s1 cW cz cM λq q=>rfl
  ·rw[if_neg<|by decide] at aP;cases aP
theorem Wr {S:fO}(H:ba c)(aL:name=""\/name="x"\/name="yz")(R:Rel aw S bc)(bi:eP aw.aV bf e t b j l)(U:(aT aw.aV).length<=40)(C:dM ag aF I S)(a6:I ae=Y (.list<|hE bf e++[.str name])) (af:∀Z au,ds aF I Z->dM ag aF Z au->Rel ⟨dc "string" (d0 name) 0 aw.aV t b j l,aw.last,aw.cA,cnt⟩ au (bc+1)->n6 au (.int (cw 0 (dc "string" (d0 name) 0 aw.aV t b j l) b+(j+name.length):Nat)) .none->ad .none Z):bk c 10 (.ref 828) [.ref ag.cT,.ref ae] ad I:=by
 refine bA λco aB=>gy (bi.facts) λcz cM dh y dw=>aB ?_;have cW:=R.nB bi;have bd:=R.a2;have m:(∀n∈name.cps.toList,32<=n/\n<127)/\name.cps.toList.length<=2:=by rcases aL with rfl|rfl|rfl<;>decide+kernel
 have d:(d0 name).length=name.length:=by unfold d0;refine J (fx _)<|J eN ?_;rfl
 have g:(d0 name).length<=2:=by unfold d0;refine J (fx _) ?_;exact m.2
 have A:∀i,ey "string" (d0 name) 0 t b i=d0 name:=λi=>if_neg (by decide);have ar:=xC R U bi (w:="string") (cs:=d0 name) (aQ:=0) (bg:=(mid aw.aV t b).map λr=>jU r j l<|d0 name) (by refine bm yh ?_;exact qP λi a q=>by refine J (A _) ?_;rfl) λi q q=>by refine J (A _) ?_;exact cK (.le aa<|.k 7) [.le aa j6] g
 have v:strN S.a2 bf e (d0 name)=(mid aw.aV t b).map λr=>jU r j l (d0 name):=by unfold strN;exact J bd<|J cW.rs<|J cW.f<|J cW.l rfl
 refine OL H C R.kQ m.1 (cK (.le aa<|.k 1000) [.le aa j6] m.2) (by refine J bd ?_;exact dw) (by refine J bd ?_;exact bi.he) (by refine J v<|J bd ?_;exact bH (.le (.a aa ab)<|.k 90000) [.le aa<|.k 40,.le ab<|.k 2000] U ar) (by refine J bd ?_;exact cK (.le aa<|.k 40000) [.le aa<|.k 40] U) a6 λZ aB aZ=>af Z _ aB aZ (R.chr bi (λi=>by refine J (A _) ?_;exact H3 m.1) (.inr ⟨U,λi q q=>by refine J (A _) ?_;exact cK (.le aa<|.k 7) [.le aa j6] g⟩) ?_ R.dY R.et R.last R.cA (by have:=R.dx;exact bH (.le aa<|.a ab aC) [.le aa ab] this)<|by have:=R.n;refine(?_:S.n<=_);exact bH (.le aa<|.a ab aC) [.le aa ab] this) ⟨λp aP=>?_,(λq X=>by cases X)⟩
 ·refine(?_:eH S.a2 bf e (strN S.a2 bf e<|d0 name)=_);refine J bd ?_;exact Wl cW cz cM
 ·have bE:=Wp (cs:=d0 name) cW cz cM dh;rw[<-bd,d] at bE;have:(p:Int)=((cw 0 (dc "string" (d0 name) 0 aw.aV t b j l) b+(j+name.length):Nat):Int):=by cases aP;rfl
  refine J this<|bm bE ?_;rfl
theorem TV {S:fO}(H:ba c)(A:bn=.none/\aQ=1\/(bn=.int aQ/\(aQ=4\/aQ= -3)))(R:Rel aw S bc)(bi:eP aw.aV bf e t b j l)(U:(aT aw.aV).length<=40)(C:dM ag aF I S)(a6:I ae=Y (.list<|hE bf e++[bn]))
  (af:∀Z au,ds aF I Z->dM ag aF Z au->Rel ⟨dc "number" [] aQ aw.aV t b j l,aw.last,aw.cA,cnt⟩ au (bc+1)->ad .none Z):bk c 10 (.ref 835) [.ref ag.cT,.ref ae] ad I:=by
 refine bA λco aB=>gy (bi.facts) λcz cM dh y dw=>aB ?_
 have cW:=R.nB bi
 have bd:=R.a2
 have u:=short R.h0 U
 have aA: -3<=aQ/\aQ<=4:=by rcases A with⟨_,C⟩|⟨_,C|C⟩<;>subst C<;>decide
 have h:=oz (aE:=aw.aV) (t:=t) cM
 have a1:∀i,t<=i->i<=b->b9 (ey "number" [] aQ t b i)/\(ey "number" [] aQ t b i).length<=7:=λi ak ao=>by
  have:=yJ (w:=aQ+b -t+1) (n:=aQ+i -t) (jQ (.bW (.g<|.k 3)<|.s (.a bh<|.c aa)<|.c ab) [.bW (.g<|.k 3) bh,.le ab aa] aA.1 ak) (uT (.bW (.s (.a bh<|.c aa)<|.c ab)<|.k 200) [.lt ah az,.le az<|.k 41,.bW bh<|.k 4,.le aa ah] cM u.1 aA.2 ao) (jQ (.bW (.g<|.k 3)<|.a (.s (.a bh<|.c aa)<|.c ab) aC) [.le ab aa,.bW (.g<|.k 3) bh] cz aA.1)<|ow (.bW (.a (.s (.a bh<|.c aa)<|.c ab) aC)<|.k 200) [.lt aa ah,.le ah<|.k 41,.bW bh<|.k 4] cM u.1 aA.2
  have e:ey "number" [] aQ t b i=qY (aQ+b -t+1) (aQ+i -t):=if_pos rfl
  exact J e<|⟨H3 this.1,by unfold qY d0;refine J (fx _) ?_;exact this.2⟩
 have ar:=xC R U bi (w:="number") (cs:=[]) (aQ:=aQ) rfl λi ak ao=>(a1 i ak ao).2
 have v:gY (cx S.a2 bf e) (cD S.a2 bf e) aQ=(mid aw.aV t b).mapIdx λbc r=>hc "number" r j l (ey "number" [] aQ t b<|t+bc):=by
  refine J bd<|J cW.rs<|J cW.f ?_
  unfold gY
  refine qP λi a q=>(?_:eU a j _=eU a j (ey "number" [] aQ t b<|t+i))
  unfold ey
  refine J (if_pos rfl)<|J h ?_
  congr 2<;>(first|exact ow (.Eq (.a bh<|.c aa)<|.a (.s (.a bh<|.c ab)<|.c ah) aC) [.le ah ab,.sub aa (.a ab aC) ah] cz rfl|exact Gu<|.Eq (.a bh<|.c aa)<|.s (.a bh<|.c<|.a ab aa)<|.c ab)
 refine OI H C R.kQ (b:=aQ) (m:=bn) (A.imp id And.left) aA.1 (by refine J bd<|J cW.rs<|J h ?_;exact uT (.bW (.a bh<|.c aa)<|.k 200) [.lt ab ah,.le ah<|.k 41,.bW bh<|.k 4,.sub aa (.a ab aC) az] cM u.1 aA.2 rfl) (by refine J bd ?_;exact dw) (by refine J bd ?_;exact bi.he) (by refine J v<|J bd ?_;exact bH (.le (.a aa ab)<|.k 90000) [.le aa<|.k 40,.le ab<|.k 2000] U ar) (by refine J bd ?_;exact cK (.le aa<|.k 40000) [.le aa<|.k 40] U) a6 λZ aB aZ=>af Z _ aB aZ ?_
 have ak:eH S.a2 bf e (gY (cx S.a2 bf e) (cD S.a2 bf e) aQ)=aT (dc "number" [] aQ aw.aV t b j l):=by refine J bd ?_;exact Wk cW cz cM
 --outside of t .. b bC o do not p
 have bw:dc "number" [] aQ aw.aV t b j l≠[]:=λX=>by
  have:=congrArg rv X
  rw[pd] at this
  exact R.h0<|kZ.mp this
 have bR:∀r∈dc "number" [] aQ aw.aV t b j l,b9 r:=λgk d=>by
  obtain⟨i,a4⟩:=tt d
  unfold dc chg at a4
  rw[hq] at a4
  refine a9 (hS.mp a4) λr ax e=>?_
  have e:(if t<=i/\i<t+(b+1 -t) then hc "number" r j l (ey "number" [] aQ t b i) else r)=gk:=e
  refine bm e ?_
  split
  ·rename_i z;exact GM (R.cY _<|d1 ax) (a1 i z.1<|cn (.le aa ab) [.le ah ab,.lt aa<|.a ah az,.sub az (.a ab aC) ah] cz z.2 rfl).1
  ·exact R.cY _<|d1 ax
 have bu:(aT<|dc "number" [] aQ aw.aV t b j l).length<=4000:=by
  have:=uN (aE:=aw.aV) (bg:=dc "number" [] aQ aw.aV t b j l) (K:=47) pd λi r gk ak ao=>by
   unfold dc chg at ao
   rw[hq,ak] at ao
   have ao:(if t<=i/\i<t+(b+1 -t) then hc "number" r j l (ey "number" [] aQ t b i) else r)=gk:=Y.inj ao
   refine bm ao ?_
   split
   ·rename_i a4
    have a:=yc (w:="number") (r:=r) (cs:=ey "number" [] aQ t b i) dh
    have b:=(a1 i a4.1<|cn (.le aa ab) [.le ah ab,.lt aa<|.a ah az,.sub az (.a ab aC) ah] cz a4.2 rfl).2
    exact de (.le aa<|.a ab<|.k 47) [.le ah<|.k 40,.le az ah,.le aa<|.a ab<|.a az a8,.le a8<|.k 7] U y a b
   ·exact gb<|.le aa<|.a aa<|.k 47
  have:aw.aV.length*47<=41*47:=AN _ u.1
  lia
 exact⟨ak,R.dY,R.et,bw,bR,bu,by refine J pd ?_;exact R.aX,R.last,R.cA,by have:=R.dx;refine(?_:aw.cA.length<=_);exact bH (.le aa<|.a ab aC) [.le aa ab] this,by have:=R.n;refine(?_:S.n<=_);exact bH (.le aa<|.a ab aC) [.le aa ab] this⟩
noncomputable def uP:eW:=⟨xA,wV⟩
abbrev A4 (aF:h1):aP:=e0<|mf<|b8<|bv (dd<|bN<|bQ "point" bM) bM
abbrev YY (aF:h1):aP:=cb<|f5<|bV hA<|A4 aF
abbrev YZ (aF:h1):aP:=cb<|jK<|c0 "position"<|A4 aF
abbrev A5 (aF:h1):aP:=FR<|lm<|xH aF
@[reducible] def J5 (aF:h1):aP:=ui<|h5<|c2<|gK<|cb<|kI<|bv (A5 aF)<|cb<|jL<|aR (.str "text")<|sh<|aR (.str "point")<|gX fJ<|bV (nw true)<|bv (A5 aF)<|bN<|jJ<|b2 5<|cb<|jL<|aR (.str "text")<|ez<|bv fI<|aR (.ref 389)<|cJ<|bi 2 fI
abbrev A0 (aF:h1):aP:=jk<|bN<|dE "goto"<|jP<|kI<|bv (dd<|c2<|cq bM)<|cb<|c2<|cq bM
abbrev A2 (aF:h1):aP:=bN<|jJ<|gK<|aR (.ref 261)<|cJ<|aR (.ref 751)<|du<|e0<|bN<|jP<|kI<|bv (bi 4<|A0 aF)<|bi 5<|A0 aF
abbrev A3 (aF:h1):aP:=aR (.ref 739)<|qB<|lu<|bN<|om<|ux 38 aF mI<|A2 aF
@[reducible] def J4 (aF:h1):aP:=ui<|qB<|aR (.ref 758)<|jM<|jL<|e0<|c2<|a7<|sf<|iW<|kj [2,3]<|bN<|jJ<|b2 5<|b8<|ji<|bv (b8<|jL<|uk<|ez<|bv (aR (.ref 668)<|cJ<|bN<|b8<|jK<|kg<|ep<|cq<|A2 aF)<|A3 aF)<|A3 aF
abbrev JZ (aF:h1)(R:aP):aP:=bi 22<|aR (.str "yank")<|bV oEq<|bv (aR (.ref 800)<|cJ<|bi 9<|gj mH<|eS fj<|cq R)<|bi 7<|cJ<|bi 9<|bi 21<|ux 38 aF fj R
@[reducible] def wo:aP:=bi 12<|ji<|bv (b8<|qE<|ln<|fh<|bi 12<|bV i0<|bv (aR (.bool false) bC) bM) bM
@[reducible] def rK:aP:=bi 16<|bi 8<|bV i0<|bv (aR (.bool false) bC)<|aR (.ref 1408)<|cJ<|bi 9<|bi 14<|c2<|bv (bi 15<|ji<|bv (b8<|jJ<|fh<|bi 15<|bV i0<|bv (aR (.bool false) bC) wo) wo)<|aR (.bool false) bC
@[reducible] def wr:aP:=bi 14<|ia<|bi 13<|h3<|bi 11<|di<|bi 14<|ia<|bi 13<|gV<|h2<|di<|bi 14<|aR (.str "rows")<|kL<|aR (.ref 389)<|cJ<|b8<|cb<|lm<|mf<|bE<|gV<|fR<|fR<|gX fJ<|kj [8,12,15] rK
@[reducible] def Bj:aP:=aR (.int 120)<|aR (.int 32)<|mj<|gj fJ<|kH<|cJ<|dg<|sq<|c2<|d6<|gK<|uu<|cJ<|bi 14<|ia<|bE<|c2<|gw [13,5]<|bi 14<|ia<|bi 13<|d6<|b2 17<|cb<|mj<|ez<|bv (bi 17<|dd<|h3<|bi 17<|dd<|h2<|gj fj<|b2 11 wr)<|bi 17<|dd<|h3<|cb<|lm<|di<|bi 17<|dd<|h2<|di<|lm<|b2 11 wr
@[reducible] def Bk:aP:=aR (.ref 1401)<|cJ<|dg<|bi 14<|bi 22<|bE<|bi 20<|df<|hH<|gw [7,21,15,12,8]<|xI 16 10 JZ rK
@[reducible] def Bl:aP:=bi 22<|aR (.str "type")<|ez<|bv Bj Bk
@[reducible] def Bm:aP:=b8<|dE "goto"<|bE<|gV<|c2<|cq Bl
@[reducible] def wp:aP:=kH<|cJ<|dg<|bi 20<|df<|gV<|c2<|iW<|kj [1,22] Bm
@[reducible] def Bn:aP:=aR (.ref 1339)<|cJ<|bi 14<|ia<|e0<|bi 23<|kH<|cJ<|dg<|aR (.int 12)<|c2<|d6<|fR<|gX fJ<|kj [16,22,20]<|bi 20<|df<|aR (.int 40)<|h7<|bv (aR (.str "delete") wp)<|bi 22 wp
@[reducible] def Bo:aP:=aR (.int 4)<|kH<|cJ<|dg<|aR (.int 7)<|c2<|di<|ki em<|gv 2 Bn<|aR (.bool true) bC
@[reducible] def Bp:aP:=bi 18<|gJ<|mm<|uA ["rows","last","kept"] fJ<|b2 14<|aR (.ref 389)<|cJ<|b8<|aR (.ref 1339)<|cJ<|bi 18<|e0<|mf<|aR (.str "kill")<|aR (.str "yank")<|aR (.str "copy")<|ul<|aR (.str "insert")<|uo<|um<|sh<|aR (.str "clear")<|aR (.str "close")<|xD<|gj (gm 11 [])<|b2 23<|bi 23<|aR (.str "type")<|lm<|di<|b2 23 Bo
@[reducible] def Bq:aP:=bE<|kH<|cJ<|bN<|aR (.int 4)<|c2<|bV hA bC
@[reducible] def wq:aP:=f5<|kH<|cJ<|dg<|aR (.int 4)<|c2<|di<|ki em<|gv 13 (bi 18<|jh<|kH<|cJ<|dg<|aR (.int 7)<|c2<|ki em<|hb [19,6] Bq<|nk<|cq bM) Bp
@[reducible] def wC:aP:=a7<|aR (.int 60)<|f8<|uz false true<|fA<|hb [] (a7<|dS cAbs em bC)<|ei<|gj fj<|aR (.ref 1321)<|cJ<|aR (.ref 1132)<|cJ<|eS mH<|fR<|fR<|ep<|iW<|gw [6,9]<|bi 9<|sl<|dE "create"<|aR (.str "a")<|c2<|aR (.int 97)<|aR (.int 98)<|aR (.int 32)<|aR (.int 99)<|gj mI<|iW<|gw [3,19]<|bi 9<|sl<|dE "select"<|b8<|mf<|aR (.ref 704)<|cJ<|eS mH<|bi 9<|bQ "registers"<|gJ<|b2 18 wq
theorem Gf (H:ba c):fG c uP:=⟨H.ok,GI (P:=n2 c) H.gl.sp.2,EZ (P:=qk c) H.ff.sp.2⟩
theorem EH {n:Nat}{aF:tF}(H:ba c)(i:Nat)(a:Addr)(Q:List Str)(ag:h1->aP)(us ai:List V)(aK:(eX f0 iU i).a=a)(aR:(λaF=>IG 38 uP (eX f0 iU i).s (eX f0 iU i).nm Q (eX f0 iU i).b aF bM)=ag)(hd:(eX f0 iU i).g8=[])(ap:us.length=(eX f0 iU i).bB.length) (m:us++[]++eb ((eX f0 iU i).nm.length -(eX f0 iU i).bB.length) .aD=ai)(C:ag (λas _ Z=>aF as Z) (d5 c (n+2) ad) ai [] I):lT c 38 (n+2+1) (.ref a) us ad aF I:=by rw[<-aK];refine Pp (Q:=Q) (Gf H) H.IB ((H.x i).z hd) (vt<|q5.sp.2.hK (d:=f0) q5.hd i) ap ?_;rw[m];rw[<-aR] at C;exact C
def NL {n:Nat}(H:ba c):=EH (n:=n) (ad:=ad) (aF:=fW) (I:=I) H 0 739 [] J5 [ar,aS,bl,bP] [ar,aS,bl,bP,.aD,.aD] (by kernel_rfl) (by kernel_rfl) (by kernel_rfl) (by kernel_rfl) (by kernel_rfl)
def NK {n:Nat}(H:ba c):=EH (n:=n) (ad:=ad) (aF:=fW) (I:=I) H 1 765 ["insert_register"] J4 [ar,aS] [ar,aS,.aD,.aD,.aD,.aD] (by kernel_rfl) (by kernel_rfl) (by kernel_rfl) (by kernel_rfl) (by kernel_rfl)
theorem MO {n:Nat}(H:ba c)(C:wC (d5 c (n+2) ad) [ar,.aD,.aD,.aD,.aD,.aD,.aD,.aD,.aD,.aD,.aD,.aD,.aD,.aD,.aD,.aD,.aD,.aD,.aD,.aD,.aD,.aD,.aD,.aD] [] I)(aQ:fz b5 (n+2+1))(aE:b5.frames=Y [])(S:bz c I s)(O:(V.ref 1413).is ee)(bb:cj [ar] bs) (cd:∀v aH,dV c I s ad v aH->R (.ok<|.ret v) aH):jX c.M b5 (.call ee ⟨bs,[]⟩) R s:= Po (cf:=uP) (Q:=["deed"]) (Gf H) H.IB ((H.x 2).z rfl) (vt<|q5.sp.2.hK (d:=f0) q5.hd 2) rfl (by rw[show IF 38 uP _ (eX f0 iU 2).nm ["deed"] _ bM=wC by kernel_rfl];exact C) aQ aE S O bb cd
theorem H6 (h0:h≠[]):(h.map λr=>r.length+1).sum=(aT h).length+1:=(nu h0).symm
theorem Wv {K:Nat}:∀{l:List (List Int)},(∀r∈l,r.length+1<=K)->(l.map λr=>r.length+1).sum<=l.length*K:=by
 intro D;induction D with
 |nil=>intro o;simp
 |cons r l B=>intro C;have:=B λx aL=>C x<|.tail _ aL;have:=C r<|.head _;refine J hQ<|J p6<|J fe<|J (Nat.add_mul _ _ _) ?_;exact cn (.le (.a (.a aa aC) ab)<|.a ah<|.m 1 az) [.le ab ah,.le (.a aa aC) az] ‹_› this
theorem US (a4:i<=h.length)(C:A∈dn h i j bg):A∈h\/∃(n:Nat) (p:List Int),p∈bg/\A=eU (h[n]?.getD []) j p:=by
 obtain⟨n,aX⟩:=tt C;rw[q3 a4] at aX;split at aX
 ·exact .inl<|d1 aX
 ·split at aX
  ·refine a9 (hS.mp aX) λp aP bh=>?_;refine bm bh ?_;exact .inr<|fv n p (d1 aP) rfl
  ·exact .inl<|d1 aX
theorem UR {j:Nat}{r p:List Int}:(eU r j p).length<=max r.length j+p.length:=by unfold eU;have:=oH (aM:=r) (bf:=j);simp only[bK,cF,dz];exact e3 (.le (.a (.a aa ab) ah)<|.a az ab) [.eq a8 az,.cN aa bS a8,.sub ah a8 bS] this rfl rfl
theorem Hv (h0:h≠[])(aP:∀r∈h,b9 r)(U:(aT h).length<=40)(aQ:At h bc i j)(m:n9 bg):dn h i j bg≠[]/\(∀r∈dn h i j bg,b9 r)/\(aT<|dn h i j bg).length<=4000/\(dn h i j bg).length<=150:=by
 refine d8 aQ λaM ax bu an=>?_;clear aQ;have a4:=(e8.mp ax).1;have u:=short h0 U;have ap:=sV (j:=j) (bB:=bg)<|hp a4;have f:=u.2 aM<|d1 ax;have c:=m.1;have ne:dn h i j bg≠[]:=λX=>by rw[X,ju] at ap;exact cn .nh [.lt aa ab,.eq b1 ah,.e4 ah ab<|.a aa az] a4 ap rfl
 refine⟨ne,λr ax=>?_,?_,by exact de (.le aa<|.k 150) [.lt ab ah,.le ah<|.k 41,.eq aa az,.le a8<|.k 41,.e4 az ah<|.a ab a8] a4 u.1 ap c rfl⟩
 ·rcases US (hp a4) ax with C|bo
  ·exact aP r C
  ·refine dT bo λn p g bt=>?_;clear bo;subst bt;have aA:b9 (h[n]?.getD []):=by
    cases X:h[n]? with
    |none=>exact jR
    |some y=>exact aP y<|d1 X
   unfold eU;intro x aL;rcases gO.mp aL with aL|aL
   ·rcases gO.mp aL with aL|aL
    ·exact mD aA x<|lN aL
    ·exact(m.2 p g).1 x aL
   ·exact mD aA x<|nR aL
 ·have ak:=H6 ne;have ao:=H6 h0;have e:h=h.take i++h.drop i:=(ho i h).symm;have dA:((h.drop<|i+bg.length).map λr=>r.length+1).sum<=((h.drop i).map λr=>r.length+1).sum:=by
   conv=>rhs;rw[<-ho bg.length (h.drop i),jv,o0,JB]
   exact hI<|.le aa<|.a ab aa
  have s:((h.take i).map λr=>r.length+1).sum+((h.drop i).map λr=>r.length+1).sum=(h.map λr=>r.length+1).sum:=by conv=>rhs;rw[e,jv,o0]
  have aO:(((bg.mapIdx λn p=>eU (h[i+n]?.getD []) j p)).map λr=>r.length+1).sum<=bg.length*81:=by
   have:=Wv (K:=81) (l:=bg.mapIdx λn p=>eU (h[i+n]?.getD []) j p) λr ax=>by
    obtain⟨n,aX⟩:=tt ax;rw[hq] at aX;refine a9 (hS.mp aX) λp aP bh=>?_;refine bm bh ?_;have a:=@UR j (h[i+n]?.getD []) p;have b:=(m.2 p<|d1 aP).2;have d:(h[i+n]?.getD []).length<=40:=by
     cases X:h[i+n]? with
     |none=>simp
     |some y=>exact u.2 y<|d1 X
    exact e3 (.le (.a aa aC)<|.k 81) [.le ab ah,.le ah<|.k 40,.le aa<|.a az a8,.le a8<|.k 40,.le bS<|.k 40,.e4 az bS ab] bu f a b d rfl
   rwa[k1] at this
  have al:bg.length*81<=41*81:=AN _ c;unfold dn at ak;rw[jv,jv,o0,o0] at ak;unfold dn;exact sC (.le az<|.k 4000) [.eq (.a (.a aa ab) ah)<|.a az aC,.eq (.a aa a8) bS,.eq bS<|.a dQ aC,.le dQ<|.k 40,.le ah a8,.le ab ht,.le ht<|.k 3321] ak s ao U dA aO al
theorem KI {aE bB:List (List Int)}{j i bc:Nat}(h0:aE≠[])(aQ:At aE bc i j):bc<=hv aE bc i j bB/\hv aE bc i j bB<=(aT<|dn aE i j bB).length:=by
 refine d8 aQ λaM ax bu an=>?_;clear aQ;have a4:=(e8.mp ax).1;unfold hv;by_cases X:bB=[]
 ·refine J (if_pos X)<|J X<|J vm ?_;have:=qr ax;exact⟨c1 _,by exact de (.le aa ab) [.le ah az,.eq aa<|.a a8 ah,.le (.a a8 az) ab] bu an this⟩
 ·refine J (if_neg X) ?_;have dA:=rz.mpr X;obtain⟨p,aP⟩:∃p,bB[bB.length -1]?=Y p:=⟨_,eu<|by exact bH (.lt aa ab) [.lt b1 ab,.sub aa ab aC] dA rfl⟩;have T:bB.getLastD []=p:=by refine J AK<|J ru<|J aP ?_;rfl
  have ap:=sV (j:=j) (bB:=bB)<|hp a4;have bJ:=q3 (j:=j) (bB:=bB) (hp a4)<|i+bB.length -1;rw[if_neg<|by exact ch (.es aa ab) [.lt b1 ah,.sub aa (.a ab ah) aC] dA rfl,if_pos<|by exact ch (.lt aa<|.a ab ah) [.lt b1 ah,.sub aa (.a ab ah) aC] dA rfl,show i+bB.length -1 -i=bB.length -1 by exact de (.eq aa ab) [.sub ab ah aC,.sub aa az a8,.sub az (.a a8 ah) aC] rfl rfl rfl,aP] at bJ;have aA:=qr bJ;have bL:j+p.length<=(eU (aE[i+bB.length -1]?.getD []) j p).length:=by unfold eU;have:=oH (aM:=aE[i+bB.length -1]?.getD []) (bf:=j);simp only[bK,cF,dz];exact kO (.le (.a aa ab)<|.a (.a ah ab) az) [.eq a8 bS,.cN ah aa a8,.e4 bS dQ aa] this rfl rfl
  have hm:=Ev (aE:=dn aE i j bB) (by exact ch (.le aa ab) [.lt b1 ah,.sub ab (.a aa ah) aC] dA rfl:i<=i+bB.length -1) (by exact e3 (.le aa ab) [.eq ab ah,.sub aa (.a az a8) aC,.e4 ah bS<|.a az a8] ap rfl rfl);have he:cw 0 (dn aE i j bB) i=cw 0 aE i:=by unfold cw dn;exact J (en _ _ _)<|J (tq<|by rw[cF];exact ch (.le aa ab) [.lt aa ah,.cN ab aa ah] a4 rfl)<|J tm<|J (YN _) rfl
  refine J T ?_;exact⟨by exact e3 (.le aa<|.a ab<|.a ah az) [.eq aa<|.a a8 ah,.le bS ab,.eq bS a8] an hm he,de (.le (.a aa<|.a ab ah) az) [.le (.a aa a8) az,.le (.a ab ah) a8] aA bL⟩
theorem Xc {S:fO}(H:ba c)(R:Rel aw S b)(an:b<=12)(N:S.pt=(bc:Int)+1)(aQ:At aw.aV bc i j)(U:(aT aw.aV).length<=40)(C:dM ag aF I S){v:V}(a6:v≠.aD) (af:∀Z au,ds aF I Z->dM ag aF Z au->Rel ⟨dn aw.aV i j aw.last,aw.last,aw.cA,cnt⟩ au (b+1)->n6 au (.int (hv aw.aV bc i j aw.last:Nat)) (.int bc)->ad .none Z):bk c 10 (.ref 800) [.ref ag.cT,v] ad I:=by
 have bd:=R.a2;have aX:=R.n;have T:=aQ;refine d8 T λaM ax bu f=>?_;clear T;have x:bc<=(aT aw.aV).length:=by have:=qr ax;exact de (.le aa ab) [.le ah az,.eq aa<|.a a8 ah,.le (.a a8 az) ab] bu f this
 have g0:=Hv R.h0 R.cY U aQ R.last;refine OM H C R.kQ N (by refine J bd ?_;exact x) (by refine J bd ?_;exact cK (.le aa<|.k 60) [.le aa<|.k 40] U) (bH (.le aa<|.k 14) [.le ab<|.k 12,.le aa ab] an aX) (by refine J R.dY ?_;have:=R.last.1;exact cK (.le aa<|.k 61) [.le aa<|.k 41] this) (λr ax=>by rw[R.dY] at ax;have:=R.last.2 r ax;exact⟨this.1,by exact cK (.le aa<|.k 60) [.le aa<|.k 40] this.2⟩) a6 λZ aB aZ=>?_;by_cases X:S.dY=[]
 ·rw[if_pos X] at aZ;have bB:aw.last=[]:=by refine bm R.dY ?_;exact X
  refine af Z _ aB aZ ⟨?_,R.dY,R.et,g0.1,g0.2.1,g0.2.2.1,g0.2.2.2,R.last,R.cA,by have:=R.dx;refine(?_:aw.cA.length<=_);exact bH (.le aa<|.a ab aC) [.le aa ab] this,by refine(?_:S.n+1<=_);exact bH (.le (.a aa aC)<|.a ab aC) [.le aa ab] aX⟩ ⟨λp aP=>?_,λp aP=>?_⟩
  ·refine J bB<|J vm ?_;exact bd
  ·have:(p:Int)=((hv aw.aV bc i j aw.last:Nat):Int):=by cases aP;rfl
   unfold hv at this;rw[if_pos bB] at this;refine J this ?_;exact N
  ·have:(p:Int)=(bc:Nat):=by cases aP;rfl
   refine J this ?_;exact congrArg Y N
 ·rw[if_neg X] at aZ;have bB:aw.last≠[]:=by refine bm R.dY ?_;exact X
  have aE:=IS (.of R.cY) aQ bB;refine af Z _ aB aZ ⟨?_,R.dY,R.et,g0.1,g0.2.1,g0.2.2.1,g0.2.2.2,R.last,R.cA,by have:=R.dx;refine(?_:aw.cA.length<=_);exact bH (.le aa<|.a ab aC) [.le aa ab] this,by refine(?_:S.n+1<=_);exact bH (.le (.a aa aC)<|.a ab aC) [.le aa ab] aX⟩ ⟨λp aP=>?_,λp aP=>?_⟩
  ·refine(?_:oQ S.a2 bc S.dY=_);refine J bd<|J R.dY ?_;exact aE.a2
  ·have:(p:Int)=((hv aw.aV bc i j aw.last:Nat):Int):=by cases aP;rfl
   refine J this<|(?_:oP S.a2 bc S.dY=_);refine J bd<|J R.dY ?_;exact aE.pt
  ·have:(p:Int)=(bc:Nat):=by cases aP;rfl
   refine J this<|(?_:Y (oO S.a2 bc S.dY S.pt)=_);exact J bd<|J R.dY<|J N<|J aE.mark rfl
theorem Q1 {S:fO}(H:ba c)(A:Raw bn)(ar:pt=97\/pt=98)(R:Rel aw S b)(an:b<=12)(N:S.pt=(bc:Int)+1)(aQ:At aw.aV bc i j)(U:(aT aw.aV).length<=40)(ap:aw.cA.lookup pt=Y h)(C:dM ag aF I S)(a6:I a=Y (.list [.int pt,bn]))(o:aF a)
  (af:∀Z au,ds aF I Z->dM ag aF Z au->Rel ⟨dn aw.aV i j h,aw.last,aw.cA,cnt⟩ au (b+1)->n6 au (.int (if bn.isNone then bc else hv aw.aV bc i j h:Nat)) (.int (if bn.isNone then hv aw.aV bc i j h else bc:Nat))->ad .none Z):bk c 11 (.ref 765) [.ref ag.cT,.ref a] ad I:=by
 have bd:=R.a2
 have aX:=R.n
 have T:=aQ
 refine d8 T λaM ax bu f=>?_;clear T
 have x:bc<=(aT aw.aV).length:=by have:=qr ax;exact de (.le aa ab) [.le ah az,.eq aa<|.a a8 ah,.le (.a a8 az) ab] bu f this
 have m:n9 h:=R.cA _<|GT ap
 have g0:=Hv R.h0 R.cY U aQ m
 have D:bn=.none\/∃i,bn=.int i:=by rcases A with C|C|C<;>simp[C]
 have ff:=KI (bB:=h) R.h0 aQ
 --bC bJ,in bC d c3
 have g:(S.hn bc h).a2=aT (dn aw.aV i j h)/\(S.hn bc h).pt=((hv aw.aV bc i j h:Nat):Int)+1/\(S.hn bc h).dY=S.dY/\(S.hn bc h).et=S.et/\(S.hn bc h).n=S.n:=by
  unfold fO.hn
  by_cases X:h=[]
  ·refine J (if_pos X)<|J X<|J vm<|⟨bd,?_,rfl,rfl,rfl⟩
   unfold hv;refine J (if_pos rfl) ?_;exact N
  ·refine J (if_neg X) ?_
   have aE:=IS (.of R.cY) aQ X
   refine⟨?_,?_,rfl,rfl,rfl⟩
   ·refine(?_:oQ S.a2 bc h=_)
    refine J bd ?_;exact aE.a2
   ·refine(?_:oP S.a2 bc h=_)
    refine J bd ?_;exact aE.pt
 refine gy g λl e w B v=>?_;clear g
 refine OG H C R.kQ D N (by refine J bd ?_;exact x) (by refine J bd ?_;exact cK (.le aa<|.k 60) [.le aa<|.k 40] U) (bH (.le aa<|.k 14) [.le ab<|.k 12,.le aa ab] an aX) (by lia) (by lia) (by refine J R.et ?_;exact ap) (by have:=m.1;exact cK (.le aa<|.k 61) [.le aa<|.k 41] this) (λr ax=>by have:=m.2 r ax;exact⟨this.1,by exact cK (.le aa<|.k 60) [.le aa<|.k 40] this.2⟩) a6 o (by refine J e ?_;exact gb<|.bW aC<|.a (.c aa) aC) (by refine J l<|J e ?_;exact bH (.bW (.a (.c aa) aC)<|.a (.c ab) aC) [.le aa ab] ff.2) (by refine J N<|J l ?_;exact ch (.bW (.a (.c aa) aC)<|.a (.c ab) aC) [.le aa ah,.le ah ab] ff.1 ff.2) v λZ aB aZ=>?_
 refine af Z _ aB aZ ⟨l,w.trans R.dY,B.trans R.et,g0.1,g0.2.1,g0.2.2.1,g0.2.2.2,R.last,R.cA,by have:=R.dx;refine(?_:aw.cA.length<=_);exact bH (.le aa<|.a ab aC) [.le aa ab] this,by refine(?_:S.n+1<=_);exact bH (.le (.a aa aC)<|.a ab aC) [.le aa ab] aX⟩ ⟨λp aP=>?_,λp aP=>?_⟩
 ·have:(p:Int)=((if bn.isNone then bc else hv aw.aV bc i j h:Nat):Int):=by cases aP;rfl
  refine J this<|(?_:(if bn.isNone then S.pt else(S.hn bc h).pt)=_)
  split
  ·exact N
  ·exact e
 ·have:(p:Int)=((if bn.isNone then hv aw.aV bc i j h else bc:Nat):Int):=by cases aP;rfl
  refine J this<|(?_:Y (if bn.isNone then(S.hn bc h).pt else S.pt)=_)
  split
  ·exact congrArg Y e
  ·exact congrArg Y N
theorem Vi (H:ba c)(ar:pt=97\/pt=98)(R:Rel aw au b)(ap:aw.cA.lookup pt=am)(C:dM ag aF I au)(a6:I a=Y (.list [.int pt,bn])) (bJ:∀m Z,bF I Z->Z m=Y (.list [.str "Register does not contain text"])->I m=am->fW [("symbol",.str "user-error"),("data",.ref m)] Z):lT c 38 12 (.ref 765) [.ref ag.cT,.ref a] ad fW I:=by refine kP C λmk aW bL last bO w=>?_;clear C;obtain⟨f,d4⟩:=w.E.d4;refine a9 (w.G) λal g x=>?_;have aR:=(y7 (k:=pt) x).1 (by refine J R.et ?_;exact ap);refine NK (n:=9) H ⟨(H.f 72),c8 w.E.he d4 rfl ⟨(H.f 77),cU (k:=0) a6 rfl (da rfl)<|ca<|zi H (by clear bJ;lia) (by clear bJ;lia)<|ca<|su H w.E g ?_⟩⟩;refine J aR<|dq w.E.he d4 rfl (H.m 24)<|ca<|xe H w.E ⟨cv rfl,λt ay n₁=>eE n₁.at rfl ?_⟩;have d:=w.ext n₁.ext;refine fU (d.B.R.dB) λv h i dB=>?_;obtain⟨j,e⟩:=d.E.d4;refine c8 d.B.R.aA dB rfl<|kr<|sT (u:=.none) trivial ⟨(H.y 0),c8 d.E.he e rfl<|cU (k:=0) (n₁.ext _ _ a6) rfl (da rfl) ?_⟩;refine(NL (n:=0) H ⟨(H.f 72),ca<|su H d.E (n₁.ext _ _ g) ?_⟩).up (by clear bJ;lia);exact J aR<|Hi (u:=.none) trivial ⟨cv rfl,λm aN o=>bJ m aN (n₁.ext.trans o.ext) o.at (n₁.ext.none o.1)⟩
theorem px {n:Nat}(C:i7 (n+1) 900=true):n<900:=mQ C
theorem JO (H:ba c)(af:∀a Z,bF I Z->ad (.ref a) Z):bk c 2 (.ref 1153) [] ad I:=by refine mx H.ok (H.k 0) λa d ay m=>Lv (n:=0) H<|iE m.fB m.id (H.d 0) (px<|by kernel_rfl) λe a3=>?_;replace m:=m.step a3;refine iE m.fB m.id (H.d 1) (px<|by kernel_rfl) λe a3=>?_;replace m:=m.step a3;exact⟨rfl,af _ _ m.ext⟩
theorem J0 (H:ba c)(af:∀a d N Z,bF I Z->I a=am->I d=am->I N=am->Z a=Y (.inst 704 d)->Z d=Y (.attrs 704<|r4<|.ref N)->Z N=Y (.cP [])->ad (.ref a) Z):bk c 2 (.ref 704) [] ad I:=by refine mx H.ok (H.k 8) λa d ay m=>Mc (n:=0) H<|λN e j=>?_;have aK:=m.ext.none j.1;have aw:=j.at;replace m:=m.grow j.ext;refine iE m.fB m.id (H.d 74) (px<|by kernel_rfl) λe a3=>?_;replace aw:=a3.keep m.id aw;replace m:=m.step a3;replace m:=SV▸m;exact⟨rfl,af _ _ _ _ m.ext m.na m.fb aK m.fB m.id aw⟩
theorem JP (H:ba c)(af:∀iw jF f4 dA ff Z,bF I Z->I iw=am->I jF=am->I f4=am->I dA=am->I ff=am->dA≠ff->Z iw=Y (.inst 1132 jF)->Z jF=Y (.attrs 1132<|nf (.ref f4) (.ref dA) (.int 0) (.int 0) (.int 0)<|.ref ff)-> Z f4=Y (.cP [])->Z dA=Y (.list [])->Z ff=Y (.list [])->ad (.ref iw) Z):bk c 2 (.ref 1132) [] ad I:=by refine mx H.ok (H.k 2) λa d ay m=>Lz (n:=0) H<|λf4 e j=>?_;have bn:=m.ext.none j.1;have gu:=j.at;replace m:=m.grow j.ext;refine gn m (H.d 22) (by kernel_rfl) ?_;intro f e a3 m;replace gu:=a3 gu nofun;refine bx (cv rfl) λdA e j=>?_;have bg:=m.ext.none j.1;replace gu:=j.ext _ _ gu;have b:=j.at;replace m:=m.grow j.ext;refine gn m (H.d 23) (by kernel_rfl) ?_;intro g e a3 m;replace gu:=a3 gu nofun;replace b:=a3 b nofun;refine gn m (H.d 24) (by kernel_rfl) ?_;intro h e a3 m;replace gu:=a3 gu nofun;replace b:=a3 b nofun;refine gn m (H.d 25) (by kernel_rfl) ?_;intro i e a3 m;replace gu:=a3 gu nofun;replace b:=a3 b nofun;refine gn m (H.d 26) (by kernel_rfl) ?_;intro l e a3 m;replace gu:=a3 gu nofun;replace b:=a3 b nofun;refine bx (cv rfl) λff e j=>?_;have bw:=cQ b j.1;have b7:=m.ext.none j.1;replace gu:=j.ext _ _ gu;replace b:=j.ext _ _ b;have A:=j.at;replace m:=m.grow j.ext;refine gn m (H.d 27) (by kernel_rfl) ?_;intro o e a3 m;replace gu:=a3 gu nofun;replace b:=a3 b nofun;replace A:=a3 A nofun;replace m:=m.as SO;exact⟨rfl,af _ _ _ _ _ _ m.ext m.na m.fb bn bg b7 bw m.fB m.id gu b A⟩
theorem JV (H:ba c)(af:∀cT kE eT bO (f:Nat->V) Z,bF I Z->I cT=am->I kE=am->I eT=am->I bO=am->Z cT=Y (.inst 1321 kE)-> Z kE=Y (.attrs 1321<|jH (.ref ae) (f 1) (f 2) (f 3) (f 4) (f 5) (f 6) (f 7) (f 8) (f 9) (f 10) (f 11) (f 12) (f 13) (f 14) (f 15) (f 16) (f 17) (f 18) (f 19) (.ref eT) (f 21) (f 22) (f 23) (f 24) (f 25) (f 26) (f 27) (f 28) (.int 8) (.ref bO) (f 31)<|f 32)-> Z eT=Y (.cP [])->Z bO=Y (.list [])->ad (.ref cT) Z):bk c 4 (.ref 1321) [.ref ae,.none,.none] ad I:=by refine mx H.ok (H.k 3) λa d ay m=>LL (n:=2) H<|e7 m (H.d 28) (by kernel_rfl) ?_;intro p e m;refine e7 m (H.d 29) (by kernel_rfl) ?_;intro q e m;refine e7 m (H.d 30) (by kernel_rfl) ?_;intro t e m;refine λl e j=>?_;replace m:=m.grow j.ext;refine e7 m (H.d 31) (by kernel_rfl) ?_;intro u e m;refine bx (cv rfl) λo e j=>?_;replace m:=m.grow j.ext;refine e7 m (H.d 32) (by kernel_rfl) ?_;intro v e m;refine e7 m (H.d 33) (by kernel_rfl) ?_;intro w e m;refine e7 m (H.d 34) (by kernel_rfl) ?_;intro x e m;refine e7 m (H.d 35) (by kernel_rfl) ?_;intro y e m;refine e7 m (H.d 36) (by kernel_rfl) ?_;intro A e m;refine e7 m (H.d 37) (by kernel_rfl) ?_;intro B e m;refine e7 m (H.d 38) (by kernel_rfl) ?_;intro C e m;refine e7 m (H.d 39) (by kernel_rfl) ?_;intro D e m;refine e7 m (H.d 40) (by kernel_rfl) ?_;intro E e m;refine e7 m (H.d 41) (by kernel_rfl) ?_;intro F e m;refine e7 m (H.d 42) (by kernel_rfl) ?_;intro G e m;refine e7 m (H.d 43) (by kernel_rfl) ?_;intro J e m;refine e7 m (H.d 44) (by kernel_rfl) ?_;intro K e m;refine e7 m (H.d 45) (by kernel_rfl) ?_;intro L e m;refine λg e j=>?_;replace m:=m.grow j.ext;refine e7 m (H.d 46) (by kernel_rfl) ?_;intro M e m;refine λrun e j=>?_;replace m:=m.grow j.ext;refine e7 m (H.d 47) (by kernel_rfl) ?_;intro N e m;refine λeT e j=>?_;have a6:=m.ext.none j.1;have h:=j.at;replace m:=m.grow j.ext;refine gn m (H.d 48) (by kernel_rfl) ?_;intro O e a3 m;replace h:=a3 h nofun;refine bx (H.k 0).keep<|ca<|JO H λb e g3=>?_;replace h:=g3 _ _ h;replace m:=m.grow g3;refine gn m (H.d 49) (by kernel_rfl) ?_;intro P e a3 m;replace h:=a3 h nofun;refine gn m (H.d 50) (by kernel_rfl) ?_;intro Q e a3 m;replace h:=a3 h nofun;refine gn m (H.d 51) (by kernel_rfl) ?_;intro R e a3 m;replace h:=a3 h nofun;refine gn m (H.d 52) (by kernel_rfl) ?_;intro S e a3 m;replace h:=a3 h nofun;refine gn m (H.d 53) (by kernel_rfl) ?_;intro T e a3 m;replace h:=a3 h nofun;refine gn m (H.d 54) (by kernel_rfl) ?_;intro U e a3 m;replace h:=a3 h nofun;refine gn m (H.d 55) (by kernel_rfl) ?_;intro W e a3 m;replace h:=a3 h nofun;refine gn m (H.d 56) (by kernel_rfl) ?_;intro X e a3 m;replace h:=a3 h nofun;refine gn m (H.d 57) (by kernel_rfl) ?_;intro aa e a3 m;replace h:=a3 h nofun;refine bx (cv rfl) λbO e j=>?_;have a8:=m.ext.none j.1;replace h:=j.ext _ _ h;have s:=j.at;replace m:=m.grow j.ext;refine gn m (H.d 58) (by kernel_rfl) ?_;intro ab e a3 m;replace h:=a3 h nofun;replace s:=a3 s nofun;refine gn m (H.d 59) (by kernel_rfl) ?_;intro ag e a3 m;replace h:=a3 h nofun;replace s:=a3 s nofun;refine gn m (H.d 60) (by kernel_rfl) ?_;intro ah e a3 m;replace h:=a3 h nofun;replace s:=a3 s nofun;replace m:=m.as SP;exact⟨rfl,af a d eT bO (λi=>hK (V.none::V.none::V.none::V.ref l::V.ref o::V.none::V.none::V.none::V.none::V.none::V.none::V.none::V.none::V.none::V.none::V.none::V.none::V.none::V.ref g::V.ref run::V.none::V.ref b::V.str ""::V.bool false::V.bool false::V.none::V.none::V.none::V.int 70::V.none::V.none::V.none::V.none::[]) i) _ m.ext m.na m.fb a6 a8 m.fB m.id h s⟩
def wc (g bT cl hJ km ek:Addr)(I:aI):Prop:=gP g bT cl I []/\I hJ=Y (.inst 201 km)/\I km=Y (.attrs 201<|kF<|.ref ek)/\I ek=Y (.cP [])
def AS (g bT cl hJ km ek ls:Addr)(I:aI):Prop:=wc g bT cl hJ km ek I/\I ls=Y (.list [])
def wi (aZ:aI->Prop):Prop:=∀{I D:aI} {d:Addr} {al:List (Str×V)} {o:O},I d=Y (.attrs 1028 al)->Upd I D d o->aZ I->aZ D
theorem lb:wi (wc a bT cl N b0 ej):=λhd k j=>gM j λT ak ao bp=> ⟨T.fr (L:=No) (D:=No) (ae:=λK=>K=1028) (.i3 k hd rfl) id<|by decide,k.keep hd ak,k.keep hd ao,k.keep hd bp⟩
theorem pa:wi (AS a bT cl ae N b0 ej):=λhd k j=>⟨lb hd k j.1,k.keep hd j.2⟩
theorem iF {P:aI->Prop}(K:wi aZ)(m:hX 1028 a cl ce Z I)(j:aZ I)(hd:fP c.K 1028 w=true)(aq:i7 (ce.length+1) 900=true)(af:let e:=bJ w u ce;∀D,aZ D->hX 1028 a cl e Z D->P D): ∃ae cl ce,I a=Y (.inst ae cl)/\I cl=Y (.attrs ae ce)/\fP c.K ae w=true/\ce.length<900/\∀D,Upd I D cl (.attrs ae<|bJ w u ce)->P D:=(pQ 1028 cl ce m.fB m.id hd (mQ aq) λD k=>af D (K m.id k j)<|m.step k)
theorem JQ (H:ba c)(af:∀(W:lR) Z,bF I Z->I W.b=am->I W.ls=am->I W.cl=am->I W.ek=am->b3 W Z [] 1 .none []->ad (.ref W.b) Z):bk c 4 (.ref 1028) [.int 1,.str "a"] ad I:=by
 refine mx H.ok (H.k 1) λa d ay m=>LI (n:=2) H<|e7 m (H.d 2) (by kernel_rfl) ?_;intro bE e m;refine e7 m (H.d 3) (by kernel_rfl) ?_;intro dA e m;refine bx (H.k 4).keep<|bx (cv rfl) λN F na=>ca<|JW H na.at λg bT cl e g3 bO C S T=>?_;have h:=m.ext.none<|na.ext.none S;have g3:=na.ext.trans g3;replace m:=m.grow g3;refine iE m.fB m.id (H.d 4) (px<|by kernel_rfl) λe a3=>?_;replace T:=T.fr (L:=No) (D:=No) (ae:=λK=>K=1028) (.i3 a3 m.id rfl) id (by decide);replace m:=m.step a3;refine bx (H.k 7).keep<|ca<|JY H λhJ km ek e g3 nm E av hm ic f7=>?_;have i:=m.ext.none av;replace T:=T.fr (L:=No) (D:=No) (ae:=No) (.cg g3) id id;replace m:=m.grow g3;have aZ:wc g bT cl hJ km ek e:=⟨T,hm,ic,f7⟩;clear T hm ic f7;refine iF lb m aZ (H.d 5) (by kernel_rfl) ?_;intro aO e aZ m;refine iF lb m aZ (H.d 6) (by kernel_rfl) ?_;intro al e aZ m;refine iF lb m aZ (H.d 7) (by kernel_rfl) ?_;intro bn e aZ m;refine iF lb m aZ (H.d 8) (by kernel_rfl) ?_;intro B e aZ m;refine iF lb m aZ (H.d 9) (by kernel_rfl) ?_;intro b6 e aZ m;refine iF lb m aZ (H.d 10) (by kernel_rfl) ?_;intro l e aZ m;refine iF lb m aZ (H.d 11) (by kernel_rfl) ?_;intro o e aZ m;refine iF lb m aZ (H.d 12) (by kernel_rfl) ?_;intro p e aZ m;refine iF lb m aZ (H.d 13) (by kernel_rfl) ?_;intro q e aZ m;refine iF lb m aZ (H.d 14) (by kernel_rfl) ?_;intro s e aZ m;refine bx (cv rfl) λls e j=>?_;have kK:ls≠cl:=λX=>by obtain⟨⟨_,_,_,_,G⟩,_⟩:=aZ;have:=G.a1;rw[<-X,j.1] at this;exact bX this
 have aZ:AS g bT cl hJ km ek ls e:=gM aZ λT ak ao bp=>⟨⟨T.fr (L:=No) (D:=No) (ae:=No) (.cg j.ext) id id,j.ext _ _ ak,j.ext _ _ ao,j.ext _ _ bp⟩,j.at⟩;have ah:=m.ext.none j.1;replace m:=m.grow j.ext;refine iF pa m aZ (H.d 15) (by kernel_rfl) ?_;intro t e aZ m;refine iF pa m aZ (H.d 16) (by kernel_rfl) ?_;intro u e aZ m;refine iF pa m aZ (H.d 17) (by kernel_rfl) ?_;intro v e aZ m;refine iF pa m aZ (H.d 18) (by kernel_rfl) ?_;intro w e aZ m;refine iF pa m aZ (H.d 19) (by kernel_rfl) ?_;intro x e aZ m;refine iF pa m aZ (H.d 20) (by kernel_rfl) ?_;intro y e aZ m;refine iF pa m aZ (H.d 21) (by kernel_rfl) ?_;intro A e aZ m;obtain⟨⟨T,hm,ic,f7⟩,f⟩:=aZ;replace m:=m.as SN;exact⟨rfl,af ⟨a,d,g,bT,cl,hJ,km,ek,ls⟩ _ m.ext m.na ah h i ⟨⟨m.fB,(oM (1) (1) (1) m.id),f,kK,⟨hm,ic,f7,nofun,by simp,by simp,by simp⟩,.inl rfl⟩,T⟩⟩
structure TabAt (I:aI)(iw jF f4 dA ff:Addr)(cm last:Int)(al:List (Int×V))(os:List Int):Prop where
 ak:I iw=Y (.inst 1132 jF)
 ao:I jF=Y (.attrs 1132 (nf (.ref f4) (.ref dA) (.int cm) (.int last) (.int 0) (.ref ff)))
 bp:I f4=Y (.cP al)
 bI:I dA=Y (.list (os.map .int))
 c9:I ff=Y (.list [])
 er:dA≠ff
theorem TabAt.fr {ae:Addr->Prop}(C:TabAt I cl b0 N ej bT cm last aO A)(x:Fr L D ae I Z)(a:¬ L ej)(b:¬ L bT)(d:¬ D N)(e:¬ ae 1132):TabAt Z cl b0 N ej bT cm last aO A:= ⟨x.inst C.ak,x.attrs C.ao e,x.cP C.bp d,x.list C.bI a,x.list C.c9 b,C.er⟩
theorem TabAt.ext (C:TabAt I b0 cl a N bT cm last aO A)(x:bF I Z):TabAt Z b0 cl a N bT cm last aO A:=C.fr (L:=No) (D:=No) (ae:=No) (.cg x) id id id id
theorem TabAt.set (C:TabAt I a N ae bT cl cm last aO A)(u:Upd I Z N (.attrs 1132<|nf (.ref ae) (.ref bT) (.int pt) (.int aQ) (.int 0)<|.ref cl)):TabAt Z a N ae bT cl pt aQ aO A:= ⟨u.keep C.ao C.ak,u.at,u.keep C.ao C.bp,u.keep C.ao C.bI,u.keep C.ao C.c9,C.er⟩
theorem TabAt.zf {q:List Int}(C:TabAt I a N ae bT cl cm last aO A)(u:Upd I Z bT (.list<|q.map .int)):TabAt Z a N ae bT cl cm last aO q:= ⟨u.keep C.bI C.ak,u.keep C.bI C.ao,u.keep C.bI C.bp,u.at,by refine J (u.ne<|hT C.er) ?_;exact C.c9,C.er⟩
theorem TabAt.vu {q:List (Int×V)}(C:TabAt I a N ae bT cl cm last q A)(u:Upd I Z ae (.cP aO)):TabAt Z a N ae bT cl cm last aO A:= ⟨u.keep C.bp C.ak,u.keep C.bp C.ao,u.at,u.keep C.bp C.bI,u.keep C.bp C.c9,C.er⟩
theorem WN {aE:O}(u:Upd I Z a aE)(C:I a=Y aE):bF I Z:=λb q aA=>by
 by_cases X:b=a
 ·subst X;refine J u.at<|bm C ?_;exact aA
 ·refine J (u.ne X) ?_;exact aA
abbrev lU:Addr->Prop:=λK=>K=1132
theorem K4 (H:ba c)(T:TabAt I a N ae bT cl cm last aO [])(af:ad .none I):bk c 1 (.ref 1058) [.ref a,ar] ad I:=by refine Lw (n:=0) H<|c8 T.ak T.ao rfl<|Or.inl<|kw []<|bx T.bI<|ya (λq ai Z=>Z=I/\ai=[.ref a,ar,.aD]) ⟨rfl,rfl⟩ (λq q q C=>C.1▸T.bI) (λq q q q q C=>by exact bX C) λq q C=>?_;obtain⟨rfl,rfl⟩:=C;exact af
theorem Oi (H:ba c)(T:TabAt I cl b0 N ej bT 0 0 [] []) (af:∀(W:lR) Z,Fr (λa=>a=ej) (λa=>a=N) lU I Z->I W.b=am->I W.ls=am->I W.cl=am->I W.ek=am->b3 W Z [] 1 .none []->TabAt Z cl b0 N ej bT 0 1 [(1,.ref W.b)] [1]->ad (.ref W.b) Z):bk c 5 (.ref 1065) [.ref cl,.str "a"] ad I:=by refine Ly (n:=4) H<|eqs<|cr (by decide)<|dq T.ak T.ao rfl (H.m 20)<|ca<|K4 H T<|sT (u:=.none) trivial<|(?_);refine c8 T.ak T.ao rfl<|kr<|iE T.ak T.ao (H.d 25) (px<|by kernel_rfl) λay j=>?_;have bC:Fr (λa=>a=ej) (λa=>a=N) lU I ay:=.i3 j T.ao rfl;have n₁:∀{a},ay a=am->I a=am:=bC.none;replace T:TabAt ay cl b0 N ej bT 0 1 [] []:=T.set j;refine bx (H.k 1).keep<|c8 T.ak T.ao rfl<|kr<|ca<|JQ H λW aN a3 au ah S av B=>?_;have bg:=bC.trans<|.cg a3;have bv:ej≠W.ls:=cQ T.bI ah;have bE:ej≠W.cl:=cQ T.bI S;have dA:N≠W.ek:=cQ T.bp av;replace T:=T.ext a3;refine fU (B.R.dB) λv h i dB=>c8 B.R.aA dB rfl<|bx (ty_list B.R.ap)<|c8 T.ak T.ao rfl<|kw []<|kw []<|bx B.R.ap<|bx T.c9<|bx (cv rfl) λM o=>?_;have K:=WN o B.R.ap;replace bg:=bg.trans<|.cg K;replace T:=T.ext K;replace B:=B.ext K;refine fU (B.R.dB) λv h i dB=>c8 T.ak T.ao rfl<|c8 B.R.aA dB rfl<|kr<|sZ T.bp (cv rfl) λbz bf=>?_;replace bg:=bg.trans<|.s5 bf T.bp rfl;replace B:=B.fr (L:=No) (D:=λa=>a=N) (ae:=No) (.s5 bf T.bp rfl) id id dA.symm id id id id;replace T:=T.vu bf;refine fU (B.R.dB) λv h i dB=>c8 T.ak T.ao rfl<|bx (ty_list T.bI)<|c8 B.R.aA dB rfl<|kr<|kw _<|bx T.bI<|bx (cv rfl) λbN s=>?_;exact af W bN (bg.trans<|.mL s T.bI rfl) (n₁ au) (n₁ ah) (n₁ S) (n₁ av) (B.fr (L:=λa=>a=ej) (D:=No) (ae:=No) (.mL s T.bI rfl) bv.symm bE.symm id id id id id)<|T.zf s
theorem VJ (H:ba c)(T:TabAt I cl b0 N ej bT 0 last aO [1])(B:b3 W I A pt ar aW) (af:∀Z,Fr (λa=>a=ej) No lU I Z->TabAt Z cl b0 N ej bT 1 last aO [1]->ad .none Z):bk c 2 (.ref 1087) [.ref cl,.ref W.b] ad I:=by refine fU (B.R.dB) λv h i dB=>?_;have u:∀{e:V->aI->Prop},(∀Z,Upd I Z b0 (.attrs 1132<|nf (.ref N) (.ref ej) (.int 1) (.int last) (.int 0)<|.ref bT)->e .none Z)->bk c 1 (.ref 1094) [.ref cl,.ref W.b] e I:=λ{e} ap=> LB (n:=0) H<|c8 B.R.aA dB rfl<|UI<|c8 B.R.aA dB rfl<|kr<|iE T.ak T.ao (H.d 24) (px<|by kernel_rfl) λay j=>ap ay j;refine LA (n:=1) H<|dq T.ak T.ao rfl (H.m 23)<|ca<|u λay j=>?_;have f:=T.set j;have aA:=j.keep T.ao B.R.aA;have g:=j.keep T.ao dB (λX=>by cases X);refine c8 f.ak f.ao rfl<|bx (ty_list f.bI)<|c8 aA g rfl<|kr<|kw []<|bx f.bI<|bx (Av _) λaN l=>?_;have t:=f.zf (q:=[]) l;have s:=l.keep f.bI aA;have p:=l.keep f.bI g;refine c8 t.ak t.ao rfl<|bx (ty_list t.bI)<|c8 s p rfl<|kr<|kw []<|bx t.bI<|bx (cv rfl)<|bx rfl λM o=>?_;exact af M (((Fr.i3 (L:=λa=>a=ej) (D:=No) (ae:=lU) j T.ao rfl).trans<|.mL l f.bI rfl).trans<|.mL o t.bI rfl)<|t.zf (q:=[1]) o
theorem QI (H:ba c)(B:ct ag aJ aY I a0 aw au)(ak:1<=aQ)(ao:aQ<=au.a2.length+1)(af:∀Z,Fr (cO ag.cl) No dk I Z->ct ag aJ aY Z a0 aw {au with pt:=aQ}->ad (.int aQ) Z):bk c 1 (.ref 997) [.ref ag.b,.int aQ] ad I:=by refine bA λco aB=>?_;obtain⟨l,mk,aW,bL,last,bO,w⟩:=B;exact aB<|ug H w.B ak ao λZ F L=>af Z F ⟨l.keep<|w.ms F (λq X=> .inl X) λq X=>X.elim,(w.zg F L).jr⟩
theorem F3 {c:cG}{S:fO}{ag:gR}{I:aI}{aJ:Addr->Prop}{W:iv}{T:hs}{a0:List Int}{ad:V->aI->Prop}(H:ba c)(B:ct ag aJ W I a0 T S){p:Nat}(aP:S.pt=(p:Int)+1){cs:List Int}{r:Addr}(ax:I r=Y (.list<|br cs))(aw:r≠ag.cl)(an:p<=S.a2.length)(aq:S.a2.length+cs.length<=100000) (af:∀Z,Fr (cO ag.cl) No dk I Z->ct ag aJ W Z a0 T (S.move (eY (p+1) (p+1) cs.length) (S.a2.take p++cs++S.a2.drop p)<|(p+cs.length:Nat)+1)->ad .none Z):bk c 5 (.ref 389) [.ref ag.b,.ref r] ad I:=by refine bA λco aB=>?_;obtain⟨l,mk,aW,bL,last,bO,w⟩:=B;refine aB ?_;have Q:=w.B;replace Q:=aP▸Q;exact QZ H Q ax aw an aq λZ F L=>af Z F ⟨l.keep<|w.ms F (λq X=> .inl X) λq X=>X.elim,(w.move F L).jr⟩
theorem T7 (hd:e<=20)(C:ew I e ar aS cL)(af:ad (.bool (!cL)) I):i0 ar aS ad I:=by
 have aL:∃k cL,k<=20/\ew I k ar aS cL/\ad (.bool (!cL)) I:=eV e cL hd C af;cases C with
 |int=>exact af
 |str=>exact af
 |_=>exact aL
noncomputable def jC:List V:=[.str "kill",.str "yank",.str "copy",.str "register",.str "insert",.str "open",.str "string",.str "number",.str "clear",.str "close",.str "delete",.str "type"]
theorem WX:jC≠br Q:=λX=>by cases Q<;>cases X
theorem Iz {P:V->av->Prop}(C:bY P us pre)(aP:∀u x,P u x->∃a,u=.ref a):jC≠us:=λX=>by
 replace C:=(dp X)▸C;cases pre with
 |nil=>exact C.elim
 |cons x pre=>obtain⟨a,e⟩:=aP _ _ C.1;cases e
theorem ct.add (B:ct ag aJ aY I a0 aw au)(aR:I cl=Y (.list jC))(aX:au.n<=11):ct ag (λa=>aJ a\/a=cl) aY I a0 aw au/\cl≠aY.R/\cl≠aY.cu/\cl≠ag.cl:=by
 refine bA λco aB=>?_;obtain⟨l,mk,aW,bL,last,bO,w⟩:=B;have nl:∀{a:Addr} {us:List V},I a=Y (.list us)->jC≠us->a≠cl:=λ{a us} C n X=>by replace aR:=(dp X)▸aR;replace aB:=(dp X)▸aB;replace C:=aR▸C;exact n (by cases C;rfl)
 have p:∀{a:Addr} {Q:List Int},I a=Y (.list<|br Q)->a≠cl:=λ{a Q} C=>nl C WX;refine a9 (l.cd) λrs cd P=>a9 (l.bU) λaO bU af=>aB ?_;have i:aY.R≠cl:=nl cd<|Iz P λq q A=>a9 A λa e q=>⟨a,e⟩;have fb:aY.cu≠cl:=nl l.hd (λX=>by cases X);have v:aY.O≠cl:=λX=>by have:=l.c6;rw[X,aR] at this;cases this
 have o:aY.K≠cl:=λX=>by have:=bU;rw[X,aR] at this;cases this
 have S:ag.cl≠cl:=by obtain⟨_,_,_,_,G⟩:=w.B.T;exact p G.a1
 have ah:ag.ls≠cl:=nl w.B.R.ap (λX=>by cases X);have y:∀a,bL=Y a->a≠cl:=λa e=>by
  rcases w.N with bo|bo
  ·refine fT bo λq a7 q=>?_;clear bo;replace a7:=e▸a7;exact gB a7
  ·refine sS bo λr fV b us a7 q R bb=>?_;clear bo;replace a7:=e▸a7;cases a7;exact nl R.ap λX=>by replace bb:=(dp X)▸bb;replace R:=(dp X)▸R;exact absurd (a5 bb aX) (by decide)
 have f:∀{a:Addr} {al:List (Int×V)},I a=Y (.cP al)->a≠cl:=λ{a al} C X=>by clear aB;subst X;replace C:=aR▸C;cases C
 have d:eQ (λa=>aJ a\/a=cl) aY I a0 aw:=by have h:∀{u:V} {Q:List Int},f2 aJ I u Q->f2 (λa=>aJ a\/a=cl) I u Q:=λA=>d8 A λa e z g=>(dj a e (.inl z) g);exact⟨l.c6,⟨rs,cd,P.mono λq q=>h⟩,a9 (l.c3) λus a b=>⟨us,a,b.mono λq q=>h⟩,.inl l.js,⟨aO,bU,af.mono λ_ _ ⟨e,a,us,bv,z,g,C⟩=>⟨e,a,us,bv,.inl z,g,C.mono λq q=>h⟩⟩,l.hd,l.a1,.inl l.lH, λX=>X.elim l.pT v,λX=>X.elim l.kX i,λX=>X.elim l.rf o,λX=>X.elim l.jt fb,l.ne,λa z=>z.elim (l.gI a) λX=>⟨_,X▸aR⟩,λa ae al z e=>z.elim (λz=>l.rO a ae al z e) λX=>by clear aB v o h;subst X;replace e:=aR▸e;cases e⟩
 have c:∀{a:Addr},a≠cl->¬ XL aJ aY a->¬ XL (λa=>aJ a\/a=cl) aY a:=λ{a} n C X=>by
  rcases X with(X|X)|X
  ·exact C<|.inl X
  ·exact n X
  ·exact C<|.inr X
 have hJ:∀{a:Addr},a≠cl->¬ dH ag bL (XL aJ aY) a->¬ dH ag bL (XL (λa=>aJ a\/a=cl) aY) a:=λ{a} n C X=>by
  rcases X with X|X|X
  ·exact C<|.inl X
  ·exact C<|.inr<|.inl X
  ·exact c n (λz=>C<|.inr<|.inr z) X
 have x:∀{u:V} {Q:List Int},IsL (dH ag bL<|XL aJ aY) I u Q->IsL (dH ag bL<|XL (λa=>aJ a\/a=cl) aY) I u Q:=λA=>d8 A λa e m g=>(dj a e (hJ (p g) m) g);have j:∀{u:V} {Q:List (List Int)},eg (dH ag bL<|XL aJ aY) I u Q->eg (dH ag bL<|XL (λa=>aJ a\/a=cl) aY) I u Q:=λA=>cS A λa us e m g r=>(gd a us e (hJ (nl g<|Iz r λq q A=>a9 A λa e q=>⟨a,e⟩) m) g<|r.mono λq q=>x);refine⟨⟨d,mk,aW,bL,last,bO,⟨w.B,w.K,w.E,λa z=>?_,j w.R,a9 (w.G) λal a b=>⟨al,a,b.mono λ_ _ ⟨bv,t,r,bE,dA,s⟩=>⟨bv,t,r,bE,dA,j s⟩⟩,w.N,w.num,w.iY,w.nl,w.ex,w.ok,c S w.bD,c ah w.bw,c (f w.B.R.hm.f7) w.bR,c (f w.E.gu) w.b4,c ?_ w.ck,c ?_ w.cV,λa e=>⟨c (y a e) (w.cB a e).1,(w.cB a e).2⟩,d.zI⟩⟩,i.symm,fb.symm,S.symm⟩
 ·rcases z with z|z|z
  ·exact w.D a<|.inl z
  ·exact w.D a<|.inr<|.inl z
  ·exact d.zJ a z
 ·obtain⟨al,e,_⟩:=w.G;exact f e
 ·rcases w.N with⟨e,_⟩|bo
  ·exact f e
  ·refine hh bo λq q q q bG=>fT bG λq e q=>?_;clear bo;exact f e
def n5 (u:V):Prop:=u=.none\/∃p:Nat,u=.int p
theorem n5.plain (C:n5 u):u.plain:=by rcases C with rfl|⟨p,rfl⟩<;>trivial
theorem GJ (H:ba c)(B:ct ag aJ aY I a0 aw au)(R:Rel aw au b)(an:b<=900){pt mk ef C:V}(N:n5 pt)(W:n5 mk)(aP:n6 au pt mk)(ak:ef.plain)(ao:C.plain){d:Nat}(hd:d<=20)(am:ew I d ef C true) (bU:∀Z,bF I Z->fD.n [bo,bD,bw,.ref ag.b,b4,ck,.ref aY.cu,cB,C,.ref ag.cT,cy,cH,mk,bZ,.ref aY.O,pt,ef,cC,cc,cp,dt,dm,dC,.ref a] Z):rK ⟨c,12,fD⟩ [bo,bD,bw,.ref ag.b,b4,ck,.ref aY.cu,cB,C,.ref ag.cT,cy,cH,mk,bZ,.ref aY.O,pt,ef,cC,cc,cp,dt,dm,dC,.ref a] [] I:=by
 refine lz ak<|lz ao<|T7 hd am<|(bx (H.f 125)<|ca<|RL H B (R.Ew an) R.a2 R.dY R.et λay av=>(lz N.plain<|sT N.plain ?_));refine bA λco aB=>?_;obtain⟨l,j,aW,bL,last,bO,w⟩:=B;refine fU (w.B.R.dB) λv h i dB=>aB ?_;have aA:=av _ _ w.B.R.aA;replace dB:=av _ _ dB;have tail:wo ⟨c,12,fD⟩ [bo,bD,bw,.ref ag.b,b4,ck,.ref aY.cu,cB,C,.ref ag.cT,cy,cH,mk,bZ,.ref aY.O,pt,ef,cC,cc,cp,dt,dm,dC,.ref a] [] ay:=by
  refine lz W.plain<|sT W.plain ?_;rcases W with rfl|⟨p,rfl⟩
  ·exact((bU ay av))
  ·have e:=aP.2 p rfl;have hm:=w.K;replace hm:=e▸hm;refine bA λco aB=>mA hm λm g bh bv bE=>?_;clear hm;replace w:=bh▸w;replace dB:=bh▸dB;obtain⟨aR,ar⟩:=w.B.R.hm.gW m g;refine aB<|(c8 aA dB rfl<|c8 (av _ _ aR) (av _ _ ar) rfl<|kr<|dP<|G2<|fE ?_ ?_)
   ·intro X;exact(X<|by refine J bE ?_;exact gb<|.Eq (.s (.a (.c aa) aC) aC)<|.c aa).elim
   ·intro X;exact(bU ay av)
 rcases N with rfl|⟨p,rfl⟩
 ·exact(tail)
 ·have e:=aP.1 p rfl;refine(c8 aA dB rfl<|kr<|dP<|G2<|fE ?_ ?_)
  ·intro X;exact(X<|by refine J e ?_;exact gb<|.Eq (.s (.a (.c aa) aC) aC)<|.c aa).elim
  ·intro X;exact(tail)
theorem eQ.yw {ga:List (List Int)}(C:eQ aJ aY I a0 aw)(x:bF I ay)(n:dI ay aN cl (.list ai))(ax:bY (f2 (iS aJ I ay) ay) ai ga)(u:Upd aN Z aY.O (.fQ [("rows",.ref cl),("last",.ref aY.L),("kept",.ref aY.K)])): eQ (iS aJ I ay) {aY with R:=cl} Z a0 {aw with aV:=ga}/\Fr (ed aY) (ec aY) No I Z:=by have aZ:=C.ext x;have F:Fr (ed aY) (ec aY) No I Z:=((Fr.cg x).trans<|.cg n.ext).trans<|.upd u (n.ext _ _ aZ.c6) λs=>s<|.inl rfl;have f:∀a o,ay a=Y o->a≠aY.O->Z a=Y o:=λa o e X=>(u.ne X).trans<|n.ext _ _ e;have c:∀{a:Addr},iS aJ I ay a->a≠aY.O:=λz X=>aZ.pT<|X▸z;have dx:∀a us,iS aJ I ay a->ay a=Y (.list us)->Z a=Y (.list us):=λa us z e=>f a _ e<|c z;have i:cl≠aY.O:=(cQ aZ.c6 n.1).symm;exact a9 (aZ.c3) λus j l=>a9 (aZ.bU) λaO b d=>⟨⟨u.at,(bj ai ((u.ne i).trans n.at)<|ax.mono λq q X=>X.gx (λq z=>z) dx),(bj us (dx _ _ aZ.js j)<|l.mono λq q X=>X.gx (λq z=>z) dx),aZ.js,(bj aO (f _ _ b<|gc b aZ.c6)<|d.mono λq q X=>X.gx (λq z=>z) dx), f _ _ aZ.hd<|gc aZ.hd aZ.c6,dx _ _ aZ.lH aZ.a1,aZ.lH,aZ.pT,aZ.gI.fresh n.1,aZ.rf,aZ.jt,(cQ aZ.hd n.1).symm,λa z=>dr (aZ.gI a z) λo e=>⟨o,f a o e<|c z⟩,λa ae al z e=>by obtain⟨o,a7⟩:=aZ.gI a z;replace e:=(f a o a7<|c z)▸e;cases e;exact aZ.rO a ae al z a7⟩,F⟩
theorem ct.yw {ga:List (List Int)}(B:ct ag aJ aY I a0 aw au)(x:bF I ay)(n:dI ay aN ae (.list us))(ax:bY (f2 (iS aJ I ay) ay) us ga)(u:Upd aN Z aY.O (.fQ [("rows",.ref ae),("last",.ref aY.L),("kept",.ref aY.K)])): ct ag (iS aJ I ay) {aY with R:=ae} Z a0 {aw with aV:=ga} au/\Fr (ed aY) (ec aY) No I Z:=by
 obtain⟨d,F⟩:=B.l.yw x n ax u;refine⟨B.to F d λa z=>?_,F⟩;rcases z with(z|z)|z|z|z
 ·exact .inl<|.inl z
 ·exact .inr z.1
 ·exact .inl<|.inr<|.inl z
 ·exact .inr<|x.none (z▸n.1:ay a=am)
 ·exact .inl<|.inr<|.inr<|.inr z
noncomputable def yd (x:Nat->V)(b cu cT O iH:Addr):List V:=[x 0,x 1,x 2,.ref b,x 4,x 5,.ref cu,x 7,x 8,.ref cT,x 10,x 11,x 12,x 13,.ref O,x 15,x 16,x 17,x 18,x 19,x 20,x 21,x 22,.ref iH]
theorem ye (C:ai=yd (hK ai) a ae cl N bT):∃x,ai=yd x a ae cl N bT:=⟨_,C⟩
def Inv (ag:gR)(iH O cu:Addr)(a0:List Int)(k m:Nat)(ai:List V)(I:aI):Prop:=∃aJ aY aw au,ct ag aJ aY I a0 aw au/\aY.O=O/\aY.cu=cu/\Rel aw au k/\aw.cnt<=m/\I iH=Y (.list jC)/\∃x,ai=yd x ag.b cu ag.cT O iH
theorem f2.ext' (C:f2 aJ I u Q)(x:bF I ay):f2 (iS aJ I ay) ay u Q:=d8 C λa e z g=>⟨a,e,.inl z,x _ _ g⟩
theorem Rel.typed {p:Int}{f:Int->Int}(R:Rel aw au b)(ax:aw.aV[i]?=Y aM)(bu:j<=aM.length)(U:(aT aw.aV).length<=40)(a1:pt=120\/pt=32\/pt=10)(hf:pt=10/\bg=[aM.take j,aM.drop j]\/pt≠10/\bg=[aM.take j++[pt]++aM.drop j]): Rel {aw with aV:=aw.aV.take i++bg++aw.aV.drop (i+1)} (au.move f (au.a2.take (cw 0 aw.aV i+j)++[pt]++au.a2.drop (cw 0 aw.aV i+j)) p) (b+1):=by
 have bw:bg≠[]:=by rcases hf with⟨_,rfl⟩|⟨_,rfl⟩<;>nofun
 have a4:=(e8.mp ax).1;have bd:=R.a2;have c:aT bg=aM.take j++[pt]++aM.drop j:=by rcases hf with⟨rfl,rfl⟩|⟨_,rfl⟩<;>simp[aT]
 have bv:aT aw.aV=fq (aw.aV.take i)++aM++f9 (aw.aV.drop<|i+1):=sx ax;have bE:(fq<|aw.aV.take i).length=cw 0 aw.aV i:=by have:=tM (lo:=0) (h:=aw.aV) (k:=i);exact bH (.eq aa ab) [.eq (.a b1 aa) ab] this
 have dA:aT (aw.aV.take i++bg++aw.aV.drop (i+1))=au.a2.take (cw 0 aw.aV i+j)++[pt]++au.a2.drop (cw 0 aw.aV i+j):=by refine J (uO bw)<|J c<|J bd<|J bv<|bm bE ?_;generalize fq (aw.aV.take i)=l;generalize f9 (aw.aV.drop<|i+1)=r;refine J (en l aM r)<|J (v2 _)<|J (tr _)<|J (tq bu)<|J (rx bu) ?_;simp
 have u:=short R.h0 U;have aG:b9 aM:=R.cY aM<|d1 ax;have dy:∀{n:Nat} {r:List Int},b9 r->b9 (r.take n)/\b9 (r.drop n):=λC=>⟨λx aL=>C x<|lN aL,λx aL=>C x<|nR aL⟩;have o:bg.length<=2/\∀r∈bg,b9 r:=by
  rcases hf with⟨rfl,rfl⟩|⟨av,rfl⟩
  ·refine⟨c1 _,λr ax=>?_⟩;rcases fF.mp ax with rfl|ax
   ·exact(dy aG).1
   ·cases gD.mp ax;exact(dy aG).2
  ·refine⟨g5 _,λr ax=>?_⟩;cases gD.mp ax;intro x aL;rcases gO.mp aL with aL|aL
   ·rcases gO.mp aL with aL|aL
    ·exact(dy aG).1 x aL
    ·cases gD.mp aL;rcases a1 with rfl|rfl|rfl
     ·exact⟨by decide,by decide⟩
     ·exact⟨by decide,by decide⟩
     ·exact(av rfl).elim
   ·exact(dy aG).2 x aL
 refine⟨dA.symm,R.dY,R.et,λX=>?_,λr ax=>?_,?_,?_,R.last,R.cA,by have:=R.dx;refine(?_:aw.cA.length<=_);exact bH (.le aa<|.a ab aC) [.le aa ab] this,by have:=R.n;refine(?_:au.n<=_);exact bH (.le aa<|.a ab aC) [.le aa ab] this⟩
 ·have:=(YO.mp (YO.mp X).1).2;exact bw this
 ·rcases gO.mp ax with ax|ax
  ·rcases gO.mp ax with ax|ax
   ·exact R.cY r<|lN ax
   ·exact o.2 r ax
  ·exact R.cY r<|nR ax
 ·refine(?_:(aT<|aw.aV.take i++bg++aw.aV.drop (i+1)).length<=4000);refine J dA<|J bd ?_;simp only[bK,cF,dz,fe,ju];exact de (.le (.a (.a aa<|.a b1 aC) ab)<|.k 4000) [.le ah<|.k 40,.cN aa (.a az a8) ah,.sub ab ah<|.a az a8] U rfl rfl
 ·refine(?_:(aw.aV.take i++bg++aw.aV.drop (i+1)).length<=150);simp only[bK,cF,dz];exact de (.le (.a (.a aa ab) ah)<|.k 150) [.le az<|.k 41,.le ab j6,.cN aa a8 az,.sub ah az<|.a a8 aC] u.1 o.1 rfl rfl
theorem WK {c:cG}{ck cC bw b4 dm c4 c7 cH cB cc dC cy cp bZ bo dt cX:V}{S:fO}{ag:gR}{I:aI}{aJ:Addr->Prop}{fD:ja}{W:iv}{iH:Addr}{T:hs}{a0:List Int}{k:Nat}(H:ba c){bc:Nat}(B:ct ag aJ W I a0 T S)(R:Rel T S k)(an:k<=11)(aO:a0.length<=1000)(E:T.cnt<=5000)(U:(aT T.aV).length<=40)(aK:bc<=(aT T.aV).length)(N:S.pt=(bc:Int)+1)(a3:I iH=Y (.list jC)) (bU:∀ai Z,Inv ag iH W.O W.cu a0 (k+1) (T.cnt+6) ai Z->fD.n ai Z):Bj ⟨c,12,fD⟩ [bo,.int bc,bw,.ref ag.b,b4,ck,.ref W.cu,cB,c7,.ref ag.cT,cy,cH,cX,bZ,.ref W.O,c4,.none,cC,cc,cp,dt,dm,dC,.ref iH] [] I:=by
 have aX:=R.aX;have bl:(aT T.aV).length<=100000:=by exact cK (.le aa<|.k 100000) [.le aa<|.k 40] U
 have bB:T.aV.length<=10000:=by exact cK (.le aa<|.k 10000) [.le aa<|.k 150] aX
 obtain⟨_,bk,bS,bI⟩:=B.add a3 (by have:=R.n;exact bH (.le aa<|.k 11) [.le ab<|.k 11,.le aa ab] an this);refine bx (cv rfl) λl ay n₁=>bx (H.f 113)<|ca<|nb H (B.ext n₁.ext) aO (cK (.le aa<|.k 10000) [.le aa<|.k 5000] E) (by decide) (by decide) λv aN ak ao bg aj=>?_;have s:=bg.list (n₁.ext _ _ a3) λX=>X.elim bk bS;have bf:=bg.list n₁.at λX=>X.elim (B.apart n₁.1).1 (B.apart n₁.1).2;clear bg n₁ a3 B;have L:Rel {T with cnt:=T.cnt+1} S k:=⟨R.a2,R.dY,R.et,R.h0,R.cY,R.ax,R.aX,R.last,R.cA,R.dx,R.n⟩;obtain⟨v,rfl⟩:=oU ak;obtain⟨h,A,aY⟩:∃h:Int,[V.int 120,.int 32,.int 10][v]?=Y (.int h)/\(h=120\/h=32\/h=10):=by
  rcases v with _|_|_|v
  ·exact(bj _ rfl<|.inl rfl)
  ·exact(bj _ rfl<|.inr<|.inl rfl)
  ·exact(bj _ rfl<|.inr<|.inr rfl)
  ·clear bU;lia
 refine cU (k:=v) bf A (da rfl)<|bx (H.f 115)<|fS aj.l.c6 rfl<|ca<|uR H aj.l.aV R.h0 bB bl aK λt M i j aM K bv a6 bu x bd=>eE bd rfl ?_;have aG:=aj.ext K;have af:=K _ _ s;clear s aj bf;refine a9 (aG.l.cd) λrs cd P=>ig (P.get a6) λu aU a bt a7 bR=>?_;replace aU:=bt▸aU;have al:=P.length;refine fS aG.l.c6 rfl<|cU (k:=i) cd aU (by clear bU;have:rs.length=T.aV.length:=al;lia) ?_;have aF:aM.length<=40:=by have:=iX<|d1 a6;exact a5 this U
 have ae:aM.length<=1000000:=by have:=iX<|d1 a6;clear bU;lia
 have tail:∀{f:Addr} {cI:List V} {fresh:List (List Int)} {bz:aI} {ap:Addr->Prop},ct ag ap W bz a0 {T with cnt:=T.cnt+1} S->bz iH=Y (.list jC)->bz f=Y (.list cI)->bY (f2 ap bz) cI fresh->cI.length<=2->(h=10/\fresh=[aM.take j,aM.drop j]\/h≠10/\fresh=[aM.take j++[h]++aM.drop j])-> wr ⟨c,12,fD⟩ [bo,.int bc,bw,.ref ag.b,.int h,.int (j:Nat),.ref W.cu,cB,c7,.ref ag.cT,cy,.ref f,cX,.int (i:Nat),.ref W.O,c4,.none,.ref a,cc,cp,dt,dm,dC,.ref iH] [] bz:=by
  intro f cI fresh bz ap aL bF hf bA o aE;refine a9 (aL.l.cd) λrs cd P=>?_;have al:rs.length<=1000:=by have:=P.length;have:rs.length=T.aV.length:=this;clear bU;lia
  have be:rs.length<=c5:=by refine J eI ?_;clear bU;exact cK (.le aa<|.k 16777216) [.le aa<|.k 1000] al
  refine fS aL.l.c6 rfl<|oL cd be λb bN y=>vk y.at (y.ext _ _ hf) (by refine J r1<|J cF<|J eI ?_;clear bU;exact cn (.le (.a aa ab)<|.k 16777216) [.le ab j6,.le ah<|.k 1000,.cN aa az ah] o al rfl) λd bM aR=>?_;have bE:=y.ext.trans aR.ext;refine fS (bE _ _ aL.l.c6) rfl<|d3<|oL (bE _ _ cd) be λe bQ aB=>?_;have er:=aB.ext _ _ aR.at;have D:=aB.at;replace D:=xf▸(rfl:((i:Nat):Int)+1=((i+1:Nat):Int))▸D;replace er:=r1▸er;refine vk er D (by refine J bK<|J cF<|J dz<|J eI ?_;clear bU;exact de (.le (.a (.a aa ab) ah)<|.k 16777216) [.le ab j6,.le az<|.k 1000,.cN aa a8 az,.sub ah az<|.a a8 aC] o al rfl rfl) λaq bV am=>?_;have bi:=bE.trans aB.ext;refine ss (am.ext _ _<|bi _ _ aL.l.c6) (cv rfl) λbW bX=>?_;obtain⟨bT,bP⟩:=aL.yw bi am (ga:=T.aV.take i++fresh++T.aV.drop (i+1)) ((((P.mono λq q X=>X.ext' bi).take i).append<|bA.mono λq q X=>X.ext' bi).append<|(P.mono λq q X=>X.ext' bi).drop<|i+1) bX;have bL:=bX.keep (am.ext _ _<|bi _ _ aL.l.c6) (am.ext _ _<|bi _ _ bF) (λX=>by cases X);refine bx (H.f 28)<|bx (cv rfl) λr dc bb=>?_;have bm:=bT.ext bb.ext;have aw:r≠ag.cl:=by exact kP (bT.w) λq q q q q w=>fi (w.B.T) λq q q q G=>(cQ G.a1 bb.1).symm
  refine ca<|F3 H bm N (cs:=[h]) bb.at aw (by refine J R.a2 ?_;exact aK) (by refine J R.a2 ?_;refine(?_:_+1<=_);clear bU;exact cK (.le (.a aa aC)<|.k 100000) [.le aa<|.k 40] U) λb0 bq bp=>d3<|bx (cv rfl) λaD dd aH=>eE aH.at rfl ?_;have bC:=aH.ext _ _<|bq.list (bb.ext _ _ bL) bI;have aQ:=bp.ext aH.ext;have m:=L.typed (f:=eY (bc+1) (bc+1) [h].length) (p:=((bc+[h].length:Nat):Int)+1) a6 bu U aY aE;replace m:=(dp x)▸m;exact GJ H aQ m (by clear bU;exact cK (.le (.a aa aC)<|.k 900) [.le aa<|.k 11] an) (pt:=.int<|(bc:Int)+1) (mk:=.none) (ef:=.none) (C:=.none) (.inr ⟨bc+1,rfl⟩) (.inl rfl) ⟨λp aP=>by cases aP;rfl,(λq X=>by cases X)⟩ trivial trivial (d:=0) (dU _) .none λb2 F=>bU _ _ ⟨_,_,_,_,aQ.ext F,rfl,rfl,m,by refine(?_:T.cnt+1<=_);clear bU;exact gb<|.le (.a aa aC)<|.a aa<|.k 6,F _ _ bC,ye rfl⟩
 have ad:M a=Y (.list<|br aM):=bR;refine Fa<|db (λav=>?_) λav=>?_
 ·refine up ad ae λb bz bn au aA=>kt (bn _ _ ad) ae λd bN aS fb hd=>bx (cv rfl) λf bM aR=>?_;have bE:=(bn.trans aS).trans aR.ext;have aW:=aR.ext _ _<|aS _ _ aA;have a4:=aR.ext _ _ hd;exact tail (aG.ext bE) (bE _ _ af) aR.at (fresh:=[aM.take j,aM.drop j]) ⟨(dj b rfl (.inr<|nF au _ aW) aW),(dj d rfl (.inr<|nF (bn.none fb) _ a4) a4),trivial⟩ (c1 _) (.inl ⟨av,rfl⟩)
 ·refine up ad ae λb bz bn au aA=>bx (cv rfl) λd bN y=>eC (Q:=aM.take j) (bG:=[h]) (y.ext _ _ aA) y.at (eD aF) (c1 1) rfl λe bM bE ne he=>kt (bE _ _<|y.ext _ _<|bn _ _ ad) ae λg bQ bi bO bJ=>eC (bi _ _ he) bJ (jc (eD aF)<|c1 1) (eh aF) rfl λp bV bD np aP=>bx (cv rfl) λf bW aZ=>?_;have aS:=((bn.trans y.ext).trans bE).trans bi;have ar:=(aS.trans bD).trans aZ.ext;have bh:=aZ.ext _ _ aP;exact tail (aG.ext ar) (ar _ _ af) aZ.at (fresh:=[aM.take j++[h]++aM.drop j]) ⟨(dj p rfl (.inr<|nF (aS.none np) _ bh) bh),trivial⟩ (g5 _) (.inr ⟨av,rfl⟩)
theorem Rel.up {k:Nat}(R:Rel aw au k)(C:k<=b):Rel ⟨aw.aV,aw.last,aw.cA,cnt⟩ au b:=⟨R.a2,R.dY,R.et,R.h0,R.cY,R.ax,R.aX,R.last,R.cA,a5 R.dx C,a5 R.n C⟩
theorem Oz (ap:I a=Y (.list [.str name,.ref cl]))(he:I ae=Y (.list [.str name,.ref N]))(hm:I cl=Y (.list [.str dO]))(W:I N=Y (.list [.str dO])):ew I 2 (.ref a) (.ref ae) true:=by
 by_cases X:a=ae
 ·subst X;exact .same ap
 refine .sF (λq=>true) X ap he rfl (λj u w ak ao=>?_) rfl;rcases j with _|_|j
 ·cases ak;cases ao;exact .of (.str name name) (beq_self_eq_true name).symm
 ·cases ak;cases ao;by_cases X:cl=N
  ·subst X;exact .same hm
  ·refine .sF (λq=>true) X hm W rfl (λj u w ak ao=>?_) rfl;rcases j with _|j
   ·cases ak;cases ao;exact .of (.str dO dO) (beq_self_eq_true dO).symm
   ·exact bX ak
 ·exact bX ak
theorem Ko {S:fO}(H:ba c)(aR:qp w)(B:ct ag aJ aY I a0 aw S)(R:Rel aw S b)(an:b<=10)(aO:a0.length<=1000)(E:aw.cnt<=4000)(U:(aT aw.aV).length<=40\/w="delete")(aK:bc<=(aT aw.aV).length)(N:S.pt=(bc:Int)+1)(a3:I cl=Y (.list jC))(aM:I ae=Y (.list<|br<|aT aw.aV))
 (bU:∀ai Z,Inv ag cl aY.O aY.cu a0 (b+1) (aw.cnt+6) ai Z->fD.n ai Z):Bk ⟨c,12,fD⟩ [bo,.int bc,bw,.ref ag.b,b4,ck,.ref aY.cu,cB,c7,.ref ag.cT,cy,cH,cX,bZ,.ref aY.O,c4,.none,cC,cc,cp,.ref ae,dm,.str w,.ref cl] [] I:=by
 have ax:=R.ax
 have aX:=R.n
 have G:b+1<=900:=a5 (hR an) (by decide)
 refine gM (B.add a3<|a5 aX<|a5 an<|by decide) λq bk bS bI=>bx (H.f 124)<|dK aM (a5 ax<|by decide)<|ca<|RH H aR B (R.Ew<|a5 an<|by decide) aO (a5 E<|by decide) aK λay bC Q dA aN dy eM ga t af i cR al pt mk C ak bg aj a1 aC aF ab P D=>eE ab rfl ?_
 have s:=(bC.trans bg).list a3 λX=>X.elim bk bS
 clear bC bg a3 aM B
 refine gM (aj.add s<|a5 aX<|a5 an<|by decide) λh aU aW b1=>?_
 have av:i<=aw.cnt+6:=a5 a1<|g5 _
 have fin:∀{a7:Addr->Prop} {M:aI} {au:fO} {aB ef:V} {d:Nat},ct ag a7 {aY with L:=dA} M a0 ⟨ga,t,af,i⟩ au->M cl=Y (.list jC)->Rel ⟨ga,t,af,i⟩ au (b+1)->n6 au pt mk->n5 pt->n5 mk->ef.plain->C.plain->d<=20->ew M d ef C true-> rK ⟨c,12,fD⟩ [bo,.int bc,bw,.ref ag.b,b4,ck,.ref aY.cu,.ref cR,C,.ref ag.cT,aB,cH,mk,bZ,.ref aY.O,pt,ef,cC,cc,cp,.ref ae,.ref eM,.str w,.ref cl] [] M:=λaG bp u g bH ad ah o hd am=> GJ H aG u G bH ad g ah o hd am λZ x=>bU _ _ ⟨_,_,_,_,aG.ext x,rfl,rfl,u,av,x _ _ bp,ye rfl⟩
 have aa:∀{a7:Addr->Prop} {aN M:aI} {au:fO},ct ag a7 {aY with L:=dA} aN a0 ⟨ga,t,af,i⟩ S->a7 cl->aN cl=Y (.list jC)->ds (XL a7 {aY with L:=dA}) aN M->dM ag (XL a7 {aY with L:=dA}) M au->Rel ⟨ga,t,af,i⟩ au (b+1)->n6 au pt mk->n5 pt->n5 mk->C=.none-> rK ⟨c,12,fD⟩ [bo,.int bc,bw,.ref ag.b,b4,ck,.ref aY.cu,.ref cR,C,.ref ag.cT,cy,cH,mk,bZ,.ref aY.O,pt,.none,cC,cc,cp,.ref ae,.ref eM,.str w,.ref cl] [] M:=λaj z ao az aZ aq g bH ad hd=>by clear ab;subst hd;exact fin ⟨aj.l.keep az,aZ⟩ (az _ _ (.inl z) ao) aq g bH ad (ef:=.none) trivial trivial (dU _) (d:=0) .none
 have j:Rel {aw with cnt:=aw.cnt+4} S b:=R.up<|c1 _
 have J:(λa=>Q a\/a=cl) cl:=.inr rfl
 have aA:XL (λa=>Q a\/a=cl) {aY with L:=dA} eM:=.inl<|.inl aC
 clear a1 aR
 induction D with
 |hn aQ=>have U:=U.resolve_right (by decide);refine eqs<|jV rfl<|bx (H.f 82)<|bx (cv rfl) λv M aH=>ca<|Xc (cnt:=i) H j (a5 an<|by decide) N aQ U (h.ext aH.ext).w (v:=.ref v) (λX=>by cases X) λbz au T F aq g=>?_;exact aa (h.ext aH.ext) (.inl J) (aH.ext _ _ s) T F aq g (.inr ⟨_,rfl⟩) (.inr ⟨_,rfl⟩) P
 |refused A ar ap=>refine gZ P λe m bh a2 a4 he hm=>?_;clear P;clear ab;subst bh;refine eqs<|cr (by decide)<|bx (H.y 1)<|Vi H ar j ap h.w aF λaE M K W aS=>?_;refine(rb _ _ rfl rfl trivial trivial λl bz be=>?_);have bn:=K.trans be.ext;exact fin (h.ext bn) (bn _ _ s) (j.up<|g5 _) ⟨λp aP=>by cases aP;exact N,nofun⟩ (.inr ⟨_,rfl⟩) (.inl rfl) (ef:=.ref l) (aB:=.aD) trivial trivial (d:=2) (by decide)<|Oz be.at (bn _ _ he) (be.ext _ _ W) (bn _ _ hm)
 |insert A ar ap aQ=>have U:=U.resolve_right (by decide);refine eqs<|cr (by decide)<|bx (H.y 1) (Q1 (cnt:=i) H A ar j (a5 an<|by decide) N aQ U ap h.w aF aA λbz au T F aq g=>?_).mK;exact aa h J s T F aq g (.inr ⟨_,rfl⟩) (.inr ⟨_,rfl⟩) P
 |copy bi=>have U:=U.resolve_right (by decide);refine eqs<|cr (by decide)<|bx (H.f 80) (Oh (cnt:=i) H j bi U h.w aF λbz au T F aq=>?_).mK;exact aa h J s T F aq pJ (.inl rfl) (.inl rfl) P
 |kill bi=>have U:=U.resolve_right (by decide);refine eqs<|cr (by decide)<|bx (H.f 79) (Rx (cnt:=i) H j bi U h.w aF λbz au T F aq=>?_).mK;exact aa h J s T F aq pJ (.inl rfl) (.inl rfl) P
 |delete bi=>refine eqs<|cr (by decide)<|bx (H.f 81) (Ou (cnt:=i) H j bi h.w aF λbz au T F aq=>?_).mK;exact aa h J s T F aq pJ (.inl rfl) (.inl rfl) P
 |register bi A ar=>have U:=U.resolve_right (by decide);refine eqs<|cr (by decide)<|bx (H.f 78) (Vj (cnt:=i) H A ar j (a5 an<|by decide) bi U h.w aF aA λbz au T F aq=>?_).mK;exact aa h J s T F aq pJ (.inl rfl) (.inl rfl) P
 |string bi aL=>have U:=U.resolve_right (by decide);refine eqs<|cr (by decide)<|bx (H.f 86) (Wr (cnt:=i) H aL j bi U h.w aF λbz au T F aq g=>?_).mK;exact aa h J s T F aq g (.inr ⟨_,rfl⟩) (.inl rfl) P
 |number bi A=>have U:=U.resolve_right (by decide);refine eqs<|cr (by decide)<|bx (H.f 87) (TV (cnt:=i) H A j bi U h.w aF λbz au T F aq=>?_).mK;exact aa h J s T F aq pJ (.inl rfl) (.inl rfl) P
 |«open» bi=>have U:=U.resolve_right (by decide);refine eqs<|cr (by decide)<|bx (H.f 83) (yP (cnt:=i) H (.inl rfl) j bi U h.w rfl aF λbz au T F aq g=>?_).mK;exact aa h J s T F aq g (.inr ⟨_,rfl⟩) (.inl rfl) P
 |clear bi=>have U:=U.resolve_right (by decide);refine eqs<|cr (by decide)<|bx (H.f 84) (yP (cnt:=i) H (.inr<|.inl rfl) j bi U h.w rfl aF λbz au T F aq g=>?_).mK;exact aa h J s T F aq pJ (.inl rfl) (.inl rfl) P
 |close bi=>have U:=U.resolve_right (by decide);refine eqs<|cr (by decide)<|bx (H.f 85) (yP (cnt:=i) H (.inr<|.inr rfl) j bi U h.w rfl aF λbz au T F aq g=>?_).mK;exact aa h J s T F aq pJ (.inl rfl) (.inl rfl) P
theorem WY (C:(b:Int)<12):∃w:Str,jC[b]?=Y (.str w)/\(qp w\/w="type"):=by
 rcases b with _|_|_|_|_|_|_|_|_|_|_|_|b
 ·exact(bj _ rfl<|.inl<|.inl rfl)
 ·exact(bj _ rfl<|.inl<|.inr<|.inl rfl)
 ·exact(bj _ rfl<|.inl<|.inr<|.inr<|.inl rfl)
 ·exact(bj _ rfl<|.inl<|.inr<|.inr<|.inr<|.inl rfl)
 ·exact(bj _ rfl<|.inl<|.inr<|.inr<|.inr<|.inr<|.inl rfl)
 ·exact(bj _ rfl<|.inl<|.inr<|.inr<|.inr<|.inr<|.inr<|.inl rfl)
 ·exact(bj _ rfl<|.inl<|.inr<|.inr<|.inr<|.inr<|.inr<|.inr<|.inl rfl)
 ·exact(bj _ rfl<|.inl<|.inr<|.inr<|.inr<|.inr<|.inr<|.inr<|.inr<|.inl rfl)
 ·exact(bj _ rfl<|.inl<|.inr<|.inr<|.inr<|.inr<|.inr<|.inr<|.inr<|.inr<|.inl rfl)
 ·exact(bj _ rfl<|.inl<|.inr<|.inr<|.inr<|.inr<|.inr<|.inr<|.inr<|.inr<|.inr<|.inl rfl)
 ·exact(bj _ rfl<|.inl<|.inr<|.inr<|.inr<|.inr<|.inr<|.inr<|.inr<|.inr<|.inr<|.inr<|rfl)
 ·exact(bj _ rfl<|.inr rfl)
 ·lia
theorem WT:qp "delete":=.inr<|.inr<|.inr<|.inr<|.inr<|.inr<|.inr<|.inr<|.inr<|.inr<|rfl
theorem WJ {T:hs}(H:ba c)(aR:qp w\/w="type")(B:ct ag aJ aY I a0 T au)(R:Rel T au b)(an:b<=10)(aO:a0.length<=1000)(E:T.cnt<=4000)(U:(aT T.aV).length<=40\/w="delete")(aK:bc<=(aT T.aV).length)(a3:I ae=Y (.list jC))(aM:I a=Y (.list<|br<|aT T.aV))(e:a≠ag.cl) (bU:∀ai Z,Inv ag ae aY.O aY.cu a0 (b+1) (T.cnt+6) ai Z->fD.n ai Z):Bm ⟨c,12,fD⟩ [bo,.int bc,bw,.ref ag.b,b4,ck,.ref aY.cu,cB,c7,.ref ag.cT,cy,cH,cX,bZ,.ref aY.O,c4,.none,cC,cc,cp,.ref a,dm,.str w,.ref ae] [] I:=by
 have aX:=R.n;refine bA λco aB=>gM (B.add a3<|a5 aX<|a5 an<|by decide) λq bk bS bI=>?_;have bd:=R.a2;have body:∀Z,Fr (cO ag.cl) No dk I Z->ct ag aJ aY Z a0 T {au with pt:=(bc:Int)+1}->Bl ⟨c,12,fD⟩ [bo,.int bc,bw,.ref ag.b,b4,ck,.ref aY.cu,cB,c7,.ref ag.cT,cy,cH,cX,bZ,.ref aY.O,c4,.none,cC,cc,cp,.ref a,dm,.str w,.ref ae] [] Z:=λay bC al=>by
  have g:Rel T {au with pt:=(bc:Int)+1} b:=⟨R.a2,R.dY,R.et,R.h0,R.cY,R.ax,R.aX,R.last,R.cA,R.dx,R.n⟩;have d:=bC.list a3 bI;have f:=bC.list aM e;refine eqs<|db (λC=>?_) λC=>?_
  ·exact WK H al g (a5 an<|by decide) aO (a5 E<|by decide) (U.resolve_right λX=>by replace X:=C▸X;cases X) aK rfl d bU
  ·exact Ko H (aR.resolve_right C) al g an aO E U aK rfl d f bU
 have Q:=B;obtain⟨_,mk,aW,bL,last,bO,j⟩:=Q;exact fU (j.B.R.dB) λv h i dB=>aB<|dq j.B.R.aA dB rfl (H.m 17)<|d3<|ca<|QI H B (by clear bU body;exact gb<|.bW aC<|.a (.c aa) aC) (by refine J bd ?_;clear bU body;exact bH (.bW (.a (.c aa) aC)<|.a (.c ab) aC) [.le aa ab] aK) λZ F L=>body Z F L
theorem KB (H:ba c)(B:ct ag aJ aY I a0 aw au)(R:Rel aw au b)(an:b<=10)(aO:a0.length<=1000)(E:aw.cnt<=3900)(a3:I a=Y (.list jC)) (bU:∀ai Z,Inv ag a aY.O aY.cu a0 (b+1) (aw.cnt+8) ai Z->fD.n ai Z):Bn ⟨c,12,fD⟩ [bo,bD,bw,.ref ag.b,b4,ck,.ref aY.cu,cB,c7,.ref ag.cT,cy,cH,cX,bZ,.ref aY.O,c4,dl,cC,cc,cp,dt,dm,dC,.ref a] [] I:=by
 have ax:=R.ax;have aX:=R.aX;refine gM (B.add a3<|a5 R.n<|a5 an<|by decide) λq bk bS bI=>?_;have S:∀{x:Addr},I x=am->x≠ag.cl:=λC=>by refine bA λco aB=>?_;obtain⟨_,mk,aW,bL,last,bO,j⟩:=B;exact fi (j.B.T) λq q q q G=>aB<|(cQ G.a1 C).symm
 refine bx (H.f 114)<|fS B.l.c6 rfl<|ca<|x2 H B.l.aV R.h0 (a5 aX<|by decide) (a5 ax<|by decide) λbG ay av bv aM=>?_;have i:=S bv;have e:bG≠aY.R/\bG≠aY.cu:=B.apart bv;have al:=B.ext av;have d:=av _ _ a3;refine bx (H.f 113)<|ca<|nb H al aO (a5 E<|by decide) (by decide) (by decide) λv aN ak ao bg aj=>?_;have s:=bg.list d λX=>X.elim bk bS;have h:=bg.list aM λX=>X.elim e.1 e.2;obtain⟨v,rfl⟩:=oU ak;refine a9 (WY ao) λw D aR=>cU (k:=v) s D (da rfl)<|bx (cv rfl) λt M aH=>eE aH.at rfl ?_;have aG:=aj.ext aH.ext;have af:=aH.ext _ _ s;have g:=aH.ext _ _ h;clear a3 d s aM h al aj bg ak ao bv;have go:∀{aZ:Str},(qp aZ\/aZ="type")->((aT aw.aV).length<=40\/aZ="delete")->wp ⟨c,12,fD⟩ [bo,bD,bw,.ref ag.b,b4,ck,.ref aY.cu,cB,c7,.ref ag.cT,cy,cH,cX,bZ,.ref aY.O,c4,.none,cC,cc,cp,.ref bG,dm,.str w,.ref a] [.str aZ] M:=λ{aZ} aR U=> ⟨(H.f 113),dK g (a5 ax<|by decide)<|d3<|ca<|nb H aG aO (a5 (hR E)<|by decide) (by clear bU;exact gb<|.Lt b1<|.a (.c aa) aC) (by clear bU;exact cK (.Lt (.a (.c aa) aC)<|.k 1000000) [.le aa<|.k 4000] ax) λv bz ak ao a2 aL=>⟨cv rfl,λt bN y=>eE y.at rfl (by obtain⟨v,rfl⟩:=oU ak;exact WJ H (T:={aw with cnt:=aw.cnt+1+1}) aR (aL.ext y.ext) (R.up<|c1 _) an aO (by refine(?_:aw.cnt+1+1<=_);clear bU;exact cK (.le (.a (.a aa aC) aC)<|.k 4000) [.le aa<|.k 3900] E) U (dL.mp<|JI.mp ao) (y.ext _ _<|a2.list af λX=>X.elim bk bS) (y.ext _ _<|a2.list g λX=>X.elim e.1 e.2) i bU)⟩⟩;exact dK g (a5 ax<|by decide)<|QJ<|db (λC=>go (.inl WT)<|.inr rfl) λC=>go aR<|.inl<|dL.mp<|il.mp C
theorem KC {S:fO}{aE:iv}{iH:Addr}(H:ba c)(B:ct ag aJ aE I a0 b7 S)(R:Rel b7 S 0)(aO:a0.length<=1000)(E:b7.cnt<=3000)(a3:I iH=Y (.list jC))(af:∀Z,ad (.bool true) Z):Bo (d5 c 12 ad) [bo,bD,bw,.ref ag.b,b4,ck,.ref aE.cu,cB,c7,.ref ag.cT,cy,cH,cX,bZ,.ref aE.O,c4,dl,cC,cc,cp,dt,dm,dC,.ref iH] [] I:=by
 refine gM (B.add a3<|a5 R.n<|by decide) λq bk bS bI=>bx (H.f 113)<|ca<|nb H B aO (a5 E<|by decide) (by decide) (by decide) λv ay ak ao bC al=>d3 ?_;have d:=bC.list a3 λX=>X.elim bk bS;refine vq (by clear af;exact dW (.bW (.g<|.k 100000)<|.a (.k 4) bh) [.bW b1 bh] ak) (by clear af;exact dW (.Lt (.a (.k 4) bh)<|.k 4611686018427387904) [.Lt bh<|.k 7] ao) ?_;refine u0 (λk ai I=>Inv ag iH aE.O aE.cu a0 k (3001+8*k) ai I) ⟨_,_,_,_,al,rfl,rfl,R.up<|c1 _,by refine(?_:b7.cnt+1<=_);clear af;exact cK (.le (.a aa aC)<|.a (.k 3001)<|.m 8 b1) [.le aa<|.k 3000] E,d,ye rfl⟩ (λk ai I P G=>?_) λai I q=>af I;refine bA λco aB=>hh P λQ aY aw au bG=>sQ bG λL e cT aq av u ax=>dr ax λx s=>?_;clear P;replace aB:=s▸aB;refine aB ?_;have an:k<=10:=by clear af;exact jQ (.le aa<|.k 10) [.Lt bh<|.k 7,.lt aa ab,.fE ab<|.a (.k 4) bh] ao G rfl
 exact bm e<|bm cT<|KB H L aq an aO (by clear af;exact bH (.le aa<|.k 3900) [.le aa<|.a (.k 3001)<|.m 8 ab,.le ab<|.k 10] av an) u λai h A=>hh A λa7 i t p bG=>sP bG λaK bB o J j l=>by have g:Inv ag iH aY.O aY.cu a0 (k+1) (3001+8*(k+1)) ai h:=⟨a7,i,t,p,aK,bB,o,J,by clear af;exact ch (.le aa<|.a (.k 3001)<|.m 8<|.a ab aC) [.le ah<|.a (.k 3001)<|.m 8 ab,.le aa<|.a ah<|.k 8] av j,l⟩;exact g
def iK (I:aI)(cu cl:Addr)(a0:List Int)(cnt:Nat):Prop:=I cu=Y (.list [.ref cl,.int (cnt:Nat)])/\I cl=Y (.list<|br a0)
theorem iK.ext (C:iK I a cl a0 cnt)(x:bF I ay):iK ay a cl a0 cnt:=⟨x _ _ C.1,x _ _ C.2⟩
theorem iK.draw (H:ba c)(C:iK I a cl a0 cnt)(aq:a0.length<=1000)(E:cnt<=10000)(hm:0<pt)(W:pt<1000000) (af:∀v Z,0<=v->v<pt->Fr (cO a) No No I Z->iK Z a cl a0 (cnt+1)->ad (.int v) Z):bk c 1 (.ref 1332) [.ref a,.int pt] ad I:= Go H C.1 C.2 aq E hm W λv Z ak ao u=>af v Z ak ao (.mL u C.1 rfl) ⟨u.at,u.keep C.1 C.2 λX=>uD (us:=[]) (Q:=a0) (l:=cl)<|by clear C aq af;cases a0 with|nil=>cases X|cons=>cases X⟩
theorem signs_at (C:(b:Int)<4):∃x:Int,(br [97,98,32,99])[b]?=Y (.int x)/\l0 x:=by
 rcases b with _|_|_|_|b
 ·exact(dj _ rfl (by decide)<|by decide)
 ·exact(dj _ rfl (by decide)<|by decide)
 ·exact(dj _ rfl (by decide)<|by decide)
 ·exact(dj _ rfl (by decide)<|by decide)
 ·lia
theorem Kd {cE:Addr}(H:ba c)(C:iK I b0 cl a0 cnt)(aq:a0.length<=1000)(E:cnt<=9000)(ar:I cE=Y (.list<|br [97,98,32,99])) (af:∀r Z Q i,Fr (cO b0) No No I Z->I r=am->Z r=Y (.list<|br Q)->b9 Q->Q.length<=6->i<=cnt+7->iK Z b0 cl a0 i->gF ⟨c,12,fD⟩ [.ref ae,.aD,.aD,.ref a,.aD,.aD,.ref b0,.aD,.aD,.ref N,.aD,.aD,.aD,bZ,.aD,.aD,.aD,.aD,.ref bT,.ref cE,.aD,.aD,.aD,.aD] (.ref r::us) Z): aR (.ref 1332) (cJ<|bi 6<|aR (.int 7)<|eS fj<|ki em<|hb [19,6] Bq gF) ⟨c,12,fD⟩ [.ref ae,.aD,.aD,.ref a,.aD,.aD,.ref b0,.aD,.aD,.ref N,.aD,.aD,.aD,bZ,.aD,.aD,.aD,.aD,.ref bT,.ref cE,.aD,.aD,.aD,.aD] us I:=by
 have bw:cE≠b0:=gc ar C.1 (λX=>by cases X);refine bx (H.f 113)<|ca<|C.draw H aq (a5 E<|by decide) (by decide) (by decide) λv ay ak ao bC U=>?_;have a6:v.toNat<=6:=by clear af;exact mu (.le aa<|.k 6) [.Lt bh<|.k 7,.fE aa bh] ao rfl
 refine vq (by clear af;exact dW (.bW (.g<|.k 100000) bh) [.bW b1 bh] ak) (by clear af;exact dW (.Lt bh<|.k 4611686018427387904) [.Lt bh<|.k 7] ao) ?_;refine GL (λaj Z=>∃Q,aj=br Q/\b9 Q/\Fr (cO b0) No No I Z/\iK Z b0 cl a0 (cnt+1+aj.length)) (a5 a6<|by refine J eI ?_;decide) (mM ([]) rfl jR bC U) ?_ ?_
 ·intro aj aN bo G;refine mA bo λQ h aP bg d=>?_;clear bo;subst h;have l:(br Q).length<6:=Jv G a6;have b:=bg.list ar bw;refine bx (H.f 113)<|ca<|d.draw H aq (by clear af;exact ch (.le (.a (.a aa aC) ab)<|.k 10000) [.le aa<|.k 9000,.le ah<|.k 6,.lt ab ah] E a6 G) (by decide) (by decide) λu M bp bI bF j=>?_;obtain⟨u,rfl⟩:=oU bp;refine a9 (signs_at bI) λx aL fC=>cU (k:=u) (bF.list b bw) aL (da rfl) (mM (Q++[x]) (by refine bm mq ?_;rfl) (λy L=>?_) (bg.trans bF) ?_)
  ·rcases gO.mp L with L|L
   ·exact aP y L
   ·cases gD.mp L;exact fC
  ·refine J bK ?_;exact j
 ·intro aj aN bo aF r M aH;refine mA bo λQ h aP bg d=>?_;clear bo;subst h;rw[e1] at aF;rw[e1] at d;exact af r M Q _ (bg.trans<|.cg aH.ext) (bg.none aH.1) aH.at aP (by clear af;exact bH (.le aa<|.k 6) [.le ab<|.k 6,.eq aa ab] a6 aF) (by clear af;exact ch (.le (.a (.a aa aC) ab)<|.a aa<|.k 7) [.le ah<|.k 6,.eq ab ah] a6 aF) (d.ext aH.ext)
def rH (R cu:Addr):Addr->Prop:=λa=>a=R\/a=cu
theorem VA {c:cG}{b cl sc cT cE R cu:Addr}{I:aI}{fD:ja}{a0:List Int}(H:ba c)(C:iK I cu cl a0 0)(aq:a0.length<=1000)(ar:I cE=Y (.list<|br [97,98,32,99]))(cd:I R=Y (.list []))(x:cl≠R) (bU:∀Z us aE cnt bZ,Fr (rH R cu) No No I Z->Z R=Y (.list us)->bY (gf I Z) us aE->aE≠[]->aE.length<=4->(∀r∈aE,b9 r/\r.length<=6)->cnt<=40->iK Z cu cl a0 cnt->Bp ⟨c,12,fD⟩ [.ref sc,.aD,.aD,.ref b,.aD,.aD,.ref cu,.aD,.aD,.ref cT,.aD,.aD,.aD,bZ,.aD,.aD,.aD,.aD,.ref R,.ref cE,.aD,.aD,.aD,.aD] [] Z): wq ⟨c,12,fD⟩ [.ref sc,.aD,.aD,.ref b,.aD,.aD,.ref cu,.aD,.aD,.ref cT,.aD,.aD,.aD,.aD,.aD,.aD,.aD,.aD,.ref R,.ref cE,.aD,.aD,.aD,.aD] [] I:=by
 have o:R≠cu:=gc cd C.1 (λX=>by cases X);have P:R≠cE:=gc cd ar (λX=>by cases X);have s:cE≠cu:=gc ar C.1 (λX=>by cases X);refine bx (H.f 113)<|ca<|C.draw H aq (by decide) (by decide) (by decide) λv ay ak ao bC U=>d3 ?_;refine vq (by clear bU;exact dW (.bW (.g<|.k 100000)<|.a aC bh) [.bW b1 bh] ak) (by clear bU;exact dW (.Lt (.a aC bh)<|.k 4611686018427387904) [.Lt bh<|.k 4] ao) ?_;have up:∀{I Z:aI},Fr (cO cu) No No I Z->Fr (rH R cu) No No I Z:=λF=>F.mono (λq X=> .inr X) (λq X=>X) λq X=>X;refine u0 (λk ai Z=>∃us aE cnt bZ,aE.length=k/\Fr (rH R cu) No No I Z/\Z R=Y (.list us)/\bY (gf I Z) us aE/\(∀r∈aE,b9 r/\r.length<=6)/\cnt<=1+7*k/\iK Z cu cl a0 cnt/\ai=[.ref sc,.aD,.aD,.ref b,.aD,.aD,.ref cu,.aD,.aD,.ref cT,.aD,.aD,.aD,bZ,.aD,.aD,.aD,.aD,.ref R,.ref cE,.aD,.aD,.aD,.aD]) (rc ([]) ([]) (1) .aD rfl (up bC) (bC.list cd o) trivial jR (c1 _) U rfl) ?_ ?_
 ·intro k K aN bo G;refine vf bo λus aE cnt bZ an bg h aQ aP a1 d l=>?_;clear bo;subst l;have p:k<4:=by clear bU;exact jQ (.lt aa<|.k 4) [.Lt bh<|.k 4,.lt aa ab,.fE ab<|.a aC bh] ao G rfl
  have S:us.length=k:=aQ.length.trans an;refine bx (ty_list h)<|Kd H (cE:=cE) d aq (by clear bU;exact bH (.le aa<|.k 9000) [.le aa<|.a aC<|.m 7 ab,.lt ab<|.k 4] a1 p) (bg.list ar λX=>X.elim (λX=>P X.symm) s) λr M Q i bF my ax fC aL av j=>?_;have be:=bF.list h o;refine kw us<|bx be<|bx (by refine J eI ?_;clear bU;exact bH (.le aa<|.k 16777216) [.lt ab<|.k 4,.eq aa ab] p S) λbz bf=>?_;have a2:Fr (rH R cu) No No M bz:=.mL bf be<|.inl rfl;have keep:∀{a:Addr} {bG:List Int},I a=am->aN a=Y (.list<|br bG)\/M a=Y (.list<|br bG)->bz a=Y (.list<|br bG):=λ{a bG} n e=>by have dA:M a=Y (.list<|br bG):=e.elim (λe=>bF.list e (cQ C.1 n).symm) id;exact(bf.ne (cQ cd n).symm).trans dA
  refine⟨us++[.ref r],aE++[Q],i,.int<|0+1*(k:Nat),?_,(bg.trans<|up bF).trans a2,bf.at,(aQ.mono λ_ _ ⟨a,e,n,g⟩=>⟨a,e,n,keep n<|.inl g⟩).append ⟨⟨r,rfl,bg.none my,keep (bg.none my)<|.inr ax⟩,trivial⟩,λy L=>?_,by clear bU;exact ch (.le aa<|.a aC<|.m 7<|.a ab aC) [.le ah<|.a aC<|.m 7 ab,.le aa<|.a ah<|.k 7] a1 av,?_,rfl⟩
  ·refine J bK<|J an ?_;rfl
  ·rcases gO.mp L with L|L
   ·exact aP y L
   ·cases gD.mp L;exact⟨fC,aL⟩
  ·exact⟨(bf.ne o.symm).trans j.1,(bf.ne x).trans j.2⟩
 ·intro ai aN bo;refine vf bo λus aE cnt bZ an bg h aQ aP a1 d l=>?_;clear bo;subst l;refine bU aN us aE cnt bZ bg h aQ ?_ (by clear bU;exact jQ (.le aa<|.k 4) [.Lt bh<|.k 4,.eq aa ab,.fE ab<|.a aC bh] ao an rfl) aP (by clear bU;exact jQ (.le aa<|.k 40) [.Lt bh<|.k 4,.le aa<|.a aC<|.m 7 ab,.fE ab<|.a aC bh] ao a1 rfl) d;rintro rfl;have an:0=(1+v).toNat:=an;clear bU;exact mu .nh [.bW b1 bh,.eq b1 aa,.fE aa<|.a aC bh] ak an rfl
noncomputable def qn:fO:=⟨[],1,am,[],[],[],0⟩
variable{j:Nat->V}
theorem WZ (B:b3 ag.tolR I [] 1 .none [])(he:I ag.cT=Y (.inst 1321 ag.kE))(d4:I ag.kE=Y (.attrs 1321<|qA ag (.ref cl) j))(T:TabAt I ag.iw ag.jF ag.f4 N bT 1 1 [(1,.ref ag.b)] [1])(nq:I ag.cW=Y (.inst 704 ag.sW))(qG:I ag.sW=Y (.attrs 704<|r4<|.ref ag.ih))(i:I ag.ih=Y (.cP []))(h:I ag.eT=Y (.cP []))(s:I cl=Y (.list [])) (xg:ag.ek≠ag.ih)(qy:ag.ek≠ag.eT)(tZ:ag.ih≠ag.eT)(r2:cl≠ag.cl)(bJ:eJ aF I)(bo:¬ aF cl)(bD:¬ aF ag.cl)(bw:¬ aF ag.ls)(bR:¬ aF ag.ek)(b4:¬ aF ag.f4)(ck:¬ aF ag.ih)(cV:¬ aF ag.eT)(g3:∀a ae al,aF a->I a≠Y (.attrs ae al)):dM ag aF I qn:=by
 refine(⟨.none,([]),am,(0),(.ref cl),⟨B,⟨rfl,(λq X=>by cases X)⟩,⟨he,⟨j,d4⟩,T.ak,(⟨_,_,_,_,T.ao⟩),T.bp,nq,qG⟩,λa X=>?_,(gd cl ([]) rfl (λX=>?_) s trivial),(bj ([]) i trivial),.inl ⟨h,rfl,rfl⟩,(λq X=>by cases X),p8 _,dU _,(λq X=>by cases X), ⟨gc B.R.hm.f7 T.bp (λX=>by cases X),xg,qy,gc T.bp i (λX=>by cases X),gc T.bp h (λX=>by cases X),tZ⟩,bD,bw,bR,b4,ck,cV,(λq X=>by cases X),g3⟩⟩)
 ·rcases X with rfl|X|X
  ·obtain⟨_,_,_,_,G⟩:=B.T;exact⟨_,G.a1⟩
  ·exact bX X
  ·exact bJ a X
 ·rcases X with X|X|X
  ·exact r2 X
  ·exact bX X
  ·exact bo X
theorem RM {c:cG}{I:aI}{ad:V->aI->Prop}(H:ba c){sc:Addr}{bq:List Int}{aj:Array bt}{n:Nat}(dv:c.base.get? sc=Y (listOf aj n))(aV:cj (br bq) aj.toList)(aq:bq.length<=1000)(af:∀Z,ad (.bool true) Z):wC (d5 c 12 ad) [.ref sc,.aD,.aD,.aD,.aD,.aD,.aD,.aD,.aD,.aD,.aD,.aD,.aD,.aD,.aD,.aD,.aD,.aD,.aD,.aD,.aD,.aD,.aD,.aD] [] I:=by
 --bC c5
 refine(⟨_,⟨aj,n,dv,aV⟩,(a5 (by refine J e1 ?_;exact aq:(br bq).length<=1000) (by refine J eI ?_;decide)),(λp ay n₁=>Or.inl (bj _ n₁.at ?_))⟩)
 have aP:=n₁.at
 replace aP:=uE▸r1▸(rfl:(60:Int)=((60:Nat):Int))▸aP
 have bR:(bq.take 60).length<=60:=by refine J cF ?_;exact nP _ _
 generalize bq.take 60=bH at aP bR
 refine uZ (λaj Z=>bF ay Z/\aj=br ((bH.take aj.length).map λa=>(a.natAbs:Int))) (a5 (by refine J e1 ?_;exact bR:(br bH).length<=60) (by refine J eI ?_;decide)) ⟨.refl,rfl⟩ (λaj Z C=>C.1 _ _ aP) ?_ ?_
 ·rintro aj aN u ⟨a3,e⟩ aU
  refine a9 (oq aU) λx aL bh=>?_;refine J bh ?_
  refine⟨a3,?_⟩
  refine J bK<|J fe<|J ju<|J jZ<|J aL<|J (tn _)<|J jv<|bm mq<|bm e ?_
  rfl
 rintro aj aN ⟨a3,e⟩ aF cl M aH
 replace aF:=e1▸aF
 replace e:=k0▸aF▸e
 subst e
 have aO:(bH.map λa=>(a.natAbs:Int)).length<=1000:=by refine J (fx _) ?_;exact a5 bR (by decide)
 generalize(bH.map λa=>(a.natAbs:Int))=a0 at aH aO
 clear aF aP bR a3 n₁ dv aq aV aj n
 refine bx (cv rfl) λcu bz be=>?_
 have D:iK bz cu cl a0 0:=⟨be.at,be.ext _ _ aH.at⟩
 clear be aH
 --bC c7
 refine bx (H.k 3).keep (bx (H.k 2).keep (ca (JP H λiw jF f4 dA ff bN aS cX cY bn bg b7 bw ak ao bp bI c9=>ca (JV H λcT kE eT bO f bM bE cZ c0 a6 a8 he d4 h s=>bx (cv rfl) λt bQ aB=>eE aB.at rfl ?_))))
 have T:TabAt bN iw jF f4 dA ff 0 0 [] []:=⟨ak,ao,bp,bI,c9,bw⟩
 have P:cl≠dA:=cQ D.2 bg
 have ai:cu≠dA:=cQ D.1 bg
 have ab:cl≠f4:=cQ D.2 bn
 have ax:cu≠f4:=cQ D.1 bn
 have aX:bO≠dA:=(cQ bI a8).symm
 have bD:eT≠f4:=(cQ bp a6).symm
 replace D:=D.ext aS
 have bc:cl≠eT:=cQ D.2 a6
 have cR:cu≠eT:=cQ D.1 a6
 have cS:cl≠bO:=cQ D.2 a8
 have ci:cu≠bO:=cQ D.1 a8
 have bi:=bE.trans aB.ext
 replace D:=D.ext bi
 replace T:=T.ext bi
 replace he:=aB.ext _ _ he
 replace d4:=aB.ext _ _ d4
 replace h:=aB.ext _ _ h
 replace s:=aB.ext _ _ s
 clear aS bE bi aB ak ao bp bI c9 cX cY bn bg b7 cZ c0 a6 a8 bw
 --bC c4
 refine lh ?_;intro db
 refine c8 he d4 rfl (dq T.ak T.ao rfl (H.m 21) (ca (Oi H T λW bV az au ah S av B b3=>bx (cv rfl) λcE bW aZ=>bx (cv rfl) λt dc bb=>eE bb.at rfl ?_)))
 have ck:cl≠W.cl:=cQ D.2 S
 have cm:cu≠W.cl:=cQ D.1 S
 have cn:cl≠W.ls:=cQ D.2 ah
 have co:cu≠W.ls:=cQ D.1 ah
 have cp:cl≠W.ek:=cQ D.2 av
 have cq:cu≠W.ek:=cQ D.1 av
 have cx:dA≠W.cl:=cQ T.bI S
 have cy:dA≠W.ls:=cQ T.bI ah
 have cr:bO≠W.cl:=cQ s S
 have cs:eT≠W.ek:=cQ h av
 have aC:=aZ.ext.trans bb.ext
 replace D:=(show iK bV cu cl a0 0 from⟨az.list D.1 ai,az.list D.2 P⟩).ext aC
 replace he:=aC _ _ (az.inst he)
 replace d4:=aC _ _ (az.attrs d4 (by decide))
 replace h:=aC _ _ (az.cP h bD)
 replace s:=aC _ _ (az.list s aX)
 replace B:=B.ext aC
 replace T:=b3.ext aC
 have ar:=bb.ext _ _ aZ.at
 have cw:cE≠dA:=(cQ b3.bI aZ.1).symm
 clear az b3 aC aZ bb au ah S av
 refine c8 he d4 rfl (dq T.ak T.ao rfl (H.m 22) (ca (VJ H T B λb0 F bf=>?_)))
 replace D:iK b0 cu cl a0 0:=⟨F.list D.1 ai,F.list D.2 P⟩
 replace he:=F.inst he
 replace d4:=F.attrs d4 (by decide)
 replace h:=F.cP h id
 replace s:=F.list s aX
 replace B:=B.fr F cy.symm cx.symm id (by decide) (by decide) (by decide) (by decide)
 replace ar:=F.list ar cw
 clear T F
 --bC de
 refine bx (H.k 8).keep (ca (J0 H λbP fV N dd x cc ce aK a4 bd aw=>iE (x _ _ he) (x _ _ d4) (H.d 37) (px (by kernel_rfl)) λb2 u=>bx (cv rfl) λR aR i=>?_))
 have bA:=u.at
 replace bA:=U5▸bA
 have aJ:∀{a:Addr} {o:O},b0 a=Y o->(∀al,o≠.attrs 1321 al)->b2 a=Y o:=λC n=>u.keep (x _ _ d4) (x _ _ C) (n _)
 have cz:W.ek≠N:=cQ B.R.hm.f7 aK
 have cA:N≠eT:=(cQ h aK).symm
 have cB:cl≠N:=cQ D.2 aK
 have cC:cu≠N:=cQ D.1 aK
 replace D:iK b2 cu cl a0 0:=⟨aJ D.1 (λq X=>by cases X),aJ D.2 (λq X=>by cases X)⟩
 replace he:=aJ he (λq X=>by cases X)
 replace h:=aJ h (λq X=>by cases X)
 replace s:=aJ s (λq X=>by cases X)
 replace ar:=aJ ar (λq X=>by cases X)
 have bU:Fr No No (λK=>K=1321) b0 b2:=(Fr.cg x).trans (.i3 u (x _ _ d4) rfl)
 replace B:=B.fr bU id id id (by decide) (by decide) (by decide) (by decide)
 replace bf:=bf.fr bU id id id (by decide)
 replace a4:=u.keep (x _ _ d4) a4
 replace aw:=u.keep (x _ _ d4) aw
 replace bd:=u.keep (x _ _ d4) bd (λX=>by cases X)
 clear aJ bU cc ce aK d4 u x
 have cD:R≠cl:=(cQ D.2 i.1).symm
 have c2:R≠cu:=(cQ D.1 i.1).symm
 have cH:R≠bO:=(cQ s i.1).symm
 have cI:R≠W.ls:=(cQ B.R.ap i.1).symm
 have cJ:R≠W.cl:=by
  exact fi (B.T) λq q q q G=>(cQ G.a1 i.1).symm
 have cL:R≠W.ek:=(cQ B.R.hm.f7 i.1).symm
 have cM:R≠f4:=(cQ bf.bp i.1).symm
 have cN:R≠N:=(cQ aw i.1).symm
 have cO:R≠eT:=(cQ h i.1).symm
 have v:=i.ext
 replace D:=D.ext v
 let ag:gR:={W with cT:=cT,kE:=kE,iw:=iw,jF:=jF,f4:=f4,cW:=bP,sW:=fV,ih:=N,eT:=eT}
 have bJ:∀a,(a=cl\/a=cu\/a=R)->∃us,aR a=Y (.list us):=λa X=>by
  rcases X with rfl|rfl|rfl
  ·exact⟨_,D.2⟩
  ·exact⟨_,D.1⟩
  ·exact⟨_,i.at⟩
 have w:dM ag (λa=>a=cl\/a=cu\/a=R) aR qn:=WZ (ag:=ag) (B.ext v) (v _ _ he) (v _ _ bA) (bf.ext v) (v _ _ a4) (v _ _ bd) (v _ _ aw) (v _ _ h) (v _ _ s) cz cs.symm cA cr (λa X=>dr (bJ a X) λus e=>⟨_,e⟩)
  (λX=>X.elim (λX=>cS X.symm) λX=>X.elim (λX=>ci X.symm) λX=>cH X.symm) (λX=>X.elim (λX=>ck X.symm) λX=>X.elim (λX=>cm X.symm) λX=>cJ X.symm) (λX=>X.elim (λX=>cn X.symm) λX=>X.elim (λX=>co X.symm) λX=>cI X.symm) (λX=>X.elim (λX=>cp X.symm) λX=>X.elim (λX=>cq X.symm) λX=>cL X.symm)
  (λX=>X.elim (λX=>ab X.symm) λX=>X.elim (λX=>ax X.symm) λX=>cM X.symm) (λX=>X.elim (λX=>cB X.symm) λX=>X.elim (λX=>cC X.symm) λX=>cN X.symm) (λX=>X.elim (λX=>bc X.symm) λX=>X.elim (λX=>cR X.symm) λX=>cO X.symm) (λa ae al X e=>by obtain⟨us,a7⟩:=bJ a X;replace a7:=e▸a7;cases a7)
 replace ar:=v _ _ ar
 have cd:=i.at
 change wq (d5 c 12 ad) [.ref sc,.aD,.aD,.ref ag.b,.aD,.aD,.ref cu,.aD,.aD,.ref ag.cT,.aD,.aD,.aD,.aD,.aD,.aD,.aD,.aD,.ref R,.ref cE,.aD,.aD,.aD,.aD] [] aR
 clear_value ag
 clear B he bA bf a4 bd aw h s v P ai ab ax aX bD bc cR cS ci ck cm cn co cp cq cr cs cw cx cy cz cA cB cC cH cI cJ cL cM cN cO i
 refine VA H D aO ar cd cD.symm λaY us aE cnt bZ F bu aQ bw bl aG E U=>lh ?_;intro da
 refine bx (cv rfl) λL df j=>λbY dg an=>bx (by decide+kernel:(["rows","last","kept"]:List Str).Nodup) λO bT aA=>?_
 have cU:=j.ext.trans an.ext
 have y:=cU.trans aA.ext
 have cb:Fr (rH R cu) No No aR bT:=F.trans (.cg y)
 have c6:aY O=am:=j.ext.none (an.ext.none aA.1)
 have b4:aY bY=am:=j.ext.none an.1
 have b9:∀{a:Addr},aY a=am->¬ (a=cl\/a=L\/(aR a=am/\∃us,aY a=Y (.list us)))\/a=L:=λ{a} C=>by
  by_cases X:a=L
  ·exact .inr X
  ·exact .inl λbB=>bB.elim (λbB=>cQ U.2 C bB.symm) λbB=>bB.elim X λbB=>by obtain⟨_,us,e⟩:=bB;replace e:=C▸e;exact bX e
 have l:eQ (λa=>a=cl\/a=L\/(aR a=am/\∃us,aY a=Y (.list us))) ⟨O,R,L,bY,cu,cl⟩ bT a0 ⟨aE,[],[],cnt⟩:=by
  refine⟨aA.at,⟨us,y _ _ bu,aQ.mono λ_ _ ⟨a,e,n,g⟩=>⟨a,e,.inr (.inr ⟨n,_,g⟩),y _ _ g⟩⟩,⟨[],aA.ext _ _ (an.ext _ _ j.at),trivial⟩,.inr (.inl rfl),⟨[],aA.ext _ _ an.at,trivial⟩,y _ _ U.1,y _ _ U.2,.inl rfl,?_,?_,?_,?_,c2,λa X=>?_,λa ae al X e=>?_⟩
  ·exact(b9 c6).elim id λX=>(cQ (an.ext _ _ j.at) aA.1 X.symm).elim
  ·exact λX=>X.elim cD λX=>X.elim (cQ bu j.1) λX=>by replace X:=cd▸X;cases X.1
  ·exact(b9 b4).elim id λX=>(cQ j.at an.1 X.symm).elim
  ·refine λX=>X.elim (gc D.1 D.2 (λX=>?_)) λX=>X.elim (cQ U.1 j.1) λX=>by replace X:=D.1▸X;cases X.1
   exact uD (us:=[]) (Q:=a0) (l:=cl) (by cases a0 with|nil=>cases X|cons=>cases X)
  ·rcases X with rfl|rfl|bo
   ·exact⟨_,y _ _ U.2⟩
   ·exact⟨_,aA.ext _ _ (an.ext _ _ j.at)⟩
   ·refine vd bo λq us e=>?_;clear bo
    exact⟨_,y _ _ e⟩
  ·rcases X with rfl|rfl|bo
   ·replace e:=(y _ _ U.2)▸e;cases e
   ·replace e:=(aA.ext _ _ (an.ext _ _ j.at))▸e;cases e
   ·refine vd bo λq us a7=>?_;clear bo
    replace e:=(y _ _ a7)▸e;cases e
 have B:ct ag (λa=>a=cl\/a=L\/(aR a=am/\∃us,aY a=Y (.list us))) ⟨O,R,L,bY,cu,cl⟩ bT a0 ⟨aE,[],[],cnt⟩ qn:=by
  refine⟨l,?_⟩
  refine kP w λmk aW bL last bO w=>(⟨mk,aW,bL,last,bO,(w.Gn cb (λa X=>?_) (λa X=>X.elim) (λa X=>?_) l.zJ l.zI)⟩)
  ·exact X.elim (λX=> .inr (.inr X)) λX=> .inr (.inl X)
  ·rcases X with(X|X|X)|X|X|X|X
   ·exact .inl (.inl X)
   ·exact .inr (F.none (X▸j.1:aY a=am))
   ·exact .inr X.1
   ·exact .inr (F.none (X▸c6))
   ·exact .inl (.inr (.inr X))
   ·exact .inr (F.none (X▸b4))
   ·exact .inl (.inr (.inl X))
 have b6:=(⟨us,y _ _ bu,aQ.mono λ_ _ ⟨a,e,_,g⟩=>⟨a,e,y _ _ g⟩⟩:l3 bT R aE)
 clear l b9 c6 b4 cb y cU j an aA aQ bu F D U ar cd w bJ
 have b5:(aT aE).length<=28:=a5 (xR (K:=6) λr C=>(aG r C).2) (by clear af;lia)
 --bC A
 refine bx (H.f 28) (bx (H.f 114) (ca (x2 H b6 bw (a5 bl (by decide)) (a5 b5 (by decide)) λbG dh x bv aM=>ca (F3 H (B.ext x) (p:=0) rfl aM ?_ (dU _) ?_ λdi F B=>?_))))
 ·obtain⟨_,mk,aW,bL,last,bO,w⟩:=B
  exact fi (w.B.T) λq q q q G=>(cQ G.a1 bv).symm
 ·refine(?_:0+(aT aE).length<=100000)
  clear af;exact cK (.le (.a b1 aa) (.k 100000)) [.le aa (.k 28)] b5
 have cV:Rel ⟨aE,[],[],cnt⟩ (qn.move (eY (0+1) (0+1) (aT aE).length) (qn.a2.take 0++aT aE++qn.a2.drop 0) ((0+(aT aE).length:Nat)+1)) 0:=
  ⟨hV _,rfl,rfl,bw,λr C=>(aG r C).1,a5 b5 (by decide),a5 bl (by decide),⟨dU _,(λq X=>by cases X)⟩,(λq X=>by cases X),c1 _,c1 _⟩
 --bC c3
 exact bx (cv rfl) λbk dj cf=>bx (cv rfl) λbS dk b8=>vk (b8.ext _ _ cf.at) b8.at (cv rfl) λiH dl ch=>KC H (B.ext ((cf.ext.trans b8.ext).trans ch.ext)) cV aO (a5 E (by decide)) (iH:=iH) ch.at af
set_option tactic.hygienic true
variable{d:Params}
theorem Q6:∀{aj:List bt},WellAll d C aj (ofPys<|Q.map AO)->cj (br Q) aj:=by
 induction Q with
 |nil=>intro aj w;cases w;trivial
 |cons x Q B=>
  intro aj w;cases w with
  |cons a w=>cases a;exact⟨⟨_,rfl⟩,B w⟩
theorem R5 (w:Well d C (.ref a) (ofPy<|.list<|Q.map AO)):∃(aj:Array bt) (n:Nat),C.get? a=Y (listOf aj n)/\cj (br Q) aj.toList:=by
 have e:ofPy (.list<|Q.map AO)=.list (ofPys<|Q.map AO):=rfl;replace w:=e▸w;cases w with
 |list ak ao=>exact(fv _ _ ak<|Q6 ao)
theorem Vv:fz callerA 13:=⟨by decide+kernel,by decide+kernel,rfl⟩
theorem Y8:WalkO q4 qO (λq q=>True) wD lw.row.toRowW x1 [] λf aj=>PySem.call f aj:=by
 intro w L be i oy G aE a o m h E C F ak ao bp bI d p args al as W s bd D j;refine d8 aE λK bU bv bE=>?_;clear aE;clear ak ao bp bI;wrow_args W s bd D j;rename_i Q _ _ _ _ _ y A l aj B c3 bP bk N P ax bL _;have hm:(K.lookup sysModules).isSome=true:=w2 (pe -1) bE;have a1:cG.Ok ⟨gz,w,be.heap,K,be.os⟩:=⟨bU,G.T.nolimit,⟨i,G.T.g⟩,(bj oy G.T.b G.T.builtins),G.T.nodigits,by obtain⟨o,e⟩:=qa.mp hm;exact⟨o,bU _ _ e⟩⟩;have H:=Pk a1 bv bE;refine bA λco aB=>a9 (FQ (c:=⟨gz,w,be.heap,K,be.os⟩)<|w2 (pe -3) bE) λv a6 aW=>?_;have aW:v=.ref 1413:=aW;replace a6:=aW▸a6;have aK:=mg_of bU G.T.g a6;have t:i "law"=Y (.ref a):=d;replace aK:=t▸aK;cases aK;refine dT (R5 bk) λab n ap ao=>aB ?_;have bL:Q.length<=1000:=by omega
 refine wpAny_call ?_;have S:bz ⟨gz,w,be.heap,K,be.os⟩ (λq=>am) be:=⟨λq q e=>e,(λq q X=>by cases X),(λq q X=>by cases X),p,rfl⟩;refine MO (c:=⟨gz,w,be.heap,K,be.os⟩) (n:=10) H (ad:=λu q=>u=.bool true) (I:=λq=>am) (ar:=.ref l) (RM H ap ao bL λq=>rfl) Vv rfl S rfl ⟨rfl,trivial⟩ ?_;intro v aH bo;refine cS bo λu Z aU au x O=>?_;clear bo;replace aU:=O▸aU;cases(aU:v=.bool true);refine⟨.inl<|pQ _ (.bool true) ([]) rfl (λcls=>?_) (.bool true) ?_ λq=>⟨.nil,jR⟩,.of_keep λb o e=>x.ea b o id rfl e,au.os,.of_eq au.gens⟩
 ·rfl
 ·wrow_post
set_option tactic.hygienic false
end Mine
end
theorem PySem.Challenge.cw_sq0012_02_holds : PySem.Challenge.rw_sq0012_02.Holds :=
 holds_law Mine.Zi fun h=>Mine.Ze Mine.Y8 h
