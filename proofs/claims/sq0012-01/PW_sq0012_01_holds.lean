import PyProof.Rows.All
import Wide.All
import OpenK.KMake
import OpenK.KMore
import OpenK.KOwn
import KE.KStateDown
import PyProof.SliceStr2
import KE.KDictSum
import OpenK.KNot
import PyProof.WalkInts
import PyProof.StationsW
import PyProof.ExcAttrAll.Exception
import PyProof.NsDelKeeps
import PyProof.StrLawsTight
import PyProof.StrLawsFrom
import PySem.Challenge.RW_sq0012_01
open PySem renaming Value->a3,Scope->ck,DictEntry->lE,mainGlobals->iO,builtinsNs->oi,bootBuiltins->dS,Shared->eN,Around->qJ,wpAny->pn,wpAny_mono->po,binaryOp->abU,compareOp->Cj,behindInMarks->ha,wpAny_execs_nil->mA,wpAny_execs_cons->lF,swapsWith->nr,wpAny_bind->sg,wpAny_standAt->nt,standAt->ach,holding->io,wpAny_truthy_bool->cK,wpAny_holding->pp,wpAny_pure->mB,backTo->L9,starEach->gM,callWith->kd,wpAny_Call_Name_kw->pg,sizeLine->gW,NameKind->Lg,cellsFrom->jc,codeAny->br,getAttr->Lh,letTemporaryGo->aaP,sizeLine_eq->wT,plainObj_wpAny_Assign_Attribute->aco,getMethod->Ll,backToKw->wU,keywordEach->Bx,call_meets->Lp,typeLookup->wX,list_getitem_lookup->Lq,clipAt->Lr,evalPart_none->BB,wpAny_getItem_list_slice->jd,slot_list_setitem->aaY,wpAny_field->je,swapsWithSole->hB,swappedStores->BJ,assignEach->cJ,wpAny_assign_Name->qy,foldedSetIterable->r4,setFlight->r7,excClassObj->aa9,wpAny_loadPart_at->aba,wpAny_typeLookup_exc->LD,Comprehension->LF
open Nat renaming beq->gg,blt->wO,eq_of_beq_eq_true->r0,succ_pos->Lu,zero_add->BI,le_total->dR,min_eq_left->ke,min_eq_right->mx,max_eq_right->pl,max_eq_left->abA,sub_eq_zero_of_le->acp,lt_of_not_le->qH,le_of_not_lt->pm,ble->dN,not_lt->ep,le_refl->nu,lt_irrefl->ki,ne_of_lt->eB,le_of_lt->rW,lt_of_le_of_lt->il,le_succ->Bv,succ_le_succ->t4,mul_le_mul->Lo,succ->c6,zero_le->BK,lt_succ_self->BL,le_of_eq->r5,lt_succ_of_lt->Ly,le_trans->nf,beq_refl->BN,le_add_right->w2,le_of_ble_eq_true->r6,le_antisymm->t9,lt_of_le_of_ne->BO,ne_of_gt->aa3,le_add_left->w4,sub_zero->LI,min_le_right->BV,min_le_left->abi,sub_le->BW,add_le_add->abj,sub_add_cancel->kf,sub_pos_of_lt->LJ,sub_add_eq->w6,sub_self->abk,max_comm->w7,add_comm->jg,max_le->abl,lt_of_sub_pos->abn,log2_le_self->LL,zero_lt_succ->sb,add_zero->xa,add_assoc->BZ,add_le_add_left->pk,lt_trans->uh,add_le_add_right->xg,add_sub_cancel_left->kh,add_sub_cancel'->iN,lt_of_lt_of_le->LS,le_of_succ_le->xi,sub_sub_self->B6,le_max_left->xj,succ_mul->se,add_right_comm->og,le_of_succ_le_succ->Cb,add_lt_add_right->L0,le_succ_of_le->abF,not_le_of_lt->abM,sub_right_comm->abN,min_self->abQ,mul_le_mul_right->uo
open PySem.W renaming keepIn->mz,SharedT->hD,boot_heap->nq
open List renaming replicate->dr,not_mem_nil->wP,mem_map->yB,length_cons->hC,reverse_cons->ur,mem_cons->Q8,mem_of_getElem?->jI,getElem?_set->eZ,getElem?_set_ne->ab7,getElem?_inj->ut,getElem?_eq_some_iff->xn,length_set->acj,append_assoc->aaG,length_reverse->aaH,reverse_reverse->aaI,append_nil->Bs,zip_cons_cons->t2,lookup_cons->wQ,nodup_cons->aaK,lookup_append->aaL,filterMap_cons->Le,forIn_nil->ik,forIn_cons->Lf,foldl_cons->n7,take_append_drop->rV,nodup_append->aaM,map_cons->n8,perm_middle->gX,cons_append->t3,getElem?_append_left->Bu,length_append->nb,getElem?_append_right->kU,length_replicate->hA,find?_cons->gf,any_cons->rX,mem_singleton->aaO,toList_toArray->t5,any_eq_true->rY,mem_of_find?_eq_some->Li,find?_some->aaR,size_toArray->wS,foldl->wV,replicate_succ->aaV,flatten_cons->n9,ext_getElem?->wZ,range->g9,mem_range->Ls,getElem?_map->qw,getElem?_range->BE,getElem?_reverse->qx,getElem?_eq_none->w0,cons->BF,extract_eq_take_drop->nd,take_of_length_le->pj,length_map->aa0,getElem?_eq_getElem->Lw,getElem?_eq_none_iff->fO,mem_append->bc,length_nil->uc,contains_cons->qA,length_eq_zero_iff->gB,getElem?_set_self->r8,all_eq_true->abe,all_cons->abf,isEmpty_iff->LG,drop_zero->kW,take_eq_take_iff->BS,length_drop->BU,drop_eq_nil_of_le->jf,drop_take->kX,map_take->acl,map_drop->r9,map_append->qB,take_add_one->jH,length_take->qC,mem_of_mem_take->BX,mem_replicate->kg,mem_of_mem_drop->od,take_take->abm,take_length->oe,take_zero->w8,head?_drop->abo,drop_eq_getElem_cons->abp,getLast?_eq_getElem?->B0,foldl_append->LN,dropLast_concat_getLast->LO,mem_iff_getElem?->qE,length->xc,length_mapIdx->xd,getElem?_mapIdx->ui,drop_append_of_le_length->B1,take_append_of_le_length->xf,take_length_add_append->B2,drop_length_add_append->LQ,take_left->B3,drop_left->abt,drop->LR,take->B4,map_map->uj,map_congr_left->qF,mem_map_of_mem->xh,map_id'->uk,getElem?_take->abu,take_left'->cX,drop_left'->abw,reverse_append->B5,takeWhile_cons_of_pos->LV,takeWhile_cons->B7,take_succ_cons->LW,take_reverse->aby,mem_reverse->abz,drop_drop->abB,sum_append->B8,drop_append->ul,drop_length->B9,mem_append_left->sd,mem_append_right->LX,sum_cons->LY,map_eq_nil_iff->Ca,length_pos_iff->abC,count_append->abD,count_eq_zero->abE,any_map->xk,length_range->abI,drop_nil->L2,take_nil->L3,mem_cons_self->L4,mem_cons_of_mem->abJ,range_succ->abK,foldl_nil->xl,getElem?_drop->abL,map_set->Ce,drop_of_length_le->Cf,nil_append->Cg,dropWhile_sublist->abO,getElem?_of_mem->abP,map->Ch
open Exists renaming elim->fN,intro->aci
open Int renaming zero_add->Bt,add_zero->aaN,add_assoc->Lj,mul_zero->aaT,mul_add->Ln,one_mul->r2,zero_mul->acr,mul_one->Lx,neg_one_mul->w3,sub_nonneg_of_le->aa7,add_comm->mv,sub_self->dX,sub_sub->lD,min_eq_left->nk,ofNat_le->qD,min_eq_right->xe,max_eq_right->LU,max_eq_left->LZ,le_total->L1,ofNat_sub->e6,toNat_of_nonneg->L6,ofNat_lt->qG,ofNat->uq,le_refl->eo,natCast_nonneg->oh,le_of_eq->L7,le_of_lt->jh,negSucc_lt_zero->xm,mul_nonneg->abS,le_trans->abT,lt_irrefl->sf,lt_of_le_of_lt->qI,eq_ofNat_of_zero_le->aaZ,toNat_natCast->w1,not_lt->aa1,natCast_add->t7,add_sub_cancel->sa,not_le->LK,lt_of_lt_of_le->w9,min_le_right->abq,min_le_left->BY,lt_min->xb,le_add_of_nonneg_right->LP,ofNat_eq_zero->abv,sub_le_self->my,ne_of_gt->um,toNat->abG
open Classical renaming not_not->kY
open Bool renaming and_eq_true->abR,or_eq_true->eM,eq_iff_iff->d0,and_true->aa2,not_eq_true'->Lz
open PySem.Heap renaming lt_size->acg,SameBut->L8,get?_push_of_some->sh,ExtBut->mC,get?_push_size->ph,get?_update_self->aaS,size_update->Lk,get?_update_ne->Bw,size_push->d8,get?->Lm,get?_update_other->aa8
open Option renaming isSome_iff_exists->Ci,some->kZ,map_some->m9,none_or->hU,none->By,map_eq_some_iff->ud,bind_eq_some_iff->abd,isNone_iff_eq_none->abg,bind_some->uf,elim_none->abh,elim_some->cg,toList_some->abr
open Ne renaming symm->us
open PySem.Keeper renaming frame->aaJ,machine->t1,boundFrame->acq
open PySem.W.Looks renaming of_pure->Lc
open PySem.IsRange renaming new->Ld
open Eq renaming symm->g7
open Array renaming any_toList->aaQ,length_toList->aaU,getElem?_toList->nc,getElem?_eq_some_iff->BA,toList_reverse->BC,getElem?_eq_getElem->iM,eraseIdxIfInBounds->aa4,toList_inj->BR,replicate->LM,all_toList->ug
open PySem.PyData renaming keyHash->wR,int->acm
open PySem.Obj renaming putName->eA,mapSeq->BG,data_mapFields->BQ,mapFields->ni,isFreed_of_fields->mu
open PySem.Code renaming weight->rZ,cUnits->Bz,quiet_builtin->abb
open PySem.Builtin.Str renaming tooLong->iL,strSliceIndices->aaX,padded->kV,lastOccurrence->ng,occurrences->aa5,partsBetween->LB,strKind->aa6
open PySem.F renaming slot_int_rmul->ms,plainAttrs_list->BH,plainAttrs_str->BM,slot_str_split->qz,entry_str_split->oc,args_str_split_2->ub
open PySem.Builtin.List renaming listTooLong->aaW,listSubscript?->r3,listSameRef->oa
open PySem.Value renaming isInt->g8,isStrOf->wW,int->ua,none->BP,ref->im,builtin->jG
open PySem.Heap.IsList renaming typeIs->r1
open PySem.Heap.IsSliceOf renaming new->wY
open Function renaming comp->BD
open PySem.Heap.SameBut renaming update->Lv
open PySem.Str renaming ofString->pi,ext'->abH,join->Cd
open PySem.MeetsSeq.EqGives renaming int->t6
open PySem.NameKind renaming free->t8
open PySem.Txt renaming join->LA,split->LC
open PySem.EntryCells renaming newEntry->nh
open PySem.Builtin.ObjectAttr renaming storeInDict->w5
open PySem.Within renaming cons->nj,nil->abc
open PySem.Expr renaming UnaryOp->ue,Call->LH
open Prod renaming mk->mw
open And renaming intro->abx
open PySem.StrLaws renaming glued_eq_join->Cc,At->L5
open PySem PySem.W PySem.Calls PyProof.Rows
noncomputable section
set_option Elab.async false
set_option maxRecDepth 100000
set_option maxHeartbeats 0
set_option linter.all false
set_option genInjectivity false
set_option genSizeOf false
set_option tactic.hygienic false
namespace Mine
local macro_rules |`(tactic|ext)=>`(tactic|kernel_rfl)
set_option genInjectivity true
inductive V where
 |aK|none
 |bool (b:Bool)
 |int (i:Int)
 |str (s:Str)
 |ref (a:Addr)
 |ext (v:a3)
set_option genInjectivity false
noncomputable def fS (K:Frag)(ae:Addr)(n:Str):Bool:= findIn K (.ref ae) n==kZ By&&takerIn K ae n==kZ By&&plainGet K ae n&&hasDictIn K ae&&plainOver K ae&& findIn K (.ref ae) "__setattr__"==kZ (kZ<|.builtin "object.__setattr__")
noncomputable abbrev zN (K:Frag)(ae:Addr):Bool:=isNotIn K "int" ae
variable{aR:Type}
noncomputable def pe (z:aR)(e:Stmt)(f:List Expr->Expr->Pos->aR:=λq q q=>z)(h:Option Expr->Pos->aR:=λq q=>z)(d:Expr->Pos->aR:=λq q=>z)(c:Expr->List Stmt->List Stmt->Pos->aR:=λq q q q=>z)(l:Expr->List Stmt->List Stmt->Pos->aR:=λq q q q=>z)(g:Expr->Expr->List Stmt->List Stmt->Pos->aR:=λq q q q q=>z)(j:Option Expr->Option Expr->Pos->aR:=λq q q=>z)(k:List Stmt->List ExceptHandler->List Stmt->List Stmt->Pos->aR:=λq q q q q=>z)(a:Str->Arguments->List Stmt->List Expr->Option Expr->List TypeParam->ck->Option ck->Str->Pos->aR:=λq q q q q q q q q q=>z)(i:Str->List Expr->List Keyword->List Stmt->List Expr->List TypeParam->ck->Option ck->Str->List Str->Pos->aR:=λq q q q q q q q q q q=>z):aR:=Stmt.casesOn (motive_2:=λq=>aR) e a (λq q q q q q q q q q=>z) i h (λq q=>z) f (λq q q q q q q=>z) (λq q q q=>z) (λq q q q q=>z) g (λq q q q q=>z) l c (λq q q=>z) (λq q q=>z) (λq q q=>z) j k (λq q q q q=>z) (λq q q=>z) (λq q=>z) (λq q q q=>z) (λq q=>z) (λq q=>z) d (λq=>z) (λq=>z) λq=>z
noncomputable abbrev gw:Program:=PySem.Challenge.pw_sq0012_01
def bW (i:Nat):Stmt:=gw.main.body.getD i<|.Pass default
def Qg (s:Stmt):List Stmt:=pe [] s (i:=λ_ _ _ b _ _ _ _ _ _ _=>b)
def ec (i j:Nat):Stmt:=(Qg<|bW i).getD j<|.Pass default
def fBody (s:Stmt):List Stmt:=pe [] s (a:=λ_ _ b _ _ _ _ _ _ _=>b)
def fScope (s:Stmt):ck:=pe ⟨.function,[],false,false,[]⟩ s (a:=λ_ _ _ _ _ _ s _ _ _=>s)
structure lM where
 a:Addr
 b:List Stmt
 s:ck
 dQ:List Str
 gq:List V
 nm:List Str
def fr (a:Addr)(st:Stmt)(dQ:List Str)(gq:List V)(ls:List Str):lM:=⟨a,fBody st,fScope st,dQ,gq,dQ++ls⟩
noncomputable def bE (x:Str)(u:V):Str×V:=(x,u)
noncomputable def b9 (ae:Addr)(x:Str):Addr×Str:=(ae,x)
noncomputable def fu (ae:Addr)(x:Str)(f:Addr):Addr×Str×Addr:=(ae,x,f)
def ir:List lM:=[fr 35 (ec 2 0) ["self","symbol","data"] [] [], fr 109 (ec 9 0) ["self","number","advances"] [] [], fr 149 (ec 10 0) ["self"] [] [], fr 156 (ec 10 1) ["self"] [] [], fr 163 (ec 10 2) ["self","marker","position"] [] [], fr 184 (ec 10 5) ["self","start","end","is_before"] [] ["marker","number"], fr 191 (ec 10 6) ["self","start","end"] [] ["marker","number"], fr 198 (ec 10 7) ["self","start","end","many"] [] ["marker","number"], fr 212 (bW 12) ["marker","buffer","place"] [] [], fr 226 (ec 15 0) ["self","most"] [] [], fr 240 (bW 16) ["buffer","place"] [] [], fr 247 (bW 17) ["buffer"] [] [], fr 254 (bW 18) ["ring","buffer","place"] [] ["marker"], fr 261 (bW 19) ["ring","buffer","place"] [] ["marker"], fr 289 (bW 22) ["raw"] [] [], fr 296 (bW 23) ["raw"] [] [], fr 303 (bW 24) ["raw"] [] [], fr 310 (bW 27) ["buffer"] [] [], fr 317 (bW 28) ["buffer","growth"] [] [], fr 324 (bW 29) ["buffer","start","end"] [] ["high","low"], fr 331 (bW 30) ["buffer","start","end"] [] ["listener"], fr 338 (bW 31) ["buffer","start","end","old_length"] [] ["listener"], fr 345 (bW 32) ["buffer","start","end"] [] ["gone"], fr 352 (bW 33) ["buffer","place","codes"] [] [], fr 359 (bW 34) ["buffer","start","end"] [] [], fr 366 (bW 35) ["buffer","place","many","before_markers"] [] [], fr 373 (bW 36) ["buffer","place","codes","before_markers","is_point_behind"] [] [], fr 381 (bW 38) ["buffer","place","codes","before_markers"] [.bool false] [], fr 389 (bW 39) ["buffer","codes","before_markers"] [.bool false] [], fr 396 (bW 40) ["buffer","start","end"] [] ["gone","high","low"], fr 404 (bW 41) ["buffer","start","end","codes","rows"] [.none] ["gone","high","low","point"], fr 411 (bW 46) ["view","place"] [] ["at"], fr 418 (bW 47) ["view","place"] [] ["at"], fr 425 (bW 50) ["code","column","width"] [] [], fr 432 (bW 52) ["number"] [] ["found","limb","low","rest"], fr 439 (bW 56) ["column","code","tab"] [] [], fr 446 (bW 57) ["row","place","tab"] [] ["code","column"], fr 453 (bW 58) ["row","tab"] [] [], fr 460 (bW 59) ["row","column","tab"] [] ["now","place"], fr 467 (bW 60) ["row","column","tab"] [] ["begin","end","place"], fr 474 (bW 61) ["row","column","tab"] [] [], fr 481 (bW 62) ["row","column","tab"] [] ["place","whole"], fr 488 (bW 63) ["row","first","last","tab"] [] ["ahead","front","inside","rest"], fr 495 (bW 64) ["codes","column","tab"] [] ["after","code","found","now"], fr 502 (bW 65) ["row","first","last","tab"] [] ["ahead","code","end","inside","rest","start"], fr 509 (bW 66) ["row","first","last","tab"] [] ["ahead","inside","rest"], fr 516 (bW 67) ["row","first","last","tab"] [] ["ahead","inside","rest"], fr 523 (bW 68) ["row","first","last","tab"] [] ["ahead","rest"], fr 530 (bW 69) ["row","first","last","codes","tab"] [] ["ahead","inside","rest"], fr 537 (bW 70) ["row","column","codes","tab"] [] ["ahead","rest"], fr 544 (bW 72) ["row","column","tab"] [] ["ahead","at","rest"], fr 549 (bW 73) ["rows","first","begin","tab"] [] ["found","place","text","wide"], fr 563 (ec 76 0) ["self","low","high","rows","first","last"] [] [], fr 577 (bW 77) ["codes"] [] ["code","rows"], fr 584 (bW 78) ["rows"] [] ["codes","place"], fr 591 (bW 79) ["buffer","place","tab"] [] ["begin"], fr 598 (bW 80) ["buffer","start","end","tab"] [] ["columns","high","low","one","other"], fr 605 (bW 81) ["one","other","most"] [] ["many"], fr 612 (bW 82) ["buffer","begin","old","new","ahead","behind"] [] ["first","last"], fr 619 (bW 83) ["buffer","span","rows","column","tab"] [] ["ahead","at","begin","old","place"], fr 624 (bW 84) ["buffer","start","end","tab"] [] ["span"], fr 629 (bW 85) ["buffer","start","end","tab"] [] ["span"], fr 636 (bW 86) ["buffer","start","end","tab"] [] ["found"], fr 641 (bW 87) ["buffer","start","end","tab"] [] ["span"], fr 646 (bW 88) ["buffer","start","end","tab"] [] ["span"], fr 651 (bW 89) ["buffer","start","end","tab"] [] ["span"], fr 656 (bW 90) ["buffer","start","end","codes","tab"] [] ["behind","rows","span"], fr 663 (bW 91) ["buffer","start","end","begin","tab"] [] ["span"], fr 668 (bW 92) ["buffer","rows","tab"] [] ["ahead","column","found","high","low","many","own","place","turn"], fr 675 (bW 93) ["found","column","rows","tab"] [] ["at","last","now","wide"], fr 682 (bW 94) ["codes","column","tab"] [] [], fr 701 (ec 98 0) ["self"] [] [], fr 715 (bW 99) ["registers","sign"] [] [], fr 722 (bW 100) ["registers","sign","content"] [] [], fr 727 (bW 101) ["registers","sign","rows"] [] [], fr 744 (bW 105) ["text"] [] [], fr 751 (bW 108) ["editor"] [] ["number"], fr 758 (bW 111) ["event"] [] [], fr 765 (bW 112) ["editor","values"] [] ["buffer","content","end","place"], fr 772 (bW 113) ["editor","values"] [] ["deed","rows","sign"], fr 779 (bW 114) ["editor","values"] [] [], fr 786 (bW 115) ["editor","values"] [] [], fr 793 (bW 116) ["editor","values"] [] [], fr 800 (bW 117) ["editor","values"] [] ["buffer"], fr 807 (bW 118) ["editor","values"] [] [], fr 814 (bW 119) ["editor","values"] [] [], fr 821 (bW 120) ["editor","values"] [] [], fr 828 (bW 121) ["editor","values"] [] [], fr 835 (bW 122) ["editor","values"] [] ["begin"], fr 849 (ec 124 0) ["self","codes","room"] [] [], fr 856 (ec 124 1) ["self"] [] [], fr 863 (ec 124 2) ["self","at"] [] [], fr 870 (ec 124 3) ["self","start","end"] [] ["shift"], fr 877 (ec 124 4) ["self","at"] [] ["moved"], fr 884 (ec 124 5) ["self","wanted"] [] ["lack"], fr 891 (ec 124 6) ["self","at","codes"] [] [], fr 898 (ec 124 7) ["self","start","end"] [] ["gone"], fr 941 (ec 126 0) ["self","number","name","room"] [.int 8] [], fr 962 (ec 126 3) ["self"] [] [], fr 969 (ec 126 4) ["self"] [] [], fr 976 (ec 126 5) ["self"] [] [], fr 983 (ec 126 6) ["self","place"] [] [], fr 990 (ec 126 7) ["self","start","end"] [] [], fr 997 (ec 126 8) ["self","place"] [] [], fr 1025 (ec 126 12) ["self","are_codes"] [] [], fr 1044 (ec 128 0) ["self"] [] [], fr 1051 (ec 128 1) ["self","number"] [] [], fr 1058 (ec 128 2) ["self","name"] [] ["number"], fr 1065 (ec 128 3) ["self","name"] [] ["buffer"], fr 1087 (ec 128 6) ["self","buffer"] [] [], fr 1094 (ec 128 7) ["self","buffer"] [] [], fr 1150 (ec 130 0) ["self"] [] [], fr 1171 (ec 132 0) ["self","buffers","commands","global_map"] [] [], fr 1178 (ec 132 1) ["self"] [] [], fr 1122 (ec 128 11) ["self","advances"] [] [], fr 1330 (bW 134) ["script"] [] ["known"], fr 1337 (bW 135) ["deck","many"] [] ["left","mixed"], fr 1344 (bW 136) ["own","low","high","new"] [] ["nth","spot"], fr 1349 (bW 137) ["own","one","other"] [] ["both","high","low"], fr 1356 (bW 138) ["own","low","olds","news","first","column"] [] ["ahead","at","behind","had","new","old","same"], fr 1363 (bW 139) ["way","row","first","last","shown"] [] [], fr 1368 (bW 140) ["own","one","other"] [] ["first","last","low","rows"], fr 1373 (bW 141) ["own","way","one","other","shown","count"] [] ["column","first","last","low","news","rows","texts","wide"], fr 1378 (bW 142) ["own","rows"] [] ["column","further","high","low","news","olds","same"], fr 1383 (bW 143) ["editor","markers","own"] [] ["codes","due","found","sign","spots"], fr 1397 (bW 145) ["editor","own","deck","way","one","other"] [] ["count","region","shown"], fr 1409 (bW 147) ["text","spots"] [] ["buffers","editor","here","marker","markers","spot"]]
def iu:List lM:=[fr 739 (bW 103) ["registers","sign","buffer","is_ahead"] [] ["content","place"], fr 765 (bW 112) ["editor","values"] [] ["buffer","content","end","place"], fr 1390 (bW 144) ["editor","own","sign","raw"] [] ["behind","error","had"], fr 1404 (bW 146) ["editor","own","deck"] [] ["many","one","other","raw","sign","way","word"], fr 1414 (bW 148) ["script"] [] ["deck","editor","markers","nth","own","rows","text","turn"]]
def yN:List (Str×V):=[bE "Amalgam"<|.ref 1153,bE "BLANK"<|.int 32,bE "Buffer"<|.ref 1028,bE "BufferTable"<|.ref 1132,bE "DELETE"<|.int 127,bE "Editor"<|.ref 1321,bE "GapText"<|.ref 922,bE "LONGEST"<|.int 4194304,bE "MOST_MARKS"<|.int 16,bE "MOST_SIGNS"<|.int 4194304,bE "Many"<|.ref 278,bE "MarkRing"<|.ref 229,bE "Marker"<|.ref 133,bE "Markers"<|.ref 201,bE "NEWLINE"<|.int 10,bE "OWN_NUMBER"<|.int 0,bE "ROW_END"<|.int 10,bE "Registers"<|.ref 704,bE "SPACE"<|.int 32,bE "Span"<|.ref 566,bE "TAB_lines"<|.int 9,bE "TAB_rectcols"<|.int 9,bE "_law_change"<|.ref 1344,bE "_law_done"<|.ref 1373,bE "_law_draw"<|.ref 1337,bE "_law_put_rows"<|.ref 1356,bE "_law_row"<|.ref 1363,bE "_law_span"<|.ref 1349,bE "behind_last"<|.ref 675,bE "clear_rectangle"<|.ref 641,bE "cleared"<|.ref 516,bE "close_rectangle"<|.ref 651,bE "closed_up"<|.ref 544,bE "column_at"<|.ref 446,bE "column_behind"<|.ref 439,bE "column_of"<|.ref 591,bE "common_many"<|.ref 605,bE "cut_at"<|.ref 481,bE "cut_between"<|.ref 488,bE "delete"<|.ref 396,bE "delete_rectangle"<|.ref 629,bE "do_clear_rectangle"<|.ref 814,bE "do_close_rectangle"<|.ref 821,bE "do_delete_rectangle"<|.ref 793,bE "do_number_rectangle"<|.ref 835,bE "do_open_rectangle"<|.ref 807,bE "do_string_rectangle"<|.ref 828,bE "erased"<|.ref 509,bE "extract_rectangle"<|.ref 624,bE "extracted"<|.ref 502,bE "figures_of"<|.ref 432,bE "has_mark"<|.ref 247,bE "held"<|.ref 715,bE "hung_in"<|.ref 366,bE "hung_out"<|.ref 359,bE "insert"<|.ref 389,bE "insert_at"<|.ref 381,bE "insert_register"<|.ref 739,bE "is_many"<|.ref 289,bE "is_minus"<|.ref 296,bE "kill_rectangle"<|.ref 636,bE "line_end"<|.ref 418,bE "line_start"<|.ref 411,bE "marks_of"<|.ref 751,bE "need_room"<|.ref 317,bE "need_writable"<|.ref 310,bE "number_rectangle"<|.ref 663,bE "numbered"<|.ref 549,bE "numeric"<|.ref 303,bE "open_rectangle"<|.ref 646,bE "opened"<|.ref 467,bE "opened_up"<|.ref 523,bE "padded"<|.ref 474,bE "place_at"<|.ref 460,bE "push_mark"<|.ref 261,bE "put"<|.ref 722,bE "put_in_editing"<|.ref 373,bE "put_in_rectcols"<|.ref 537,bE "put_row"<|.ref 612,bE "put_rows"<|.ref 619,bE "reached"<|.ref 324,bE "rectangle_to_register"<|.ref 727,bE "replace"<|.ref 404,bE "replaced"<|.ref 530,bE "ring_marker"<|.ref 254,bE "row_columns"<|.ref 453,bE "row_columns_from"<|.ref 682,bE "rows_in"<|.ref 577,bE "set_mark"<|.ref 240,bE "set_marker"<|.ref 212,bE "sign_of"<|.ref 758,bE "span_of"<|.ref 598,bE "spread"<|.ref 495,bE "string_rectangle"<|.ref 656,bE "tell_ahead"<|.ref 331,bE "tell_behind"<|.ref 338,bE "text_codes"<|.ref 744,bE "text_in"<|.ref 352,bE "text_of"<|.ref 584,bE "text_out"<|.ref 345,bE "width_at"<|.ref 425,bE "yank_rectangle"<|.ref 668]
noncomputable def x6:List Str:=["abs","enumerate","int","isinstance","len","list","max","min","ord","range","sorted","str","sum","zip"]
def yM:List (Str×V):=[bE "LispSignal"<|.ref 38,bE "_law_commanded"<|.ref 1404,bE "_law_deck"<|.ref 1330,bE "_law_done"<|.ref 1373,bE "_law_draw"<|.ref 1337,bE "_law_inserted"<|.ref 1390,bE "_law_is_same"<|.ref 1383,bE "_law_made"<|.ref 1409,bE "_law_put_in"<|.ref 1378,bE "_law_taken"<|.ref 1368,bE "_law_turned"<|.ref 1397,bE "do_copy_rectangle"<|.ref 786,bE "do_copy_rectangle_to_register"<|.ref 772,bE "do_insert_register"<|.ref 765,bE "do_kill_rectangle"<|.ref 779,bE "do_open_rectangle"<|.ref 807,bE "do_yank_rectangle"<|.ref 800,bE "held"<|.ref 715,bE "insert"<|.ref 389,bE "insert_register"<|.ref 739,bE "marks_of"<|.ref 751,bE "push_mark"<|.ref 261,bE "sign_of"<|.ref 758,bE "yank_rectangle"<|.ref 668]
noncomputable def x7:List Str:=["len","range"]
def tn:List (Addr×Str×Addr):=[fu 201 "numbers" 156,fu 201 "put" 163,fu 201 "inserted" 184,fu 201 "deleted" 191,fu 201 "replaced" 198,fu 922 "size" 856,fu 922 "code" 863,fu 922 "codes" 870,fu 922 "move_gap" 877,fu 922 "widen_gap" 884,fu 922 "insert" 891,fu 922 "delete" 898,fu 1028 "begin" 962,fu 1028 "end" 969,fu 1028 "size" 976,fu 1028 "code_at" 983,fu 1028 "codes" 990,fu 1028 "goto" 997,fu 1028 "touch" 1025,fu 1132 "by_number" 1051,fu 1132 "by_name" 1058,fu 1132 "create" 1065,fu 1132 "select" 1087,fu 1132 "set_current" 1094,fu 1321 "current" 1178,fu 1132 "new_marker" 1122]
noncomputable def v1:List (Addr×Addr):=[(1153,1150),(1028,941),(1132,1044),(1321,1171),(922,849),(229,226),(133,109),(201,149),(704,701),(566,563)]
def u2:List (Addr×Str):=[b9 1153 "sort",b9 1153 "many",b9 1028 "number",b9 1028 "name",b9 1028 "text",b9 1028 "markers",b9 1028 "point",b9 1028 "begv",b9 1028 "zv",b9 1028 "mark",b9 1028 "is_live",b9 1028 "is_read_only",b9 1028 "ticks",b9 1028 "codes_ticks",b9 1028 "saved_ticks",b9 1028 "listeners",b9 1028 "undo",b9 1028 "props",b9 1028 "overlays",b9 1028 "locals",b9 1028 "syntax",b9 1028 "file",b9 1132 "rows",b9 1132 "order",b9 1132 "current",b9 1132 "last_number",b9 1132 "last_marker",b9 1132 "listeners",b9 1321 "buffers",b9 1321 "commands",b9 1321 "global_map",b9 1321 "local_maps",b9 1321 "minor_maps",b9 1321 "question_map",b9 1321 "questions",b9 1321 "asker",b9 1321 "kills",b9 1321 "registers",b9 1321 "abbrevs",b9 1321 "windows",b9 1321 "files",b9 1321 "machine",b9 1321 "rules",b9 1321 "further",b9 1321 "matches",b9 1321 "loop",b9 1321 "goals",b9 1321 "undoing",b9 1321 "marks",b9 1321 "amalgam",b9 1321 "message",b9 1321 "is_echo_old",b9 1321 "is_shifting",b9 1321 "signal_text",b9 1321 "panes",b9 1321 "modes",b9 1321 "fill_column",b9 1321 "tab_width",b9 1321 "rectangle",b9 1321 "last_expansion",b9 1321 "replacing",b9 922 "room",b9 922 "cells",b9 922 "gap_start",b9 922 "gap_end",b9 278 "number",b9 229 "most",b9 229 "markers",b9 229 "last",b9 133 "number",b9 133 "advances",b9 133 "buffer",b9 133 "position",b9 201 "rows",b9 704 "contents",b9 566 "low",b9 566 "high",b9 566 "rows",b9 566 "first",b9 566 "last"]
def kH (K:Frag)(a:Nat):Option Obj:=List.rec (motive:=λ_=>Option Obj) By (λp _ D=>Bool.rec (motive:=λ_=>Option Obj) D (kZ p.2)<|gg a p.1) K
def v2 (a b:List Nat):Bool:=List.rec (motive:=λ_=>List Nat->Bool) (λb=>match b with|[]=>true|_::_=>false) (λx _ D b=>match b with|[]=>false|y::b=>Bool.rec (motive:=λ_=>Bool) false (D b)<|gg x y) a b
def y8 (v:a3)(l:List Nat):Bool:=match v with
 |.str s _=>v2 s.cps.toList l
 |_=>false
def findF (ah:List lE)(l:List Nat):Option lE:=List.rec (motive:=λ_=>Option lE) By (λe _ D=>Bool.rec (motive:=λ_=>Option lE) D (kZ e)<|y8 e.key l) ah
def mf (K:Frag)(ns:Addr)(x:Str):Option (Option a3):=match kH K ns with
 |some ⟨_,_,.dict ah _,_⟩=>(match findF ah.toList x.cps.toList with
  |some e=>kZ<|kZ e.val
  |none=>if ah.toList.any (·.refKey) then By else kZ By)
 |_=>By
def codeB (K:Frag)(A:a3)(X:Str):Bool:=match A with
 |.ref c=>(match kH K c with
  |some ⟨_,_,.fields ag,_⟩=>(match ag.toList with|_::.str n _::_=>n==X|_=>false)
  |_=>false)
 |_=>false
abbrev mG:=List Stmt×ck×List (Str×Addr)×Addr×Addr×Bool×Option (List Str)×Option Nat
noncomputable def pM (b:List Stmt)(sc:ck)(ns:List Str)(k:Nat):Option mG:=kZ (b,sc,[],iO,oi,true,kZ ns,kZ k)
def b4 (z:aR)(o:Option Obj)(p:Obj->aR):aR:=Option.rec z (λo=>p o) o
noncomputable def sV (z:aR)(d:Data)(p:FuncData->aR):aR:=Data.casesOn (motive:=λ_=>aR) d z (λ_=>z) (λ_ _=>z) (λ_ _=>z) (λ_ _ _=>z) (λ_ _=>z) (λ_=>z) (λc=>p c) (λ_=>z) (λ_=>z) z
noncomputable def yg (d:Data)(p:ClassData->Bool):Bool:=Data.casesOn (motive:=λ_=>Bool) d false (λ_=>false) (λ_ _=>false) (λ_ _=>false) (λ_ _ _=>false) (λ_ _=>false) (λ_=>false) (λ_=>false) (λc=>p c) (λ_=>false) false
noncomputable def M5 (b:FuncBody)(p:List Stmt->Option mG):Option mG:=FuncBody.casesOn (motive:=λ_=>Option mG) b (λb=>p b) λ_=>By
noncomputable def wg (p:Arguments):Option (List Str):=bif p.posonlyargs.isEmpty&&p.vararg.isNone&&p.kwonlyargs.isEmpty&&p.kw_defaults.isEmpty&&p.kwarg.isNone then kZ (p.args.map (·.arg)) else By
def nH (K:Frag)(d:a3):Option (List a3):=bif d==.none then kZ [] else Value.casesOn (motive:=λ_=>Option<|List a3) d By By By (λ_=>By) (λ_ _=>By) (λ_ _=>By) (λ_ _=>By) (λ_ _=>By) (λ_=>By) (λ_=>By) λT=>b4 By (kH K T) λo=>Data.casesOn (motive:=λ_=>Option<|List a3) o.data By (λ_=>By) (λl _=>kZ l.toList) (λ_ _=>By) (λ_ _ _=>By) (λ_ _=>By) (λ_=>By) (λ_=>By) (λ_=>By) (λ_=>By) By
def pN (K:Frag)(f:Addr):Option mG:=b4 By (kH K f) λo=>sV By o.data λj=>M5 j.body λb=>kZ (b,j.scope,j.closure,j.globals,j.builtins,codeB K j.code j.qualname,wg j.params,(nH K j.defaults).map (·.length))
noncomputable def Kz (v:a3)(p:Int->Bool):Bool:=Value.casesOn (motive:=λ_=>Bool) v false false false (λ_=>false) (λi _=>p i) (λ_ _=>false) (λ_ _=>false) (λ_ _=>false) (λ_=>false) (λ_=>false) λ_=>false
noncomputable def KA (v:a3)(p:Str->Bool):Bool:=Value.casesOn (motive:=λ_=>Bool) v false false false (λ_=>false) (λ_ _=>false) (λ_ _=>false) (λs _=>p s) (λ_ _=>false) (λ_=>false) (λ_=>false) λ_=>false
def yZ (u:V)(v:a3):Bool:=match u with
 |.none=>v==.none
 |.bool b=>v==.bool b
 |.int i=>Kz v (i== ·)
 |.str x=>KA v (x== ·)
 |.ref a=>v==.ref a
 |_=>false
def vH (aa:List V):List a3->Bool:=List.rec (λag=>ag.isEmpty) (λu _ r ag=>List.rec false (λv l _=>yZ u v&&r l) ag) aa
def u3 (K:Frag)(f:Addr)(aa:List V):Bool:=b4 false (kH K f) λo=>sV false o.data λj=>Option.rec false (λag=>vH aa ag)<|nH K j.defaults
def vl (K:Frag)(x:Str)(u:V):Bool:=match mf K iO x with
 |some (kZ v)=>yZ u v
 |_=>false
def zM (K:Frag)(x:Str):Bool:=match mf K iO x with
 |some By=>true
 |_=>false
noncomputable def wj (o:Option (Option a3))(f:Addr):Bool:=o==kZ (kZ<|.ref f)
def vI (K:Frag)(f:Addr):Bool:=b4 false (kH K f) λo=>sV false o.data λ_=>o.cls==.type "function"
def zz (K:Frag)(ae:Addr)(x:Str)(f:Addr):Bool:=wj (findIn K (.ref ae) x) f&&vI K f&&plainGet K ae x
def zw (K:Frag)(ae f:Addr):Bool:=makesIn K ae&&wj (findIn K (.ref ae) "__init__") f&&vI K f&&mz K (.ref ae)
def zX (K:Frag)(N:Addr):Bool:=match kH K N with
 |some ⟨_,_,.dict ah _,_⟩=>ah.all λe=>match e.key with|.str _ _=>true|_=>false
 |_=>false
noncomputable def p7 (o:Option (Option a3)):Bool:=o==kZ By
def GQ (K:Frag)(ae N f:Addr):Bool:=b4 false (kH K ae) (λo=>o.cls==.type "type"&&yg o.data λA=>A.mro==[.ref ae,.type "Exception",.type "BaseException",.type "object"]&&o.slots.toList.length==6&&o.slots.toList[4]?==kZ (kZ<|.builtin "Exception.__new__")&& !A.hasDel&&A.hasDict&&gg A.ns N)&& zX K N&&wj (mf K N "__init__") f&&p7 (mf K N "__setattr__")&&p7 (mf K N "__getattribute__")&&p7 (mf K N "__getattr__")&&p7 (mf K N "symbol")&&p7 (mf K N "data")&&vI K f&&mz K (.ref ae)
noncomputable def sT:List Addr:=[0,1,2,3,37,38,90,91,132,133,200,201,228,229,277,278,565,566,703,704,921,922,1027,1028,1131,1132,1152,1153,1320,1321,4,6,20,21,34,35,36,39,47,48,52,53,59,60,73,74,80,81,87,88,89,92,93,108,109,115,116,122,123,129,130,131,148,149,155,156,162,163,169,170,176,177,183,184,190,191,197,198,199,202,203,211,212,225,226,227,230,231,239,240,246,247,253,254,260,261,274,275,276,279,280,288,289,295,296,302,303,309,310,316,317,323,324,330,331,337,338,344,345,351,352,358,359,365,366,372,373,374,380,381,382,388,389,395,396,397,403,404,410,411,417,418,424,425,431,432,438,439,445,446,452,453,459,460,466,467,473,474,480,481,487,488,494,495,501,502,508,509,515,516,522,523,529,530,536,537,543,544,548,549,562,563,564,567,568,576,577,583,584,590,591,597,598,604,605,611,612,618,619,623,624,628,629,635,636,640,641,645,646,650,651,655,656,662,663,667,668,674,675,681,682,686,687,700,701,702,705,706,714,715,721,722,726,727,731,732,738,739,743,744,750,751,757,758,764,765,771,772,778,779,785,786,792,793,799,800,806,807,813,814,820,821,827,828,834,835,848,849,855,856,862,863,869,870,876,877,883,884,890,891,897,898,904,905,911,912,918,919,920,923,924,934,940,941,947,948,954,955,961,962,968,969,975,976,982,983,989,990,996,997,1003,1004,1010,1011,1017,1018,1024,1025,1026,1043,1044,1050,1051,1057,1058,1064,1065,1066,1072,1073,1079,1080,1086,1087,1093,1094,1100,1101,1107,1108,1114,1115,1121,1122,1128,1129,1130,1133,1134,1149,1150,1151,1154,1155,1170,1171,1177,1178,1184,1185,1191,1192,1198,1199,1205,1206,1212,1213,1219,1220,1226,1227,1233,1234,1240,1241,1247,1248,1254,1255,1261,1262,1268,1269,1275,1276,1282,1283,1289,1290,1296,1297,1303,1304,1310,1311,1317,1318,1319,1322,1323,1329,1330,1336,1337,1343,1344,1348,1349,1355,1356,1362,1363,1367,1368,1372,1373,1377,1378,1382,1383,1389,1390,1396,1397,1403,1404,1408,1409,1413,1414]
def va:List Addr:=(ir++iu).map (·.a)
def vb:List (Option mG):=(ir++iu).map λr=>pM r.b r.s r.dQ r.gq.length
def sL (K:Frag):List Bool:=[(ir++iu).all λr=>u3 K r.a r.gq,(yN++yM).all λp=>vl K p.1 p.2,(x6++x7).all<|zM K,tn.all λp=>zz K p.1 p.2.1 p.2.2,v1.all λp=>zw K p.1 p.2,u2.all λp=>fS K p.1 p.2, zN K 278,vl K "law"<|.ref 1414,GQ K 38 37 35,(K.lookup sysModules).isSome]
noncomputable def pH:Nat:=10
abbrev AI:=@PySem.W.Fast.tw10156331382660048174
abbrev yv:=@PySem.W.Fast.tw11892475500146522536
abbrev AO:=@PySem.W.Fast.tw14364793385576792824
abbrev z5:=@PySem.W.Fast.tw6613529449190102663
def JI (st:Option (hD×Thread))(D:hD->Thread->Option hD)(s:hD)(a b:Bool):Option hD:= Bool.rec (motive:=λ_=>Option hD) (Bool.rec (motive:=λ_=>Option hD) By (Option.rec (motive:=λ_=>Option hD) By (λp=>Prod.rec (motive:=λ_=>Option hD) (λs t=>D s t) p) st) b) (kZ s) a
def tH (st:hD->Thread->Option (hD×Thread))(ok:Thread->Bool)(n:Nat):hD->Thread->Option hD:= Nat.rec (motive:=λ_=>hD->Thread->Option hD) (λ_ _=>By) (λ_ D s t=>JI (st s t) D s (through t)<|ok t) n
noncomputable def Kp:List Obj->Nat->BT->BT
 |[],_,t=>t
 |o::r,n,t=>Kp r (n+1)<|t.ins n o
def T0 (P:Params):BT:=Kp (nq P).objs.toList 0 .nil
def Dn (w:World)(os:OsState):hD:=⟨T0 w.params,11,(nq w.params).life,#[],boot_drawn,boot_toks,os⟩
def rG:Program:={gw with main:={gw.main with body:=gw.main.body.drop 148}}
def rl:List Str:=gw.boundNames.filter λn=>n !=("law":Str)
def Mw:List (Option mG)×List Bool:=(vb,dr pH true)
noncomputable def yL (s:hD)(a:Addr):Option Obj:=match wO a s.n with
 |true=>match s.tree.get a with
  |some o=>alive o
  |none=>By
 |false=>By
def vg (as:List Addr)(s:hD):Frag:=as.filterMap λa=>(yL s a).map λo=>(a,o)
def Mv (s:hD):List (Option mG)×List Bool:=(va.map<|pN<|vg sT s,sL<|vg sT s)
theorem YI (w:World)(os:OsState):(tH (AI (yv AO) gw w) (z5 11<|kZ<|.ref 6) 20000 (Dn w os)<|topStub gw).map (λs=> ((staticsOk (importedModules gw.main.body) (nq w.params) s.abs.heap&&namesBound gw s.abs.heap&&gensDone s.abs&&laidKept (nq w.params) s.abs.heap), openSeen rG rl (importedModules gw.main.body) (λ_=>true) true s.abs,Mv s))=kZ (true,openGood rG rl,Mw):=by ext
abbrev lw:OpenLaw:=PySem.Challenge.rw_sq0012_01
theorem ab5:lw.wellSaid=true:=by unfold OpenLaw.wellSaid;rw[PySem.W.Fast.te17119622794617984870,PySem.W.Fast.te8326940854005059898,PySem.W.Fast.te8179353310426384613,PySem.W.Fast.te17960256430627541270,PySem.W.Fast.te16286561074155671207,PySem.W.Fast.te9558739934217749035];refine look_both (look_both (look_both (look_both (look_both (look_both (look_both (look_both (look_both (look_both (look_both (look_both (look_both (look_both (look_both (look_both (look_both (look_both ?_ ?_) ?_) ?_) ?_) ?_) ?_) ?_) ?_) ?_) ?_) ?_) ?_) ?_) ?_) ?_) ?_) ?_) ?_;all_goals decide+kernel
set_option tactic.hygienic true
@[elab_as_elim] theorem J {c:Sort _}{a b:c}{motive:c->Prop}(e:a=b)(C:motive b):motive a:=e▸C
@[elab_as_elim] theorem a6 {c:Sort _}{i g:c}{motive:c->Prop}(e:g=i)(C:motive g):motive i:=e▸C
variable{G B:Prop}
@[elab_as_elim] theorem m5 {motive:Prop->Prop}(e:G<->B)(C:motive B):motive G:=(propext e)▸C
variable{I:Type _}
theorem bY {i:I}(C:By=kZ i):G:=by cases C
theorem g4 {i:I}(C:kZ i=By):G:=by cases C
theorem lf (C:false=true):G:=by cases C
theorem Kf (C:true=false):G:=by cases C
theorem iE {p:I->Prop}:∀v,v∈([]:List I)->p v:=λ_ C=>absurd C wP
theorem fw {c:Sort _}{P:c->Prop}{i:c}(C:let r:=i;P r):P i:=C
theorem hr {c a:Sort _}{P:c->a->Prop}{i:c}{g:a}(C:let r:=i;P r g):P i g:=C
theorem bJ {c a b:Sort _}{P:c->a->b->Prop}{i:c}{g:a}{bu:b}(C:let r:=i;P r g bu):P i g bu:=C
local macro_rules |`(tactic|intros $x:ident)=>`(tactic|(refine bJ ?_;intro $x:term))
theorem jA {c a b e:Sort _}{P:c->a->b->e->Prop}{i:c}{g:a}{bu:b}{d:e}(C:let r:=i;P r g bu d):P i g bu d:=C
theorem zj {c a b e f:Sort _}{P:c->a->b->e->f->Prop}{i:c}{g:a}{bu:b}{d:e}{eq:f}(C:let r:=i;P r g bu d eq):P i g bu d eq:=C
theorem bP (C:∀G:Prop,(B->G)->G):B:=C B id
theorem pd {a b:Sort _}{p:a->b->Prop}(x:a)(y:b)(h0:p x y):∃x,∃y,p x y:=⟨x,y,h0⟩
theorem qq {a b c:Sort _}{p:a->b->c->Prop}(x:a)(y:b)(z:c)(h0:p x y z):∃x,∃y,∃z,p x y z:=⟨x,y,z,h0⟩
theorem AX {a:Sort _}{h:a->Prop}(h0:G)(x:a)(ai:h x):G/\∃x,h x:=⟨h0,x,ai⟩
theorem bb {a:Sort _}{p h:a->Prop}(x:a)(h0:p x)(ai:h x):∃x,p x/\h x:=⟨x,h0,ai⟩
theorem c7 {a:Sort _}{p h r:a->Prop}(x:a)(h0:p x)(ai:h x)(ao:r x):∃x,p x/\h x/\r x:=⟨x,h0,ai,ao⟩
theorem e5 {a b:Sort _}{p h:a->b->Prop}(x:a)(y:b)(h0:p x y)(ai:h x y):∃x,∃y,p x y/\h x y:=⟨x,y,h0,ai⟩
theorem kR {a:Sort _}{p h r d:a->Prop}(x:a)(h0:p x)(ai:h x)(ao:r x)(a7:d x):∃x,p x/\h x/\r x/\d x:=⟨x,h0,ai,ao,a7⟩
theorem dM {a b:Sort _}{p h r:a->b->Prop}(x:a)(y:b)(h0:p x y)(ai:h x y)(ao:r x y):∃x,∃y,p x y/\h x y/\r x y:=⟨x,y,h0,ai,ao⟩
theorem i9 {a b c:Sort _}{p h:a->b->c->Prop}(x:a)(y:b)(z:c)(h0:p x y z)(ai:h x y z):∃x,∃y,∃z,p x y z/\h x y z:=⟨x,y,z,h0,ai⟩
theorem gA {a b:Sort _}{p h r d:a->b->Prop}(x:a)(y:b)(h0:p x y)(ai:h x y)(ao:r x y)(a7:d x y):∃x,∃y,p x y/\h x y/\r x y/\d x y:=⟨x,y,h0,ai,ao,a7⟩
theorem g6 {a b c:Sort _}{p h r:a->b->c->Prop}(x:a)(y:b)(z:c)(h0:p x y z)(ai:h x y z)(ao:r x y z):∃x,∃y,∃z,p x y z/\h x y z/\r x y z:=⟨x,y,z,h0,ai,ao⟩
theorem AY {a b:Sort _}{p h r d aa:a->b->Prop}(x:a)(y:b)(h0:p x y)(ai:h x y)(ao:r x y)(a7:d x y)(bR:aa x y):∃x,∃y,p x y/\h x y/\r x y/\d x y/\aa x y:=⟨x,y,h0,ai,ao,a7,bR⟩
theorem qr {a b c:Sort _}{p h r d aa:a->b->c->Prop}(x:a)(y:b)(z:c)(h0:p x y z)(ai:h x y z)(ao:r x y z)(a7:d x y z)(bR:aa x y z):∃x,∃y,∃z,p x y z/\h x y z/\r x y z/\d x y z/\aa x y z:=⟨x,y,z,h0,ai,ao,a7,bR⟩
theorem AZ {a b c:Sort _}{p h r d aa i g:a->b->c->Prop}(x:a)(y:b)(z:c)(h0:p x y z)(ai:h x y z)(ao:r x y z)(a7:d x y z)(bR:aa x y z)(dy:i x y z)(eS:g x y z):∃x,∃y,∃z,p x y z/\h x y z/\r x y z/\d x y z/\aa x y z/\i x y z/\g x y z:=⟨x,y,z,h0,ai,ao,a7,bR,dy,eS⟩
theorem jF {a b:Sort _}{p h:a->Prop}{r:a->b->Prop}(x:a)(h0:p x)(ai:h x)(y:b)(ao:r x y):∃x,p x/\h x/\∃y,r x y:=⟨x,h0,ai,y,ao⟩
theorem KB {a b c:Sort _}{h r:a->b->c->Prop}(h0:G)(x:a)(y:b)(z:c)(ai:h x y z)(ao:r x y z):G/\∃x,∃y,∃z,h x y z/\r x y z:=⟨h0,x,y,z,ai,ao⟩
variable{X:Prop}
theorem dp (C:B/\X)(k:B->X->G):G:=k C.1 C.2
theorem cO {a:Sort _}{p:a->Prop}(C:∃x,p x)(k:∀x,p x->G):G:=fN C k
variable{al:Prop}
theorem hO (C:B/\X/\al)(k:B->X->al->G):G:=dp C λa C=>dp C<|k a
theorem fz {a b:Sort _}{p:a->b->Prop}(C:∃x,∃y,p x y)(k:∀x,∀y,p x y->G):G:=cO C λx C=>cO C<|k x
variable{Z:Prop}
theorem i7 (C:B/\X/\al/\Z)(k:B->X->al->Z->G):G:=dp C λa C=>hO C<|k a
theorem gT {a b c:Sort _}{p:a->b->c->Prop}(C:∃x,∃y,∃z,p x y z)(k:∀x,∀y,∀z,p x y z->G):G:=cO C λx C=>fz C<|k x
variable{aa:Prop}
theorem o2 (C:B/\X/\al/\Z/\aa)(k:B->X->al->Z->aa->G):G:=dp C λa C=>i7 C<|k a
theorem j8 {a b c e:Sort _}{p:a->b->c->e->Prop}(C:∃x,∃y,∃z,∃w,p x y z w)(k:∀x,∀y,∀z,∀w,p x y z w->G):G:=cO C λx C=>gT C<|k x
variable{I:Prop}
theorem rA (C:B/\X/\al/\Z/\aa/\I)(k:B->X->al->Z->aa->I->G):G:=dp C λI C=>o2 C<|k I
theorem g1 {a b c e d:Sort _}{p:a->b->c->e->d->Prop}(C:∃x,∃y,∃z,∃w,∃v,p x y z w v)(k:∀x,∀y,∀z,∀w,∀v,p x y z w v->G):G:=cO C λx C=>j8 C<|k x
variable{ab:Prop}
theorem z2 (C:B/\X/\al/\Z/\aa/\I/\ab)(k:B->X->al->Z->aa->I->ab->G):G:=dp C λI C=>rA C<|k I
theorem z3 {a b c e d f:Sort _}{p:a->b->c->e->d->f->Prop}(C:∃x,∃y,∃z,∃w,∃v,∃u,p x y z w v u)(k:∀x,∀y,∀z,∀w,∀v,∀u,p x y z w v u->G):G:=cO C λx C=>g1 C<|k x
variable{ae:Prop}
theorem wa (C:B/\X/\al/\Z/\aa/\I/\ab/\ae)(k:B->X->al->Z->aa->I->ab->ae->G):G:=dp C λI C=>z2 C<|k I
variable{af:Prop}
theorem WR (C:B/\X/\al/\Z/\aa/\I/\ab/\ae/\af)(k:B->X->al->Z->aa->I->ab->ae->af->G):G:=dp C λI C=>wa C<|k I
variable{ak:Prop}
theorem WS (C:B/\X/\al/\Z/\aa/\I/\ab/\ae/\af/\ak)(k:B->X->al->Z->aa->I->ab->ae->af->ak->G):G:=dp C λI C=>WR C<|k I
variable{am:Prop}
theorem WT (C:B/\X/\al/\Z/\aa/\I/\ab/\ae/\af/\ak/\am)(k:B->X->al->Z->aa->I->ab->ae->af->ak->am->G):G:=dp C λI C=>WS C<|k I
theorem WU {g:Prop}(C:B/\X/\al/\Z/\aa/\I/\ab/\ae/\af/\ak/\am/\g)(k:B->X->al->Z->aa->I->ab->ae->af->ak->am->g->G):G:=dp C λI C=>WT C<|k I
theorem bg {a:Sort _}{p h:a->Prop}(C:∃x,p x/\h x)(k:∀x,p x->h x->G):G:=cO C λf C=>dp C<|k f
theorem eK {a:Sort _}{p h r:a->Prop}(C:∃x,p x/\h x/\r x)(k:∀x,p x->h x->r x->G):G:=cO C λf C=>hO C<|k f
theorem dw {a b:Sort _}{p h:a->b->Prop}(C:∃x,∃y,p x y/\h x y)(k:∀x,∀y,p x y->h x y->G):G:=fz C λf dP C=>dp C<|k f dP
theorem nW {a:Sort _}{p h r d:a->Prop}(C:∃x,p x/\h x/\r x/\d x)(k:∀x,p x->h x->r x->d x->G):G:=cO C λf C=>i7 C<|k f
theorem gG {a b:Sort _}{p h r:a->b->Prop}(C:∃x,∃y,p x y/\h x y/\r x y)(k:∀x,∀y,p x y->h x y->r x y->G):G:=fz C λf dP C=>hO C<|k f dP
theorem fg {a b c:Sort _}{p h:a->b->c->Prop}(C:∃x,∃y,∃z,p x y z/\h x y z)(k:∀x,∀y,∀z,p x y z->h x y z->G):G:=gT C λf dP bt C=>dp C<|k f dP bt
theorem tx {a:Sort _}{p h r d aa:a->Prop}(C:∃x,p x/\h x/\r x/\d x/\aa x)(k:∀x,p x->h x->r x->d x->aa x->G):G:=cO C λf C=>o2 C<|k f
theorem cq {a b:Sort _}{p h r d:a->b->Prop}(C:∃x,∃y,p x y/\h x y/\r x y/\d x y)(k:∀x,∀y,p x y->h x y->r x y->d x y->G):G:=fz C λf dP C=>i7 C<|k f dP
theorem tz {a b c:Sort _}{p h r:a->b->c->Prop}(C:∃x,∃y,∃z,p x y z/\h x y z/\r x y z)(k:∀x,∀y,∀z,p x y z->h x y z->r x y z->G):G:=gT C λf dP bt C=>hO C<|k f dP bt
theorem gi {a b:Sort _}{p h r d aa:a->b->Prop}(C:∃x,∃y,p x y/\h x y/\r x y/\d x y/\aa x y)(k:∀x,∀y,p x y->h x y->r x y->d x y->aa x y->G):G:=fz C λf dP C=>o2 C<|k f dP
theorem mh {a b c:Sort _}{p h r d aa:a->b->c->Prop}(C:∃x,∃y,∃z,p x y z/\h x y z/\r x y z/\d x y z/\aa x y z)(k:∀x,∀y,∀z,p x y z->h x y z->r x y z->d x y z->aa x y z->G):G:=gT C λf dP bt C=>o2 C<|k f dP bt
theorem tA {a b c e:Sort _}{p h r d:a->b->c->e->Prop}(C:∃x,∃y,∃z,∃w,p x y z w/\h x y z w/\r x y z w/\d x y z w)(k:∀x,∀y,∀z,∀w,p x y z w->h x y z w->r x y z w->d x y z w->G):G:=j8 C λf dP bt Z C=>i7 C<|k f dP bt Z
theorem nX {a b c e:Sort _}{p h r d aa:a->b->c->e->Prop}(C:∃x,∃y,∃z,∃w,p x y z w/\h x y z w/\r x y z w/\d x y z w/\aa x y z w)(k:∀x,∀y,∀z,∀w,p x y z w->h x y z w->r x y z w->d x y z w->aa x y z w->G):G:=j8 C λf dP bt Z C=>o2 C<|k f dP bt Z
theorem rB {a b c:Sort _}{p h r d aa i g:a->b->c->Prop}(C:∃x,∃y,∃z,p x y z/\h x y z/\r x y z/\d x y z/\aa x y z/\i x y z/\g x y z)(k:∀x,∀y,∀z,p x y z->h x y z->r x y z->d x y z->aa x y z->i x y z->g x y z->G):G:=gT C λf dP bt C=>z2 C<|k f dP bt
theorem p9 {a b:Sort _}{p:a->Prop}{h r:a->b->Prop}(C:∃x,p x/\∃y,h x y/\r x y)(k:∀x,p x->∀y,h x y->r x y->G):G:=cO C λf C=>dp C λdP C=>cO C λbt C=>dp C<|k f dP bt
theorem kL {a b:Sort _}{p:a->Prop}{h r d:a->b->Prop}(C:∃x,p x/\∃y,h x y/\r x y/\d x y)(k:∀x,p x->∀y,h x y->r x y->d x y->G):G:=cO C λf C=>dp C λdP C=>cO C λbt C=>hO C<|k f dP bt
namespace La
set_option genCtorIdx false
inductive T where
 |v (i:Nat)|k (n:Nat)|a (x y:T)|m (n:Nat)(x:T)|s (x y:T)|g (x:T)|c (x:T)
noncomputable abbrev ru:List Nat->Nat->Nat
 |[],_=>0
 |a::l,i=>Nat.rec a (λj _=>ru l j) i
noncomputable abbrev rv:List Int->Nat->Int
 |[],_=>0
 |a::l,i=>Nat.rec a (λj _=>rv l j) i
abbrev T.d (c:List Nat)(t:T):Nat:=T.rec (λi=>ru c i) (λn=>n) (λ_ _ x y=>x+y) (λn _ x=>n*x) (λ_ _ _ _=>0) (λ_ _=>0) (λ_ _=>0) t
abbrev T.z (c:List Nat)(z:List Int)(t:T):Int:=T.rec (λi=>rv z i) (λn=>(n:Int)) (λ_ _ x y=>x+y) (λn _ x=>(n:Int)*x) (λ_ _ x y=>x -y) (λ_ x=> -x) (λx _=>((x.d c:Nat):Int)) t
abbrev ch:=List Int
def p0 (c:List Nat)(z:List Int)(i:Nat):Int:=Nat.rec 1 (λj _=>bif gg (j%2) 0 then rv z (j/2) else(ru c (j/2):Int)) i
def acf (c:List Nat)(z:List Int)(p:ch):Nat->Int:=List.rec (λ_=>0) (λa _ r k=>a*p0 c z k+r (k+1)) p
noncomputable abbrev ev (c:List Nat)(z:List Int)(p:ch):Int:=acf c z p 0
def ack (n:Int)(p:ch):ch:=List.rec [] (λa _ r=>n.mul a::r) p
noncomputable def sc (n:Int)(p:ch):ch:=bif Int.rec (λm=>gg m 1) (λ_=>false) n then p else ack n p
def ad (p:ch):ch->ch:=List.rec (λX=>X) (λa p r X=>List.rec (a::p) (λb X _=>a.add b::r X) X) p
def un (k:Nat):ch:=Nat.rec [1] (λ_ r=>0::r) k
def T.e4 (t:T):ch:=T.rec (λi=>un<|2*i+2) (λn=>[(n:Int)]) (λ_ _ x y=>ad x y) (λn _ x=>sc n x) (λ_ _ _ _=>[]) (λ_ _=>[]) (λ_ _=>[]) t
def T.fK (t:T):ch:=T.rec (λi=>un<|2*i+1) (λn=>[(n:Int)]) (λ_ _ x y=>ad x y) (λn _ x=>sc n x) (λ_ _ x y=>ad x<|sc (-1) y) (λ_ x=>sc (-1) x) (λx _=>x.e4) t
theorem pJ (c z)(p:ch):∀X k,acf c z (ad p X) k=acf c z p k+acf c z X k:=by
 induction p with
 |nil=>exact λX k=>(Bt _).symm
 |cons a p D=>
  intro X k;cases X with
  |nil=>exact(aaN _).symm
  |cons b X=>show(a+b)*_+acf c z (ad p X) (k+1)=a*_+acf c z p (k+1)+(b*_+acf c z X (k+1));rw[D,Int.add_mul,Lj,Lj,Int.add_left_comm<|b*_]
theorem acn (c z)(n:Int)(p:ch):∀k,acf c z (ack n p) k=n*acf c z p k:=by
 induction p with
 |nil=>exact λ_=>(aaT n).symm
 |cons a p D=>intro k;show n*a*_+acf c z (ack n p) (k+1)=n*(a*_+acf c z p (k+1));rw[D,Ln,Int.mul_assoc]
theorem pK (c z)(n:Int)(p:ch)(k):acf c z (sc n p) k=n*acf c z p k:=by
 cases n with
 |negSucc=>exact acn ..
 |ofNat m=>
  show acf c z (bif gg m 1 then p else ack m p) k=_;cases e:gg m 1 with
  |false=>exact acn ..
  |true=>exact r0 e▸(r2 _).symm
theorem T4 (c z)(i:Nat):p0 c z (2*i+2)=(ru c i:Int):=by show(bif gg ((2*i+1)%2) 0 then _ else(ru c ((2*i+1)/2):Int))=_;rw[Nat.mul_add_mod,Nat.mul_add_div<|Lu 1];rfl
theorem T5 (c z)(i:Nat):p0 c z (2*i+1)=rv z i:=by show(bif gg ((2*i)%2) 0 then rv z (2*i/2) else _)=_;rw[Nat.mul_mod_right,Nat.mul_div_cancel_left i<|Lu 1];rfl
theorem sR (c z)(j:Nat):∀k,acf c z (un j) k=p0 c z (j+k):=by
 induction j with
 |zero=>exact λk=>(aaN _).trans<|(r2 _).trans<|congrArg _ (BI k).symm
 |succ j D=>exact λk=>(congrArg (· +_)<|acr _).trans<|(Bt _).trans<|(D<|k+1).trans<|congrArg _ (Nat.succ_add j k).symm
variable{pt last cnt st:Int}
theorem ab8 (C:pt=cnt)(k:last=st):pt+last=cnt+st:=by rw[C,k]
theorem gj (c z):∀t:T,ev c z t.e4=(t.d c:Int):=λt=>by
 induction t with
 |v i=>exact(sR c z (2*i+2) 0).trans<|T4 c z i
 |k n=>exact(aaN _).trans<|Lx _
 |a x y Q G=>exact(pJ ..).trans<|ab8 Q G
 |m n x Q=>exact(pK _ _ n _ _).trans<|congrArg _ Q
 |_=>rfl
theorem yC (c z)(p:ch):ev c z (sc (-1) p)= -ev c z p:=(pK ..).trans<|w3 _
theorem g3 (c z):∀t:T,ev c z t.fK=t.z c z:=λt=>by
 induction t with
 |v i=>exact(sR c z (2*i+1) 0).trans<|T5 c z i
 |k n=>exact(aaN _).trans<|Lx _
 |a x y Q G=>exact(pJ ..).trans<|ab8 Q G
 |m n x Q=>exact(pK _ _ n _ _).trans<|congrArg _ Q
 |s x y Q G=>exact(pJ ..).trans<|ab8 Q<|(yC ..).trans<|congrArg _ G
 |g x Q=>exact(yC c z x.fK).trans<|congrArg _ Q
 |c x=>exact gj c z x
inductive H where
 |le (x y:T)|lt (x y:T)|eq (x y:T)|ne (x y:T)|p5 (x y:T)|p6 (x y:T)
 |sn (x y:T)|Lt (x y:T)|Eq (x y:T)|Ne (x y:T)|sr (x y:T)|su (x y:T)
 |sub (t x y:T)|IF (t x y:T)|IG (t x y:T)|Cp (t x y:T)|Cq (t x y:T)|mn (t x:T)|G0
abbrev H.P (c:List Nat)(z:List Int)(C:H):Prop:=H.rec (λx y=>x.d c<=y.d c) (λx y=>x.d c<y.d c) (λx y=>x.d c=y.d c) (λx y=>¬ x.d c=y.d c) (λx y=>¬ x.d c<=y.d c) (λx y=>¬ x.d c<y.d c) (λx y=>x.z c z<=y.z c z) (λx y=>x.z c z<y.z c z) (λx y=>x.z c z=y.z c z) (λx y=>¬ x.z c z=y.z c z) (λx y=>¬ x.z c z<=y.z c z) (λx y=>¬ x.z c z<y.z c z) (λt x y=>t.d c=x.d c -y.d c) (λt x y=>t.d c=min (x.d c) (y.d c)) (λt x y=>t.d c=max (x.d c) (y.d c)) (λt x y=>t.z c z=min (x.z c z) (y.z c z)) (λt x y=>t.z c z=max (x.z c z) (y.z c z)) (λt x=>t.d c=(x.z c z).toNat) False C
inductive e8 where
 |ge (p:ch)|eq (p:ch)|ne (p:ch)|sub (t x y:ch)
def e8.S (c:List Nat)(z:List Int)(f:e8):Prop:=e8.rec (λp=>0<=ev c z p) (λp=>ev c z p=0) (λp=>¬ ev c z p=0) (λt x y=>(ev c z t -ev c z x+ev c z y=0/\0<=ev c z x -ev c z y)\/(ev c z t=0/\0<=ev c z y -ev c z x)) f
def dd (x y:ch):ch:=ad x<|sc (-1) y
def hs (x y:ch):ch:=ad [-1]<|dd x y
theorem l0 (c z x y):ev c z (dd x y)=ev c z x -ev c z y:=(pJ ..).trans (by rw[pK,w3];rfl)
theorem Q9 (c z x y):ev c z (hs x y)= -1+(ev c z x -ev c z y):=(pJ ..).trans (congrArg (-1+ ·)<|l0 c z x y)
def H.f (C:H):e8:=H.rec (λx y=> .ge<|dd y.e4 x.e4) (λx y=> .ge<|hs y.e4 x.e4) (λx y=> .eq<|dd y.e4 x.e4) (λx y=> .ne<|dd y.e4 x.e4) (λx y=> .ge<|hs x.e4 y.e4) (λx y=> .ge<|dd x.e4 y.e4) (λx y=> .ge<|dd y.fK x.fK) (λx y=> .ge<|hs y.fK x.fK) (λx y=> .eq<|dd y.fK x.fK) (λx y=> .ne<|dd y.fK x.fK) (λx y=> .ge<|hs x.fK y.fK) (λx y=> .ge<|dd x.fK y.fK) (λt x y=> .sub t.e4 x.e4 y.e4) (λt x y=> .sub (dd x.e4 t.e4) x.e4 y.e4) (λt x y=> .sub (dd t.e4 y.e4) x.e4 y.e4) (λt x y=> .sub (dd x.fK t.fK) x.fK y.fK) (λt x y=> .sub (dd t.fK y.fK) x.fK y.fK) (λt x=> .sub t.e4 x.fK []) (.ge [-1]) C
def H.g (C:H):e8:=H.rec (λx y=>H.f<|.p5 x y) (λx y=>H.f<|.p6 x y) (λx y=>H.f<|.ne x y) (λx y=>H.f<|.eq x y) (λx y=>H.f<|.le x y) (λx y=>H.f<|.lt x y) (λx y=>H.f<|.sr x y) (λx y=>H.f<|.su x y) (λx y=>H.f<|.Ne x y) (λx y=>H.f<|.Eq x y) (λx y=>H.f<|.sn x y) (λx y=>H.f<|.Lt x y) (λ_ _ _=> .ge []) (λ_ _ _=> .ge []) (λ_ _ _=> .ge []) (λ_ _ _=> .ge []) (λ_ _ _=> .ge []) (λ_ _=> .ge []) (.ge []) C
variable{h q:ch}{a0:List Nat}{A:List Int}
theorem wN (aP:ev a0 A h=pt)(ad:ev a0 A q=last)(C:pt<=last):0<=ev a0 A (dd q h):=by rw[l0,aP,ad];exact aa7 C
theorem rS {p X:ch}(aP:ev a0 A p=pt)(ad:ev a0 A X=last)(C:pt<last):0<=ev a0 A (hs X p):=by rw[Q9,aP,ad,mv];exact aa7<|Int.le_sub_left_of_add_le C
theorem K5 (aP:ev a0 A h=pt)(ad:ev a0 A q=last)(C:pt=last):ev a0 A (dd q h)=0:=by rw[l0,aP,ad,C,dX]
theorem K8 (aP:ev a0 A h=pt)(ad:ev a0 A q=last)(C:¬ pt=last):¬ ev a0 A (dd q h)=0:=by rw[l0,aP,ad];exact λe=>C (Int.eq_of_sub_eq_zero e).symm
theorem rU {X:ch}{b:Int}(aP:ev a0 A h=pt)(Q:ev a0 A q=last)(G:ev a0 A X=b)(C:(pt -last+b=0/\0<=last -b)\/(pt=0/\0<=b -last)):(e8.sub h q X).S a0 A:=by show(_/\_)\/(_/\_);rw[aP,Q,G];exact C
theorem zs (a b:Int):a -b -a+b=0:=by rw[lD,mv b a,<-lD,dX,Int.zero_sub,Int.add_left_neg]
theorem pf (a b:Nat):((min a b:Nat):Int)=min (a:Int) b:=by
 rcases dR a b with C|C
 ·rw[ke C,nk<|qD.mpr C]
 ·rw[mx C,xe<|qD.mpr C]
theorem rQ (a b:Nat):((max a b:Nat):Int)=max (a:Int) b:=by
 rcases dR a b with C|C
 ·rw[pl C,LU<|qD.mpr C]
 ·rw[abA C,LZ<|qD.mpr C]
theorem K6 (a b:Int):(a -min a b -a+b=0/\0<=a -b)\/(a -min a b=0/\0<=b -a):=by
 rcases L1 b a with C|C
 ·exact .inl ⟨by rw[xe C];exact zs a b,aa7 C⟩
 ·exact .inr ⟨by rw[nk C,dX],aa7 C⟩
theorem K7 (a b:Int):(max a b -b -a+b=0/\0<=a -b)\/(max a b -b=0/\0<=b -a):=by
 rcases L1 b a with C|C
 ·exact .inl ⟨by rw[LZ C];exact zs a b,aa7 C⟩
 ·exact .inr ⟨by rw[LU C,dX],aa7 C⟩
theorem aaz (a b:Nat):(((a -b:Nat):Int) -a+b=0/\0<=(a:Int) -b)\/(((a -b:Nat):Int)=0/\0<=(b:Int) -a):=by
 rcases dR b a with C|C
 ·exact .inl ⟨by rw[e6 C];exact zs a b,aa7<|qD.mpr C⟩
 ·exact .inr ⟨by rw[acp C];rfl,aa7<|qD.mpr C⟩
theorem aaF (a:Int):((a.toNat:Int) -a+0=0/\0<=a -0)\/((a.toNat:Int)=0/\0<=0 -a):=by
 rcases L1 0 a with C|C
 ·exact .inl ⟨by rw[L6 C,dX];rfl,aa7 C⟩
 ·exact .inr ⟨by rw[Int.toNat_eq_zero.mpr C];rfl,aa7 C⟩
theorem ku:∀C:H,C.P a0 A->C.f.S a0 A:=λC X=>by
 cases C with
 |le x y=>exact wN (gj ..) (gj ..)<|qD.mpr X
 |lt x y=>exact rS (gj ..) (gj ..)<|qG.mpr X
 |eq x y=>exact K5 (gj ..) (gj ..)<|congrArg _ X
 |ne x y=>exact K8 (gj ..) (gj ..) λe=>X<|uq.inj e
 |p5 x y=>exact rS (gj ..) (gj ..)<|qG.mpr<|qH X
 |p6 x y=>exact wN (gj ..) (gj ..)<|qD.mpr<|pm X
 |sn x y=>exact wN (g3 ..) (g3 ..) X
 |Lt x y=>exact rS (g3 ..) (g3 ..) X
 |Eq x y=>exact K5 (g3 ..) (g3 ..) X
 |Ne x y=>exact K8 (g3 ..) (g3 ..) X
 |sr x y=>exact rS (g3 ..) (g3 ..)<|Int.lt_of_not_ge X
 |su x y=>exact wN (g3 ..) (g3 ..)<|Int.le_of_not_gt X
 |sub t x y=>exact rU (gj ..) (gj ..) (gj ..) (by rw[show t.d a0=x.d a0 -y.d a0 from X];exact aaz _ _)
 |IF t x y=>exact rU ((l0 ..).trans<|by rw[gj,gj,show t.d a0=min (x.d a0) (y.d a0) from X,pf]) (gj ..) (gj ..)<|K6 ..
 |IG t x y=>exact rU ((l0 ..).trans<|by rw[gj,gj,show t.d a0=max (x.d a0) (y.d a0) from X,rQ]) (gj ..) (gj ..)<|K7 ..
 |Cp t x y=>exact rU ((l0 ..).trans<|by rw[g3,g3,show t.z a0 A=min (x.z a0 A) (y.z a0 A) from X]) (g3 ..) (g3 ..)<|K6 ..
 |Cq t x y=>exact rU ((l0 ..).trans<|by rw[g3,g3,show t.z a0 A=max (x.z a0 A) (y.z a0 A) from X]) (g3 ..) (g3 ..)<|K7 ..
 |mn t x=>exact rU ((gj ..).trans<|congrArg _ X) (g3 ..) (X:=[]) (b:=0) rfl<|aaF _
 |G0=>cases X
theorem SP:∀C:H,¬ C.P a0 A->C.g.S a0 A:=λC X=>by
 cases C with
 |le x y=>exact ku (.p5 x y) X
 |lt x y=>exact ku (.p6 x y) X
 |eq x y=>exact ku (.ne x y) X
 |ne x y=>exact ku (.eq x y)<|kY.mp X
 |p5 x y=>exact ku (.le x y)<|kY.mp X
 |p6 x y=>exact ku (.lt x y)<|kY.mp X
 |sn x y=>exact ku (.sr x y) X
 |Lt x y=>exact ku (.su x y) X
 |Eq x y=>exact ku (.Ne x y) X
 |Ne x y=>exact ku (.Eq x y)<|kY.mp X
 |sr x y=>exact ku (.sn x y)<|kY.mp X
 |su x y=>exact ku (.Lt x y)<|kY.mp X
 |_=>exact eo 0
def np (i:Nat)(n:Int):Bool:=Int.rec (λm=>gg m 0) (λ_=>gg (i%2) 0) n
def v6 (p:ch):Nat->Bool:=List.rec (λ_=>true) (λa _ r k=>np k a&&r (k+1)) p
variable{i:Nat}
theorem HO (e:i%2=0):0<=p0 a0 A i:=by
 cases i with
 |zero=>exact Int.zero_le_ofNat 1
 |succ j=>
  show 0<=(bif gg (j%2) 0 then rv A (j/2) else(ru a0 (j/2):Int));have bo:gg (j%2) 0=false:=by cases X:gg (j%2) 0 with
   |false=>rfl
   |true=>rw[Nat.add_mod,r0 X] at e;exact absurd e (by decide)
  rw[bo];exact oh _
theorem WA (p:ch):∀k,v6 p k=true->acf a0 A p k<=0:=by
 induction p with
 |nil=>exact λ_ _=>eo 0
 |cons a p D=>
  intro k C;have C:(np k a&&v6 p (k+1))=true:=C;rw[abR] at C;refine Int.add_nonpos ?_<|D _ C.2;have e:=C.1;cases a with
  |ofNat m=>rw[show m=0 from r0 e];exact L7<|acr _
  |negSucc m=>exact Int.mul_nonpos_of_nonpos_of_nonneg (jh<|xm m)<|HO<|r0 e
def fin (p:ch):Bool:=List.rec false (λa l _=>Int.rec (λ_=>false) (λ_=>true) a&&v6 l 1) p
theorem R1 (C:fin h=true):ev a0 A h<0:=by
 cases h with
 |nil=>cases C
 |cons a l=>
  have C:(Int.rec (λ_=>false) (λ_=>true) a&&v6 l 1)=true:=C;rw[abR] at C;refine Int.add_neg_of_neg_of_nonpos ?_<|WA l 1 C.2;cases a with
  |ofNat m=>cases C.1
  |negSucc m=>exact(Lx _).symm▸xm m
def lc (a b:Int)(p X:ch):ch:=ad (sc a p)<|sc b X
theorem GP (a b:Int)(p X:ch):ev a0 A (lc a b p X)=a*ev a0 A p+b*ev a0 A X:=(pJ ..).trans (by rw[pK,pK])
def js (k:Nat)(p:ch):Int:=List.rec (λ_=>0) (λa _ r k=>Nat.rec a (λj _=>r j) k) p k
def hg (n:Int):Nat:=Int.rec (λm=>m) (λm=>m+1) n
def hQ (x y w:aR)(n:Int):aR:=Int.rec (λm=>Nat.rec x (λ_ _=>y) m) (λ_=>w) n
def f2 (c:List Nat)(z:List Int)(o:List ch):Prop:=∀p∈o,0<=ev c z p
noncomputable def nat (k:Nat):Bool:=gg (k%2) 0
def Js (k:Nat)(p:ch)(o N:List ch):List ch:=List.rec N (λX _ r=>hQ r r (lc (hg<|js k X) (hg<|js k p) p X::r)<|js k X) o
def nK (k:Nat)(all o:List ch):List ch:=List.rec [] (λp _ r=>hQ (p::r) (Js k p all r) (bif nat k then lc 1 (hg<|js k p) p (un k)::r else r)<|js k p) o
variable{aN h2:aR}
theorem Ay {P:aR->Prop}{a:aR}(Q:P aN)(G:P h2)(a1:P a):P (hQ aN h2 a pt):=by
 cases pt with
 |ofNat m=>cases m with
  |zero=>exact Q
  |succ=>exact G
 |negSucc=>exact a1
theorem f2.cons {c:List Nat}{z:List Int}{p:ch}{o:List ch}(C:0<=ev c z p)(t:f2 c z o):f2 c z (p::o):=λX m=>by
 cases m with
 |head=>exact C
 |tail _ m=>exact t X m
variable{o:List ch}
theorem f2.hd (C:f2 a0 A (h::o)):0<=ev a0 A h:=C h<|.head _
theorem f2.AT (C:f2 a0 A (h::o)):f2 a0 A o:=λX m=>C X<|.tail _ m
variable{e:Nat}
theorem H0 {m:Nat}(aP:0<=ev a0 A h)(ad:0<=ev a0 A q):0<=ev a0 A (lc m e h q):=by rw[GP];exact Int.add_nonneg (abS (oh _) aP)<|abS (oh _) ad
variable{N:List ch}
theorem XF (aP:0<=ev a0 A h)(aE:f2 a0 A N)(C:f2 a0 A o):f2 a0 A (Js e h o N):=by
 induction o with
 |nil=>exact aE
 |cons X o D=>have D:=D C.AT;exact Ay D D<|D.cons<|H0 aP C.hd
variable{b:Nat}
theorem Q2 (H:f2 a0 A N)(C:f2 a0 A o):f2 a0 A (nK b N o):=by
 induction o with
 |nil=>exact C
 |cons p o D=>
  have D:=D C.AT;refine Ay (D.cons C.hd) (XF C.hd D H) (?_:f2 a0 A (bif nat b then _::nK b N o else nK b N o));generalize nK b N o=R at D;cases e:nat b with
  |false=>exact D
  |true=>exact D.cons<|H0 (m:=1) C.hd<|abT (HO<|r0 e)<|L7 (sR a0 A b 0).symm
def XD (k:Nat)(o:List ch)(a b:Nat):Nat:=List.rec (λa b=>a*b) (λp _ r a b=>hQ (r a b) (r (a+1) b) (r a<|b+1)<|js k p) o a b
def Na (o:List ch)(a0:List Nat):Nat×Nat:=List.rec (0,1000000) (λk _ b=>(λn=>bif dN n b.2 then(k,n) else b)<|XD k o 0 0) a0
def GH (k:Nat)(a0:List Nat):List Nat:=List.rec [] (λj l r=>bif gg j k then l else j::r) a0
def sw (o:List ch):Bool:=List.rec false (λp _ r=>fin p||r) o
def G2 (n:Nat):List Nat->List ch->Bool:=Nat.rec (λ_ o=>sw o) (λ_ r a0 o=>sw o||(λk=>r (GH k a0)<|nK k o o) (Na o a0).1) n
theorem FF (C:f2 a0 A o)(e:sw o=true):False:=by
 induction o with
 |nil=>cases e
 |cons p o D=>have e:(fin p||sw o)=true:=e;rw[eM] at e;exact e.elim (λe=>sf 0<|qI C.hd<|R1 e)<|D C.AT
variable{q:List Nat}
theorem Sc (n:Nat):∀{a0:List Nat} {o:List ch},f2 q A o->G2 n a0 o=true->False:=by
 induction n with
 |zero=>exact FF
 |succ n D=>intro a0 o C e;have e:(sw o||_)=true:=e;rw[eM] at e;exact e.elim (FF C)<|D<|Q2 C C
def rD (n:Nat)(d:Nat)(p:ch):Nat:=List.rec (λ_=>d) (λa _ r k=>bif gg k 0||hQ true (n.blt<|hg a) (n.blt<|hg a) a then r (k+1) else k) p 0
def yA (k:Nat)(e p:ch):ch:=hQ p (lc (hg<|js k e) (-js k p) p e) (lc (hg<|js k e) (js k p) p e)<|js k e
theorem GO {c:List Nat}{z:List Int}{k:Nat}{p:ch}(C:ev c z h=0):∃m:Nat,ev c z (yA k h p)=m*ev c z p:=by have a6 (b:Int):∃m:Nat,ev c z (lc (hg<|js k h) b p h)=m*ev c z p:=⟨hg<|js k h,by rw[GP,C,aaT,aaN]⟩;exact Ay (P:=λX=>∃m:Nat,ev c z X=m*ev c z p) ⟨1,(r2 _).symm⟩ (a6 _)<|a6 _
def eqs (n:Nat)(K:List Nat->List ch->Bool):List ch->List Nat->List ch->Bool:=Nat.rec (λ_ a0 o=>K a0 o) (λ_ r ah a0 o=>List.rec (K a0 o) (λe ah _=>(λk=>r (ah.map<|yA k e) (GH k a0)<|e::sc (-1) e::o.map (yA k e))<|rD 1 (rD 1000000 0 e) e) ah) n
def ol (c:List Nat)(z:List Int)(ah:List ch):Prop:=∀p∈ah,ev c z p=0
theorem Q5 {b:List Nat->List ch->Bool}(bZ:∀{a0 o},f2 q A o->b a0 o=true->False)(n:Nat):∀{ah:List ch} {a0:List Nat} {o:List ch},ol q A ah->f2 q A o->eqs n b ah a0 o=true->False:=by
 induction n with
 |zero=>exact λ_ C=>bZ C
 |succ n D=>
  intro ah a0 o he C;cases ah with
  |nil=>exact bZ C
  |cons e ah=>
   have h0:=he e<|.head _;refine D (λX m=>?_)<|.cons (by rw[h0];exact eo 0)<|.cons (by rw[yC,h0];exact eo 0) λX m=>?_
   ·obtain⟨p,mp,a8⟩:=yB.mp m;obtain⟨m,X⟩:=GO (c:=q) (z:=A) (k:=rD 1 (rD 1000000 0 e) e) (p:=p) h0;rw[<-a8,X,he p<|.tail _ mp,aaT]
   ·obtain⟨p,mp,a8⟩:=yB.mp m;obtain⟨m,X⟩:=GO (c:=q) (z:=A) (k:=rD 1 (rD 1000000 0 e) e) (p:=p) h0;rw[<-a8,X];exact abS (oh _)<|C p mp
def run (a0:List Nat)(ah o:List ch):Bool:=eqs ah.length (G2 a0.length) ah a0 o
theorem JJ (he:ol q A N)(C:f2 q A o):run a0 N o=true->False:=Q5 (Sc _) _ he C
inductive k0 (c:List Nat)(z:List Int):List e8->Prop where
 |nil:k0 c z []
 |cons {f Q} (C:f.S c z) (t:k0 c z Q):k0 c z (f::Q)
def e8.go (f:e8)(r:List ch->List ch->List e8->Bool)(ah o:List ch)(L:List e8):Bool:=e8.rec (λp=>r ah (p::o) L) (λp=>r (p::ah) o L) (λ_=>r ah o<|L++[f]) (λ_ _ _=>r ah o<|L++[f]) f
def Hg (K:List ch->List ch->List e8->Bool)(Q:List e8):List ch->List ch->List e8->Bool:=List.rec K (λf _ r=>f.go r) Q
def e8.cut (f:e8)(r:List ch->List ch->Bool)(ah o:List ch):Bool:=e8.rec (λ_=>false) (λ_=>false) (λp=>r ah (hs p []::o)&&r ah (hs [] p::o)) (λt x y=>r (ad (dd t x) y::ah) (dd x y::o)&&r (t::ah) (dd y x::o)) f
def dW (a0:List Nat)(L:List e8):List ch->List ch->Bool:=List.rec (λah o=>run a0 ah o) (λf _ r ah o=>f.cut r ah o||run a0 ah o) L
theorem ol.cons {c:List Nat}{z:List Int}{p:ch}{o:List ch}(C:ev c z p=0)(t:ol c z o):ol c z (p::o):=λX m=>by
 cases m with
 |head=>exact C
 |tail _ m=>exact t X m
variable{h:List e8}
theorem Zs (a:k0 q A h):∀{ah o:List ch},ol q A ah->f2 q A o->dW a0 h ah o=true->False:=by
 induction a with
 |nil=>exact JJ
 |@cons f Q C t D=>
  intro ah o he aB e;have e:(f.cut (dW a0 Q) ah o||run a0 ah o)=true:=e;rw[eM] at e;refine e.elim (λe=>?_)<|JJ he aB;cases f with
  |ge p=>cases e
  |eq p=>cases e
  |ne p=>
   have e:(dW a0 Q _ _&&dW a0 Q _ _)=true:=e;rw[abR] at e;rcases Int.lt_or_gt_of_ne (show ev q A p≠0 from C) with X|X
   ·exact D he (.cons (p:=hs [] p) (rS (p:=p) (X:=[]) rfl rfl X) aB) e.2
   ·exact D he (.cons (p:=hs p []) (rS (p:=[]) (X:=p) rfl rfl X) aB) e.1
  |sub t x y=>
   have e:(dW a0 Q _ _&&dW a0 Q _ _)=true:=e;rw[abR] at e;rcases show(ev q A t -ev q A x+ev q A y=0/\0<=ev q A x -ev q A y)\/(ev q A t=0/\0<=ev q A y -ev q A x) from C with X|X
   ·exact D (.cons ((pJ ..).trans ((congrArg (· +_)<|l0 ..).trans X.1)) he) (.cons (show 0<=ev q A (dd x y) by rw[l0];exact X.2) aB) e.1
   ·exact D (.cons X.1 he) (.cons (show 0<=ev q A (dd y x) by rw[l0];exact X.2) aB) e.2
theorem k0.snoc {f:e8}(C:f.S a0 A)(a:k0 a0 A h):k0 a0 A (h++[f]):=by
 induction a with
 |nil=>exact .cons C .nil
 |cons g _ D=>exact .cons g D
theorem SS {b:List ch->List ch->List e8->Bool}(bZ:∀{ah o L},ol a0 A ah->f2 a0 A o->k0 a0 A L->b ah o L=true->False)(a:k0 a0 A h):∀{ah o L},ol a0 A ah->f2 a0 A o->k0 a0 A L->Hg b h ah o L=true->False:=by
 induction a with
 |nil=>exact bZ
 |@cons f h C t D=>
  intro ah o L he aB an e;cases f with
  |ge p=>exact D he (.cons C aB) an e
  |eq p=>exact D (.cons C he) aB an e
  |ne p=>exact D he aB (.snoc C an) e
  |sub t x y=>exact D he aB (.snoc C an) e
noncomputable def HP (n:Nat)(d:Nat):List Nat:=Nat.rec [] (λi r=>(2*i+d)::r) n
def GT (g:e8)(ax:List H):List e8:=g::List.rec [] (λC _ r=>C.f::r) ax
def wc (m n:Nat)(g:H)(ax:List H):Bool:=Hg (λah o L=>dW (HP m 2++HP n 1) L ah o) (GT g.g ax) [] [] []
def dQ (c:List Nat)(z:List Int)(P E:Prop)(ax:List H):Prop:=List.rec ((_:E:=by ext)->P) (λC _ r=>C.P c z->r) ax
theorem XG (ax:List H)(k:k0 a0 A (List.rec [] (λ(C:H) _ r=>C.f::r) ax)->B->G):dQ a0 A G B ax:=by
 induction ax with
 |nil=>exact k .nil
 |cons C l D=>exact λX=>D λa=>k<|.cons (ku C X) a
set_option genCtorIdx true
def cw (d:aR)(l:List aR):Nat->aR:=List.rec (λ_=>d) (λa _ r i=>Nat.rec a (λj _=>r j) i) l
variable{cQ:Type}
theorem ws {d:aR->cQ->Prop}{aP:cQ}(C:d aN aP):∀i,d (cw aN [] i) (cw aP [] i):=λ_=>C
variable{aw:List aR}
theorem fL {d:aR->cQ->Prop}{aP aI:cQ}{a:List cQ}(C:d h2 aI)(t:∀i,d (cw aN aw i)<|cw aP a i):∀i,d (cw aN (h2::aw) i) (cw aP (aI::a) i):=λi=>Nat.rec C (λj _=>t j) i
def TV:Nat->Nat:=cw 900 [100000,1000,60,4611686018427387904,50,100,9223372036854775808,200,16777216,1000000,150000,3,4,32,61]
noncomputable def nO (k:Nat->aR)(n:Nat):aR:=Nat.rec (k 0) (λj _=>k<|j+1) n
theorem pO {d:aR->cQ->Prop}{k:Nat->aR}{aN:Nat->cQ}(C:∀i,d (k i)<|aN i)(n:Nat):d (nO k n) (nO aN n):=Nat.rec (C 0) (λj _=>C<|j+1) n
def Aa (r:(T->Nat->aR)->Nat->aR)(k:T->Nat->aR)(n:Nat):aR:=nO (λm=> bif wO (n%16) 7 then k (.v<|n%16) m else cw (k (.k 0) m) [k (.v<|7+m%16)<|m/16,r (λx=>r λy=>k<|.a x y) m,r (λx=>r λy=>k<|.s x y) m,r (λx=>k<|.c x) m,r (λx=>k<|.g x) m,k (.k<|TV<|m%16)<|m/16,k (.k 1) m, nO (λi=>cw (nO (λw=>r (λx=>k<|.m w x)<|i/4096)<|i%4096) [nO (λw=>k (.k w)<|i/256)<|i%256,nO (λw=>k (.k w)<|i/16/16^(i%16+2))<|i/16%16^(i%16+2)]<|m%16)<|m/16] (n%16 -7))<|n/16
def tB (f:Nat):(T->Nat->aR)->Nat->aR:=Nat.rec (λk n=>k (.k 0) n) (λ_ r=>Aa r) f
variable{cD:Bool}
theorem MT {d:aR->cQ->Prop}{O k:cQ}(C:d aN O)(t:d h2 k):d (bif cD then aN else h2) (bif cD then O else k):=by cases cD with
 |true=>exact C
 |false=>exact t
theorem Xo {d:aR->cQ->Prop}{r:(T->Nat->aR)->Nat->aR}{a:(T->Nat->cQ)->Nat->cQ}(bN:∀{k:T->Nat->aR} {aN:T->Nat->cQ},(∀t n,d (k t n)<|aN t n)->∀n,d (r k n)<|a aN n){k:T->Nat->aR}{aN:T->Nat->cQ}(C:∀t n,d (k t n)<|aN t n)(n:Nat):d (Aa r k n) (Aa a aN n):= pO (λ_=>MT (C _ _)<|fL (C _ _) (fL (bN (λx=>bN λy=>C _) _)<|fL (bN (λx=>bN λy=>C _) _)<|fL (bN (λx=>C _) _)<|fL (bN (λx=>C _) _)<|fL (C _ _)<|fL (C _ _)<|fL (pO (λ_=>fL (pO (λ_=>C _ _) _) (fL (pO (λ_=>C _ _) _)<|ws<|pO (λ_=>bN (λx=>C _) _) _) _) _)<|ws<|C _ _) _) _
theorem Ab {d:aR->cQ->Prop}(f:Nat):∀{k:T->Nat->aR} {aN:T->Nat->cQ},(∀t n,d (k t n)<|aN t n)->∀n,d (tB f k n) (tB f aN n):=by
 induction f with
 |zero=>exact λC n=>C _ n
 |succ f r=>exact Xo r
def dg (k:H->Nat->aR)(c:T->T->H):Nat->aR:=tB 20 λx=>tB 20 λy=>k<|c x y
def g2 (k:H->Nat->aR)(c:T->T->T->H):Nat->aR:=tB 20 λx=>dg k<|c x
def qc (k:H->Nat->aR)(n:Nat):aR:=nO (λm=>cw (nO (λi=>cw (k .G0 i) [dg k .ne i,dg k .Ne i,g2 k .Cp i,g2 k .Cq i]<|m%16)<|m/16) [dg k .le m,dg k .lt m,dg k .eq m,dg k .p6 m,g2 k .sub m,g2 k .IF m,dg k .sn m,dg k .Lt m,dg k .Eq m,dg k .su m,dg k .sr m,dg k .p5 m,g2 k .IG m,dg k .mn m]<|n%16 -1)<|n/16
variable{h:H->Nat->aR}
theorem Jg {d:aR->cQ->Prop}{aN:H->Nat->cQ}(C:∀t n,d (h t n)<|aN t n)(c:T->T->H)(n:Nat):d (dg h c n) (dg aN c n):=Ab _ (λ_=>Ab _ λ_=>C _) n
theorem Xn {d:aR->cQ->Prop}{aN:H->Nat->cQ}(C:∀t n,d (h t n)<|aN t n)(c:T->T->T->H)(n:Nat):d (g2 h c n) (g2 aN c n):=Ab _ (λ_=>Jg C _) n
theorem Jh {R:aR->cQ->Prop}{k:H->Nat->aR}{aN:H->Nat->cQ}(C:∀t n,R (k t n)<|aN t n)(n:Nat):R (qc k n) (qc aN n):=by have a:=Jg C;have b:=Xn C;exact pO (λ_=>fL (a ..) (fL (a ..)<|fL (a ..)<|fL (a ..)<|fL (b ..)<|fL (b ..)<|fL (a ..)<|fL (a ..)<|fL (a ..)<|fL (a ..)<|fL (a ..)<|fL (a ..)<|fL (b ..)<|fL (a ..)<|ws<|pO (λ_=>fL (a ..) (fL (a ..)<|fL (b ..)<|fL (b ..)<|ws<|C _ _) _) _) _) _
def uv (n:Nat):List H:=Nat.rec (λ_=>[]) (λ_ r n=>bif gg n 0 then[] else qc (λC m=>C::r m) n) 30 n
def PW (i j n:Nat):Bool:=qc (λg r=>wc i j g<|uv r) n
def k9 (i j n:Nat):Bool:=qc (λg _=>wc i j g []) n
def fK (i j:Nat)(c:List Nat)(z:List Int)(n:Nat):Prop:=qc (λg r E=>dQ c z (g.P c z) E<|uv r) n<|PW i j n=true
def lx (c:List Nat)(z:List Int)(n:Nat):Prop:=qc (λg _=>g.P c z) n
variable{j:Nat}
theorem lk {g:H}{ax:List H}(a:k0 a0 A (List.rec [] (λ(C:H) _ r=>C.f::r) ax))(e:wc i j g ax=true):g.P a0 A:= Classical.byContradiction λn=>SS (λhe aB a=>Zs a he aB) (.cons (SP g n) a) (λ_ m=>by cases m) (λ_ m=>by cases m) .nil e
theorem fW (i j n:Nat):fK i j a0 A n:= Jh (R:=λ(p:Prop->Prop) b=>∀E:Prop,(E->b=true)->p E) (k:=λg r E=>dQ a0 A (g.P a0 A) E<|uv r) (aN:=λg r=>wc i j g<|uv r) (λ_ _ _ C=>XG _ λa e=>lk a<|C e) n _ id
theorem lo:k9 i j e=true->lx a0 A e:= Jh (R:=λ(p:Prop) b=>b=true->p) (λ_ _=>lk .nil) e
end La
theorem j5 (X:Nat)(e:La.k9 0 0 X=true:=by ext):La.lx [] [] X:=La.lo e
variable{pt:Int}
theorem c4 (X:Nat):La.fK 0 1 [] [pt] X:=La.fW 0 1 X
theorem tj (X:Nat)(e:La.k9 0 1 X=true:=by ext):La.lx [] [pt] X:=La.lo e
variable{last:Int}
theorem Uk (X:Nat):La.fK 0 2 [] [pt,last] X:=La.fW 0 2 X
theorem Ul (X:Nat)(e:La.k9 0 2 X=true:=by ext):La.lx [] [pt,last] X:=La.lo e
variable{cnt:Int}
theorem zh (X:Nat):La.fK 0 3 [] [pt,last,cnt] X:=La.fW 0 3 X
theorem Um (X:Nat)(e:La.k9 0 3 X=true:=by ext):La.lx [] [pt,last,cnt] X:=La.lo e
variable{st:Int}
theorem H1 (X:Nat):La.fK 0 4 [] [pt,last,cnt,st] X:=La.fW 0 4 X
variable{h5:Int}
theorem vQ (X:Nat):La.fK 0 5 [] [pt,last,cnt,st,h5] X:=La.fW 0 5 X
variable{e:Nat}
theorem bM (X:Nat):La.fK 1 0 [e] [] X:=La.fW 1 0 X
variable{b i j aD aL ey cC eD kG:Nat}
theorem Un (X:Nat):La.fK 10 0 [e,b,aD,aL,ey,cC,eD,i,j,kG] [] X:=La.fW 10 0 X
variable{ew low:Nat}
theorem Uo (X:Nat):La.fK 12 0 [e,b,aD,aL,ey,cC,eD,i,j,kG,ew,low] [] X:=La.fW 12 0 X
theorem Up (X:Nat):La.fK 12 1 [e,b,aD,aL,ey,cC,eD,i,j,kG,ew,low] [pt] X:=La.fW 12 1 X
theorem Uq {n:Nat}(X:Nat):La.fK 13 0 [e,b,aD,aL,ey,cC,eD,i,j,kG,ew,low,n] [] X:=La.fW 13 0 X
theorem dG (X:Nat)(e:La.k9 1 0 X=true:=by ext):La.lx [b] [] X:=La.lo e
theorem dZ (X:Nat):La.fK 1 1 [e] [pt] X:=La.fW 1 1 X
theorem Ur (X:Nat)(e:La.k9 1 1 X=true:=by ext):La.lx [b] [pt] X:=La.lo e
theorem Us (X:Nat):La.fK 1 2 [e] [pt,last] X:=La.fW 1 2 X
theorem Ut (X:Nat):La.fK 1 3 [e] [pt,last,cnt] X:=La.fW 1 3 X
theorem bC (X:Nat):La.fK 2 0 [e,b] [] X:=La.fW 2 0 X
theorem lp (X:Nat)(e:La.k9 2 0 X=true:=by ext):La.lx [i,b] [] X:=La.lo e
theorem gF (X:Nat):La.fK 2 1 [e,b] [pt] X:=La.fW 2 1 X
theorem Uu (X:Nat):La.fK 2 2 [e,b] [pt,last] X:=La.fW 2 2 X
theorem Uv (X:Nat):La.fK 2 3 [e,b] [pt,last,cnt] X:=La.fW 2 3 X
theorem b1 (X:Nat):La.fK 3 0 [e,b,i] [] X:=La.fW 3 0 X
theorem lq (X:Nat)(e:La.k9 3 0 X=true:=by ext):La.lx [i,b,aD] [] X:=La.lo e
theorem me (X:Nat):La.fK 3 1 [e,b,i] [pt] X:=La.fW 3 1 X
theorem Uw (X:Nat)(e:La.k9 3 1 X=true:=by ext):La.lx [i,b,aD] [pt] X:=La.lo e
theorem Ux (X:Nat):La.fK 3 2 [e,b,i] [pt,last] X:=La.fW 3 2 X
theorem bS (X:Nat):La.fK 4 0 [e,b,i,aD] [] X:=La.fW 4 0 X
theorem Uy (X:Nat)(e:La.k9 4 0 X=true:=by ext):La.lx [i,b,aD,j] [] X:=La.lo e
theorem H2 (X:Nat):La.fK 4 1 [e,b,i,aD] [pt] X:=La.fW 4 1 X
theorem dH (X:Nat):La.fK 5 0 [e,b,i,aD,j] [] X:=La.fW 5 0 X
theorem H3 (X:Nat)(e:La.k9 5 0 X=true:=by ext):La.lx [i,b,aD,j,aL] [] X:=La.lo e
theorem ff (X:Nat):La.fK 6 0 [e,b,i,aD,j,aL] [] X:=La.fW 6 0 X
theorem hN (X:Nat):La.fK 7 0 [e,b,i,aD,j,aL,ey] [] X:=La.fW 7 0 X
theorem tk (X:Nat):La.fK 8 0 [e,b,aD,j,aL,ey,cC,i] [] X:=La.fW 8 0 X
theorem H4 (X:Nat):La.fK 9 0 [e,b,aD,aL,ey,cC,eD,i,j] [] X:=La.fW 9 0 X
set_option tactic.hygienic false
set_option genInjectivity true
def V.is:V->a3->Prop
 |.aK,_=>False
 |.none,v=>v=.none
 |.bool b,v=>v=.bool b
 |.int i,v=>∃t,v=.int i t
 |.str s,v=>∃t,v=.str s t
 |.ref a,v=>v=.ref a
 |.ext x,v=>v=x
def bV:List V->List a3->Prop
 |[],[]=>True
 |u::aa,v::ag=>u.is v/\bV aa ag
 |_,_=>False
theorem bV.length:∀{aa:List V} {ag:List a3},bV aa ag->aa.length=ag.length:=by
 intro h;induction h with
 |nil=>
  intro f;cases f with
  |nil=>intro s;exact rfl
  |cons _ _=>intro c;first|exact c.elim|cases c
 |cons e i D=>
  intro f;cases f with
  |nil=>intro c;first|exact c.elim|cases c
  |cons j n=>intro C;exact J hC<|J hC<|J (D C.2) rfl
variable{aa am:List V}{bE c1:List a3}
theorem bV.append (C:bV aa bE)(av:bV am c1):bV (aa++am) (bE++c1):=by
 induction aa generalizing bE with
 |nil=>cases bE with
  |nil=>exact av
  |cons=>exact C.elim
 |cons a aa D=>cases bE with
  |nil=>exact C.elim
  |cons b bE=>exact⟨C.1,D C.2⟩
theorem bV.get:∀{ag:List a3} {i:Nat} {u:V},bV aa ag->aa[i]?=kZ u->∃v,ag[i]?=kZ v/\u.is v:=by
 induction aa with
 |nil=>intro ag i u q e;exact bY e
 |cons a aa D=>
  intro ag i u C e;cases ag with
  |nil=>exact C.elim
  |cons b ag=>
   cases i with
   |zero=>cases e;exact bb b rfl C.1
   |succ i=>exact D (ag:=ag) (i:=i) C.2 e
theorem bV.take:∀{ag:List a3} (k:Nat),bV aa ag->bV (aa.take k) (ag.take k):=by
 induction aa with
 |nil=>intro ag k C;cases ag with
  |nil=>cases k<;>exact trivial
  |cons=>exact C.elim
 |cons a aa D=>intro ag k C;cases ag with
  |nil=>exact C.elim
  |cons b ag=>cases k with
   |zero=>exact trivial
   |succ k=>exact⟨C.1,D k C.2⟩
theorem bV.drop:∀{ag:List a3} (k:Nat),bV aa ag->bV (aa.drop k) (ag.drop k):=by
 induction aa with
 |nil=>intro ag k C;cases ag with
  |nil=>cases k<;>exact trivial
  |cons=>exact C.elim
 |cons a aa D=>intro ag k C;cases ag with
  |nil=>exact C.elim
  |cons b ag=>cases k with
   |zero=>exact C
   |succ k=>exact D k C.2
theorem bV.reverse:∀{ag:List a3},bV aa ag->bV aa.reverse ag.reverse:=by
 induction aa with
 |nil=>intro ag C;cases ag with
  |nil=>exact trivial
  |cons=>exact C.elim
 |cons a aa D=>intro ag C;cases ag with
  |nil=>exact C.elim
  |cons b ag=>exact J ur<|J ur<|(D C.2).append ⟨C.1,trivial⟩
theorem bV.set:∀{aa:List V} {ag:List a3} (k:Nat) {u:V} {v:a3},bV aa ag->u.is v->bV (aa.set k u) (ag.set k v):=by
 intro aa;induction aa with
 |nil=>intro ag k u v C av;cases ag<;>first|exact C|exact C.elim
 |cons a aa D=>intro ag k u v C av;cases ag with
  |nil=>exact C.elim
  |cons b ag=>cases k with
   |zero=>exact⟨av,C.2⟩
   |succ k=>exact⟨C.1,D k C.2 av⟩
inductive O where
 |list (ag:List V)
 |tup (ag:List V)
 |cu (ah:List (Int×V))
 |gD (ah:List (Str×V))
 |inst (ae d:Addr)
 |attrs (ae:Addr)(ah:List (Str×V))
set_option genInjectivity false
abbrev az:=Addr->Option O
def lH:List (Str×V)->List lE->Prop
 |[],[]=>True
 |x::ah,e::dm=>(∃t,e.key=.str x.1 t)/\x.2.is e.val/\lH ah dm
 |_,_=>False
def iT:List (aR×V)->List (aR×a3)->Prop
 |[],[]=>True
 |x::ah,e::dm=>x.1=e.1/\x.2.is e.2/\iT ah dm
 |_,_=>False
structure cz where
 prog:Program
 w:World
 base:Heap
 K:Frag
 os:OsState
structure cz.Ok (c:cz):Prop where
 gE:c.K.In c.base
 lim:c.base.NoLimit
 glob:∃k,c.base.Ns iO k
 blt:∃oX,c.base.Ns oi oX/\∀x:Str,x≠"__name__"->oX x=dS x
 digits:∃b,c.base.Ns cStatics b/\b "sys.int_max_str_digits"=By
 mods:∃o,c.base.get? sysModules=kZ o
noncomputable abbrev cz.M (c:cz):Model:=model c.prog c.w
def mJ (c:cz)(C:Heap)(a:Addr):O->Prop
 |.list aa=>∃ag n,C.get? a=kZ (listOf ag n)/\bV aa ag.toList
 |.tup aa=>∃ag n,C.get? a=kZ {cls:=.type "tuple",data:=.seq ag n}/\bV aa ag.toList
 |.cu ah=>∃U,C.DictOf (intKind c.prog c.w) a U/\iT ah U
 |.gD ah=>∃U,C.DictOf (strKind c.prog c.w) a U/\iT ah U
 |.inst ae d=>C.get? a=kZ (instObj ae d)
 |.attrs ae ah=>(∃dm n,C.get? a=kZ (dictOf dm n)/\lH ah dm)/\∀x∈ah,fS c.K ae x.1=true
variable{c:cz}{C av:Heap}{a:Addr}
theorem mJ.mono {h:O}(x:mJ c C a h)(k:∀b4,C.get? a=kZ b4->av.get? a=kZ b4):mJ c av a h:=by
 cases h with
 |list aa=>obtain⟨ag,n,e,r⟩:=x;exact(e5 ag n (k _ e) r)
 |tup aa=>obtain⟨ag,n,e,r⟩:=x;exact(e5 ag n (k _ e) r)
 |cu ah=>obtain⟨U,⟨h,ah,aR,e,X⟩,r⟩:=x;exact(bb U (i9 h ah aR (k _ e) X) r)
 |gD ah=>obtain⟨U,⟨h,ah,aR,e,X⟩,r⟩:=x;exact(bb U (i9 h ah aR (k _ e) X) r)
 |inst ae d=>exact k _ x
 |attrs ae ah=>obtain⟨⟨dm,n,e,r⟩,z⟩:=x;exact⟨(e5 dm n (k _ e) r),z⟩
theorem mJ.there {h:O}(x:mJ c C a h):∃b4,C.get? a=kZ b4:=by
 cases h with
 |list aa=>obtain⟨ag,n,e,r⟩:=x;exact⟨_,e⟩
 |tup aa=>obtain⟨ag,n,e,r⟩:=x;exact⟨_,e⟩
 |cu ah=>obtain⟨U,⟨h,ah,aR,e,X⟩,r⟩:=x;exact⟨_,e⟩
 |gD ah=>obtain⟨U,⟨h,ah,aR,e,X⟩,r⟩:=x;exact⟨_,e⟩
 |inst ae d=>exact⟨_,x⟩
 |attrs ae ah=>obtain⟨⟨dm,n,e,r⟩,z⟩:=x;exact⟨_,e⟩
structure a9 (c:cz)(I:az)(s:eN):Prop where
 keep:c.base.StaysIn s.heap
 rep:∀a o,I a=kZ o->mJ c s.heap a o
 new:∀a o,I a=kZ o->c.base.get? a=By
 gens:s.gens=#[]
 os:s.os=c.os
variable{I:az}{s:eN}
theorem a9.lt (S:a9 c I s){h:O}(C:I a=kZ h):a<s.heap.objs.size:=by obtain⟨b4,e⟩:=(S.rep a h C).there;exact acg e
theorem a9.zU (S:a9 c I s)(C:s.heap.objs.size<=a):I a=By:=by
 cases e:I a with
 |none=>rfl
 |some o=>exact absurd (S.lt e)<|ep.mpr C
theorem a9.tok (S:a9 c I s)(t:Nat):a9 c I {s with toks:=t}:=⟨S.keep,S.rep,S.new,S.gens,S.os⟩
noncomputable def az.set (I:az)(a:Addr)(o:O):az:=λb=>if b=a then kZ o else I b
theorem az.set_same (I:az)(a:Addr)(o:O):I.set a o a=kZ o:=if_pos rfl
variable{ae:Addr}
theorem az.g5 (I:az)(a:Addr)(o:O)(C:ae≠a):I.set a o ae=I ae:=if_neg C
def ei (I Z:az)(a:Addr)(o:O):Prop:=I a=By/\Z=I.set a o
def Upd (I Z:az)(a:Addr)(o:O):Prop:=Z=I.set a o
structure bG (own:Addr->Prop)(I:az)(s:eN)(Z:az)(ay:eN):Prop where
 em:∀a o,¬ own a->I a=By->s.heap.get? a=kZ o->ay.heap.get? a=kZ o
 live:∀a o,s.heap.get? a=kZ o->∃q,ay.heap.get? a=kZ q
 fresh:∀a o,s.heap.get? a=kZ o->I a=By->Z a=By
abbrev cp:Addr->Prop:=λq=>False
variable{aF:Addr->Prop}
theorem bG.refl:bG aF I s I s:=⟨λq q q q e=>e,λq q e=>⟨_,e⟩,λq q q e=>e⟩
theorem bG.tok (t:Nat):bG aF I s I {s with toks:=t}:=⟨λq q q q e=>e,λq q e=>⟨_,e⟩,λq q q e=>e⟩
variable{au Z:az}{aT ay:eN}
theorem bG.trans (x:bG aF I s au aT)(y:bG aF au aT Z ay):bG aF I s Z ay:= ⟨λa o n e g=>y.em a o n (x.fresh a o g e)<|x.em a o n e g,λa o e=>cO (x.live a o e) λq aW=>y.live a q aW,λa o l e=>cO (x.live a o l) λq aW=>y.fresh a q aW<|x.fresh a o l e⟩
variable{L:Addr->Prop}
theorem bG.weak (x:bG aF I s Z ay)(C:∀a,aF a->L a):bG L I s Z ay:=⟨λa o n e g=>x.em a o (λX=>n<|C a X) e g,x.live,x.fresh⟩
def dF (c:cz)(I:az)(s:eN)(ab:V->az->Prop):a3->eN->Prop:=λv ay=>∃u Z,u.is v/\a9 c Z ay/\bG cp I s Z ay/\ab u Z
variable{ab:V->az->Prop}
theorem dF.trans (x:bG cp I s au aT):∀v ay,dF c au aT ab v ay->dF c I s ab v ay:= λq q A=>cq A λu Z a b d e=>⟨u,Z,a,b,x.trans d,e⟩
structure e9 (W:qJ)(n:Nat):Prop where
 depth:W.depth+2*n+4<=recursionLimit
 units:W.units+20*n+100<=cLine
 handled:W.handled=By
abbrev xr:=List V->(V->az->Prop)->az->Prop
inductive jK where
 |next|brk|cont
 |ret (u:V)
def jK.is:jK->Flow->Prop
 |.next,f=>f=.next
 |.brk,f=>f=.brk
 |.cont,f=>f=.cont
 |.ret u,f=>∃v,f=.ret v/\u.is v
abbrev xU:=List V->(jK->List V->az->Prop)->az->Prop
noncomputable abbrev addrs (af:Env):List Addr:=af.locals::af.cells.map (·.2)
def Own (af:Env)(a:Addr):Prop:=a∈addrs af
structure e1 (c:cz)(af:Env)(sc:ck)(nm:List Str):Prop where
 dc:af.scope=sc
 kind:sc.kind=.function
 kinds:∀x∈nm,sc.names.lookup x=kZ .local\/(sc.names.lookup x=kZ .cell/\(af.cells.lookup x).isSome=true)
 nodup:nm.Nodup
 apart:af.cells.Pairwise fun x y=>x.2≠y.2
 above:∀n k,(n,k)∈af.cells->af.locals≠k
 glob:af.globals=iO
 blt:af.builtins=oi
 new:∀a∈addrs af,c.base.get? a=By
structure cm (af:Env)(nm:List Str)(am:List V)(I:az)(C:Heap):Prop where
 ex:∃m d:Str->Option a3,C.Ns af.locals m/\(∀n k,af.cells.lookup n=kZ k->C.IsCell k (d n))/\
  ∀(i:Nat) (x:Str) (u:V),nm[i]?=kZ x->am[i]?=kZ u->u=.aK\/∃v,(if af.scope.names.lookup x=kZ .local then m x else d x)=kZ v/\u.is v
 len:am.length=nm.length
 off:∀a∈addrs af,I a=By
 cells:∀p∈af.cells,∃o,C.get? p.2=kZ o
variable{af:Env}{nm:List Str}
theorem cm.live (F:cm af nm am I C):∀a∈addrs af,∃o,C.get? a=kZ o:=by
 obtain⟨⟨m,d,aO,_,_⟩,_,_,aU⟩:=F;intro a aE;rcases Q8.mp aE with rfl|aE
 ·obtain⟨o,_,_,e,_⟩:=aO;exact⟨o,e⟩
 ·obtain⟨p,aP,rfl⟩:=yB.mp aE;exact aU p aP
theorem cm.bT (F:cm af nm am I s.heap)(x:bG cp I s Z ay):cm af nm am Z ay.heap:=by
 have aG:=F.live;obtain⟨⟨m,d,aO,aU,aV⟩,an,aw,aj⟩:=F;have f:∀a∈addrs af,∀o,s.heap.get? a=kZ o->ay.heap.get? a=kZ o:=λa aE o e=>x.em a o id (aw a aE) e;refine⟨(dM m d ?_ (λn k e=>?_) aV),an,λa aE=>cO (aG a aE) λo e=>x.fresh a o e<|aw a aE,λp aP=>cO (aj p aP) λo e=>x.live _ o e⟩
 ·refine fg aO λo ah aR e r=>?_;clear aO;exact(i9 o ah aR (f _ (.head _) _ e) r)
 ·exact bg (aU n k e) λo aW r=>(bb o (f k (.tail _<|yB.mpr<|bb ((n,k)) (mem_of_lookup e) rfl) _ aW) r)
def oj (c:cz)(I:az)(s:eN)(ab:Bool->az->Prop):Bool->eN->Prop:=λb ay=>∃Z,a9 c Z ay/\bG cp I s Z ay/\ab b Z
def jO (c:cz)(af:Env)(nm:List Str)(I:az)(s:eN)(ab:jK->List V->az->Prop):Flow->eN->Prop:= λf ay=>∃k B Z,k.is f/\cm af nm B Z ay.heap/\a9 c Z ay/\bG (Own af) I s Z ay/\ab k B Z
abbrev Cs (_:V->az->Prop):Type:=Prop
def nw (c:cz)(n:Nat)(f:V)(args:List V)(ab:V->az->Prop)(I:az):Cs ab:= ∀(W:qJ) (s:eN) (dD:a3) (ag:List a3) (E:a3->eN->Prop),e9 W n->a9 c I s->f.is dD->bV args ag->pn c.M W (call dD ag []) (dF c I s ab) E s
def hj (b:Bool)(W B:Prop):Prop:=Bool.rec B W b
structure jQ where
 r:V->az->Prop
 n:List V->az->Prop
 b:List V->az->Prop
structure KK where
 c:cz
 d:Nat
 j:jQ
abbrev aI:=KK->List V->List V->az->Prop
abbrev a5:=aI->aI
abbrev k1:=aI->aI->aI
abbrev op:=V->V->(V->az->Prop)->az->Prop
abbrev nv:=List V->(V->az->Prop)->az->Prop
abbrev mX (k:KK)(R:aI)(S:List V):jK->List V->az->Prop:=λd am I=>match d with|.next=>R k am S I|.ret u=>k.j.r u I|.brk=>False|.cont=>False
abbrev o7 (k:KK)(R:aI)(am T:List V):V->az->Prop:=λu Z=>R k am (u::T) Z
section
variable(c:cz)(n:Nat)(sc:ck)(nm:List Str)
structure bA (e:Expr)(ae:a5):Prop where
 r:∀(W:qJ) (af:Env) (am:List V) (I:az) (s:eN) (R:aI) (j:jQ) (T:List V) (E:a3->eN->Prop),e9 W n->e1 c af sc nm->cm af nm am I s.heap->a9 c I s->ae R ⟨c,n,j⟩ am T I->
  pn c.M W (eval e af) (dF c I s (o7 ⟨c,n,j⟩ R am T)) E s
abbrev Kg (k:KK)(aH bl:aI)(am T:List V):Bool->az->Prop:=λb Z=>hj b (aH k am T Z)<|bl k am T Z
structure hE (e:Expr)(ae:k1):Prop where
 r:∀(W:qJ) (af:Env) (am:List V) (I:az) (s:eN) (aH bl:aI) (j:jQ) (T:List V) (E:a3->eN->Prop),e9 W n->e1 c af sc nm->cm af nm am I s.heap->a9 c I s->ae aH bl ⟨c,n,j⟩ am T I->
  pn c.M W (isTrue e af (eval e af)) (oj c I s (Kg ⟨c,n,j⟩ aH bl am T)) E s
structure jN (g:qJ->Env->Prop)(st:Stmt)(ae:a5):Prop where
 r:∀(W:qJ) (af:Env) (am:List V) (I:az) (s:eN) (R:aI) (j:jQ) (E:a3->eN->Prop),e9 W n->g W af->e1 c af sc nm->cm af nm am I s.heap->a9 c I s->ae R ⟨c,n,j⟩ am [] I->
  pn c.M W (exec st af) (jO c af nm I s (mX ⟨c,n,j⟩ R [])) E s
structure k3 (g:qJ->Env->Prop)(st:List Stmt)(ae:a5):Prop where
 r:∀(W:qJ) (af:Env) (am:List V) (I:az) (s:eN) (R:aI) (j:jQ) (E:a3->eN->Prop),e9 W n->g W af->e1 c af sc nm->cm af nm am I s.heap->a9 c I s->ae R ⟨c,n,j⟩ am [] I->
  pn c.M W (execs st af) (jO c af nm I s (mX ⟨c,n,j⟩ R [])) E s
abbrev IS:qJ->Env->Prop:=λq q=>True
abbrev fh:=jN c n sc nm IS
abbrev FB:=k3 c n sc nm IS
end
set_option genInjectivity false
variable{u:V}{v:a3}
theorem jE (a:u.is v)(S:a9 c Z ay)(x:bG cp I s Z ay)(X:ab u Z):dF c I s ab v ay:=(gA u Z a S x X)
variable{ku:Tok}
theorem gn (S:a9 c Z ay)(x:bG cp I s Z ay)(X:ab (.int pt) Z):dF c I s ab (.int pt ku) ay:=(gA (.int pt) Z ⟨ku,rfl⟩ S x X)
variable{w:Str}
theorem ig (S:a9 c Z ay)(x:bG cp I s Z ay)(X:ab (.str w) Z):dF c I s ab (.str w ku) ay:=(gA (.str w) Z ⟨ku,rfl⟩ S x X)
theorem wH (S:a9 c Z ay)(x:bG cp I s Z ay)(X:ab .none Z):dF c I s ab .none ay:=(gA .none Z rfl S x X)
variable{cD:Bool}
theorem fD (S:a9 c Z ay)(x:bG cp I s Z ay)(X:ab (.bool cD) Z):dF c I s ab (.bool cD) ay:=(gA (.bool cD) Z rfl S x X)
theorem lC (S:a9 c Z ay)(x:bG cp I s Z ay)(X:ab (.ref a) Z):dF c I s ab (.ref a) ay:=(gA (.ref a) Z rfl S x X)
theorem aaa (S:a9 c Z ay)(x:bG cp I s Z ay)(X:ab (.ext v) Z):dF c I s ab v ay:=(gA (.ext v) Z rfl S x X)
variable{aq:ck}
theorem md (ax:af.scope=aq)(x:Str):af.kindOf x=aq.names.lookup x:=by refine a6 ax ?_;rfl
def gC (u:V)(P:Addr->Prop):Prop:=match u with|.ref a=>P a|_=>False
def hh (u:V)(P:Int->Prop):Prop:=match u with|.int a=>P a|_=>False
def abY (u:V)(P:Bool->Prop):Prop:=match u with|.bool a=>P a|_=>False
noncomputable def fX:List V->Nat->V
 |[],_=> .aK
 |u::_,0=>u
 |_::aa,e+1=>fX aa e
abbrev hi (u:V)(P:Addr->Prop):Prop:=match u with|.ref a=>P a|_=>False
abbrev uE (u:V)(P:Int->Prop):Prop:=match u with|.int a=>P a|_=>False
abbrev sx (u:V)(P:Bool->Prop):Prop:=match u with|.bool a=>P a|_=>False
abbrev rx (u:V)(P:Prop):Prop:=match u with|.aK=>False|.none=>P|.bool _=>P|.int _=>P|.str _=>P|.ref _=>P|.ext _=>P
abbrev dq (S:List V)(P:V->List V->Prop):Prop:=match S with|u::S=>P u S|[]=>False
abbrev qf (S:List V)(P:V->V->List V->Prop):Prop:=dq S λb S=>dq S λa S=>P b a S
def eL:Nat->List V->List V->(List V->List V->Prop)->Prop
 |0,aa,S,P=>P aa S
 |m+1,aa,S,P=>dq S λu S=>eL m (u::aa) S P
abbrev hX:=List V->(List V->List V->Prop)->Prop
abbrev nY:hX:=λS P=>P [] S
abbrev dh:hX:=λS P=>dq S λa S=>P [a] S
abbrev dB:hX:=λS P=>dq S λb S=>dq S λa S=>P [a,b] S
abbrev gv:hX:=λS P=>dq S λc S=>dq S λb S=>dq S λa S=>P [a,b,c] S
abbrev iG:hX:=λS P=>dq S λd S=>dq S λc S=>dq S λb S=>dq S λa S=>P [a,b,c,d] S
abbrev wh:hX:=λS P=>dq S λe S=>dq S λd S=>dq S λc S=>dq S λb S=>dq S λa S=>P [a,b,c,d,e] S
abbrev o6:hX:=λS P=>dq S λf S=>dq S λe S=>dq S λd S=>dq S λc S=>dq S λb S=>dq S λa S=>P [a,b,c,d,e,f] S
abbrev qg (b:Bool)(S:List V)(P:Option Int->List V->Prop):Prop:=match b with|true=>dq S λu S=>uE u λi=>P (kZ i) S|false=>P By S
abbrev fm:aI:=λq q q q=>False
abbrev bD (i:Nat)(R:aI):aI:=λk am S I=>rx (fX am i)<|R k am (fX am i::S) I
abbrev aM (u:V)(R:aI):aI:=λk am S I=>R k am (u::S) I
abbrev bt (aq:op)(R:aI):aI:=λk am S I=>qf S λb a S=>aq a b (λu Z=>R k am (u::S) Z) I
abbrev bf:aI:=λk am S I=>dq S λu S=>k.j.r u I
abbrev s9:aI:=λk am S I=>k.j.r .none I
abbrev bv:aI:=λk am S I=>k.j.n am I
abbrev i3:aI:=λk am S I=>k.j.b am I
theorem eP (C:hi u aF):∃a,u=.ref a/\aF a:=by cases u<;>first|exact(bb _ rfl C)|exact C.elim
theorem h1 {a4:Int->Prop}(C:uE u a4):∃a,u=.int a/\a4 a:=by cases u<;>first|exact(bb _ rfl C)|exact C.elim
theorem pB {T:Bool->Prop}(C:sx u T):∃a,u=.bool a/\T a:=by cases u<;>first|exact(bb _ rfl C)|exact C.elim
theorem z0 (C:rx u G):(u=.aK->False)/\G:=by cases u<;>first|exact⟨(λX=>by cases X),C⟩|exact C.elim
theorem WH (C:u=.aK->False)(p:G):rx u G:=by cases u<;>first|exact p|exact(C rfl).elim
theorem WG:∀{aa:List V} {i:Nat},(fX aa i=.aK->False)->aa[i]?=kZ (fX aa i):=by
 intro h;induction h with
 |nil=>intro s C;exact(C rfl).elim
 |cons e aa D=>
  intro f;cases f with
  |zero=>intro s;exact rfl
  |succ n=>intro C;exact D C
theorem Gl [Decidable G]:hj (decide G) al B=((G->al)/\(¬ G->B)):=by
 by_cases C:G
 ·refine J (decide_eq_true C) ?_;exact propext ⟨λa=>⟨λq=>a,λX=>(X C).elim⟩,λX=>X.1 C⟩
 ·refine J (decide_eq_false C) ?_;exact propext ⟨λa=>⟨λX=>(C X).elim,λq=>a⟩,λX=>X.2 C⟩
theorem Qk:hj (!cD) G B=hj cD B G:=by cases cD<;>rfl
theorem Qj [Decidable G]:hj (!decide G) al B=((¬ G->al)/\(G->B)):=by refine J Qk<|J Gl ?_;exact propext ⟨λX=>⟨X.2,X.1⟩,λX=>⟨X.2,X.1⟩⟩
theorem Qm (C:cD=true->G)(av:cD=false->B):hj cD G B:=by cases cD with|true=>exact C rfl|false=>exact av rfl
variable{pos:Pos}
theorem GV (i:Nat)(aL:nm[i]?=kZ w)(hd:(w==("__debug__":Str))=false):bA c b aq nm (.Name w pos) (bD i):=by
 refine⟨λW af am I s R j T E L h F S ad=>?_⟩;intros a8;obtain⟨bg,ad⟩:=z0 ad;obtain⟨u,aQ⟩:∃u,u=fX am i:=⟨_,rfl⟩;have aQ:=WG bg;generalize fX am i=u at aQ bg ad;have fh:=h;refine bP λbz aN=>?_;obtain⟨dc,ap,U,-,-,-,-,-,-⟩:=h;have ai:=F;obtain⟨⟨m,d,aO,aU,aV⟩,-,-,-⟩:=F;refine aN ?_;have a:w∈nm:=jI aL;refine wpAny_Name ?_ hd;rcases aV i w u aL aQ with rfl|⟨v,hm,f⟩
 ·exact(bg rfl).elim
 rw[dc] at hm;have n:af.scope.kind=.function:=by refine J dc ?_;exact ap
 rcases U w a with an|⟨an,t⟩
 ·rw[if_pos an] at hm;exact wpAny_loadName_local n (by refine J (md dc _) ?_;exact an) aO hm<|jE f S .refl ad
 ·have aX:¬ (aq.names.lookup w=kZ .local):=by refine J an ?_;exact λe=>by cases e
  rw[if_neg aX] at hm;obtain⟨k,g⟩:=Ci.mp t;exact wpAny_loadName_cell n (by refine J (md dc _) ?_;exact an) g (hm▸aU w k g)<|jE f S .refl ad
theorem Zi (aU:c.Ok)(bt:nsIn c.K iO w=kZ (kZ v))(aQ:u.is v)(Q:aq.names.lookup w=kZ .globalImplicit)(hd:(w==("__debug__":Str))=false): bA c e aq nm (.Name w pos) (aM u):=by
 refine⟨λW af am I s R j T E L h F S ad=>?_⟩;refine bP λbz aN=>?_;obtain⟨dc,ap,-,-,-,-,l,-,-⟩:=h;obtain⟨k,i⟩:=aU.glob;refine aN ?_;have n:af.scope.kind=.function:=by refine J dc ?_;exact ap
 refine Name_function_global n (by refine J (md dc _) ?_;exact Q) (loadGlobal_global (mg:=k) (v:=v) ?_ (mg_of aU.gE i bt)<|jE aQ S .refl ad) hd;refine J l ?_;exact i.keeps S.keep
theorem Zg (aU:c.Ok)(bt:nsIn c.K iO w=kZ By)(aV:dS w=kZ v)(aO:w≠"__name__")(Q:aq.names.lookup w=kZ .globalImplicit)(hd:(w==("__debug__":Str))=false): bA c e aq nm (.Name w pos) (aM<|.ext v):=by
 refine⟨λW af am I s R j T E L h F S ad=>?_⟩;refine bP λbz aN=>?_;obtain⟨dc,ap,-,-,-,-,l,B,-⟩:=h;obtain⟨k,i⟩:=aU.glob;refine bg (aU.blt) λoX a aA=>aN ?_;have n:af.scope.kind=.function:=by refine J dc ?_;exact ap
 refine Name_function_global n (by refine J (md dc _) ?_;exact Q) (loadGlobal_builtin (mg:=k) (mb:=oX) (v:=v) ?_ (mg_none_of aU.gE i bt) ?_ ((aA w aO).trans aV)<|aaa S .refl ad) hd
 ·refine J l ?_;exact i.keeps S.keep
 ·refine J B ?_;exact a.keeps S.keep
theorem JZ:bA c b aq nm (.Constant (.int pt) e pos) (aM<|.int pt):=⟨λq q q q q q q q q q q q S ad=>wpAny_Constant_int<|gn (S.tok _) (.tok _) ad⟩
theorem Zk:bA c b aq nm (.Constant .none e pos) (aM .none):=⟨λq q q q q q q q q q q q S ad=>wpAny_Constant_none<|wH S .refl ad⟩
theorem Zh:bA c i aq nm (.Constant (.bool cD) e pos) (aM<|.bool cD):=⟨λq q q q q q q q q q q q S ad=>wpAny_Constant_bool<|fD S .refl ad⟩
theorem Zl:bA c b aq nm (.Constant (.str w) e pos) (aM<|.str w):=⟨λq q q q q q q q q q q q S ad=>wpAny_Constant_str<|ig (S.tok _) (.tok _) ad⟩
def fQ (c:cz)(n:Nat)(f:a3->a3->Sem a3)(aq:V->V->(V->az->Prop)->az->Prop):Prop:= ∀(W:qJ) (I:az) (s:eN) (ab:V->az->Prop) (E:a3->eN->Prop) (a b:V) (aG ah:a3),e9 W n->a9 c I s->a.is aG->b.is ah->aq a b ab I->pn c.M W (f aG ah) (dF c I s ab) E s
variable{E:a3->eN->Prop}{Cl iP:a5}{bo:qJ}{k9:aI}{k0:jQ}{mt:a3->a3->Sem a3}{jU:op}{aC aP:Expr}
theorem two (hf:fQ c i mt jU)(an:bA c i aq nm aC Cl)(aB:bA c i aq nm aP iP)(L:e9 bo i)(h:e1 c af aq nm)(F:cm af nm am I s.heap)(S:a9 c I s)(ad:Cl (iP<|bt jU k9) ⟨c,i,k0⟩ am aa I): pn c.M bo (eval aC af) (λa aT=>pn c.M bo (eval aP af) (λb H=>pn c.M bo (mt a b) (dF c I s<|o7 ⟨c,i,k0⟩ k9 am aa) E H) E aT) E s:=by refine po (an.r bo af am I s _ _ _ E L h F S ad) (λaG aT A=>cq A λa au aE a0 U aI=>?_) λq q e=>e;have ba:=F.bT U;refine po (aB.r bo af am au aT _ _ _ E L h ba a0 aI) (λah H A=>cq A λb aS aA ak aR bd=>?_) λq q e=>e;exact po (hf bo aS H _ E a b aG ah L ak aE aA bd) (dF.trans<|U.trans aR) λq q e=>e
theorem RG {a:Operator}(hf:fQ c e (abU a) jU)(an:bA c e aq nm aC Cl)(aB:bA c e aq nm aP iP):bA c e aq nm (.BinOp aC a aP pos) λR=>Cl (iP<|bt jU R):= ⟨λq q q q q q q q q L h F S ad=>wpAny_BinOp<|two hf an aB L h F S ad⟩
variable{ar:CmpOp}
theorem RJ (hf:fQ c e (Cj ar) jU)(an:bA c e aq nm aC Cl)(aB:bA c e aq nm aP iP)(hm:ha ar aP=false):bA c e aq nm (.Compare aC [ar] [aP] pos) λR=>Cl (iP<|bt jU R):= ⟨λq q q q q q q q q L h F S ad=>wpAny_Compare1 (two hf an aB L h F S ad) hm⟩
set_option tactic.hygienic true
theorem a9.own {t:Nat}(S:a9 c I s)(ax:L8 a s.heap av)(aw:I a=By)(aA:c.base.get? a=By):a9 c I {s with heap:=av,toks:=t}:=by
 refine⟨λb o e=>?_,λb o e=>?_,S.new,S.gens,S.os⟩
 ·have aX:b≠a:=λX=>by replace e:=aA▸X▸e;exact bY e
  exact(ax.2 b aX).trans<|S.keep b o e
 ·have aX:b≠a:=λX=>by replace e:=aw▸X▸e;exact bY e
  exact(S.rep b o e).mono λb4 X=>(ax.2 b aX).trans X
theorem bG.own {t:Nat}(ax:L8 a s.heap av)(aw:aF a)(an:∃o,av.get? a=kZ o):bG aF I s I {s with heap:=av,toks:=t}:= ⟨λb o aZ _ g=>(ax.2 b λX=>aZ<|X▸aw).trans g,λb o e=>by
  by_cases X:b=a
  ·refine J X ?_;exact an
  ·exact⟨o,(ax.2 b X).trans e⟩,λ_ _ _ e=>e⟩
variable{aw:List aR}{aN h2:aR}
theorem JR (C:(aw.set i aN)[j]?=kZ h2):(j=i/\h2=aN)\/(j≠i/\aw[j]?=kZ h2):=by
 by_cases e:j=i
 ·subst e;left;replace C:=eZ▸C;simp at C;exact⟨rfl,C.2.symm⟩
 ·right;replace C:=(ab7<|us e)▸C;exact⟨e,C⟩
variable{name:Str}{fc:Unit->eN->Prop}
theorem wu (h:e1 c af aq nm)(F:cm af nm am I s.heap)(S:a9 c I s)(aL:nm[i]?=kZ name)(aQ:u.is v) (C:∀ay,cm af nm (am.set i u) I ay.heap->a9 c I ay->bG (Own af) I s I ay->fc () ay):pn c.M bo (storeName af name v) fc E s:=by
 have fh:=h;obtain⟨dc,ap,U,A,L,K,l,B,Q⟩:=h;have ai:=F;obtain⟨⟨m,d,aO,aU,aV⟩,bF,G,D⟩:=F;have a:name∈nm:=jI aL;have n:af.scope.kind=.function:=by refine J dc ?_;exact ap
 have H:∀j y,nm[j]?=kZ y->j≠i->y≠name:=λj y bi aX e=>by subst e;exact aX<|(ut (xn.mp bi).1 A).mp<|bi.trans aL.symm
 have same:∀j y,nm[j]?=kZ y->j=i->y=name:=λj y bi e=>by subst e;replace bi:=aL▸bi;exact(kZ.inj bi).symm
 rcases U name a with an|⟨an,t⟩
 ·refine wpAny_storeName_local (by refine J (md dc _) ?_;exact an) aO (λav T ax=>?_) (by show(af.scope.kind==.class||(af.scope.kind==.module&&_))=false;refine J n ?_;rfl);refine fw ?_;intro O;refine C _ ⟨(dM _ d T (λz k e=>?_) λj y w bi a1=>?_),by refine J acj ?_;exact bF,G,λp aP=>cO (D p aP) λo e=>⟨o,(ax.2 _ λX=>K p.1 p.2 aP X.symm).trans e⟩⟩ (S.own ax (G _<|.head _)<|Q _<|.head _) (.own ax (.head _)<|fg T λo _ _ e _=>⟨o,e⟩)
  ·have aX:k≠af.locals:=λX=>K z k (mem_of_lookup e) X.symm;exact(aU z k e).sameBut ax aX
  ·refine fw ?_;intro r;rcases JR a1 with⟨rfl,rfl⟩|⟨aX,a1⟩
   ·right;obtain rfl:=same _ _ bi rfl;refine bb v ?_ aQ;refine J dc<|J (if_pos an) ?_;simp
   ·rcases aV j y w bi a1 with e|aM
    ·exact .inl e
    ·refine bg aM λb e z=>?_;clear aM;refine .inr<|bb b ?_ z;have:=H j y bi aX;split at e
     ·rename_i X;refine J (if_pos X) ?_;simp[this,e]
     ·rename_i X;refine J (if_neg X) ?_;exact e
 ·obtain⟨k,g⟩:=Ci.mp t;have x:(name,k)∈af.cells:=mem_of_lookup g;have f:k∈addrs af:=.tail _<|yB.mpr<|bb _ x rfl;refine wpAny_storeName_cell n (by refine J (md dc _) ?_;exact an) g (aU name k g) λav aF ax=>?_;refine fw ?_;intro P;have N:af.locals≠k:=K name k x;refine C _ ⟨(dM m (λy=>if y=name then kZ v else d y) (aO.sameBut ax N) (λz aN e=>?_) λj y w bi a1=>?_),by refine J acj ?_;exact bF,G,λp aP=>by
   by_cases X:p.2=k
   ·obtain⟨o,e,_⟩:=aF;exact⟨o,X▸e⟩
   ·obtain⟨o,e⟩:=D p aP;exact⟨o,(ax.2 _ X).trans e⟩⟩
   (S.own ax (G _ f)<|Q _ f) (.own ax f<|bg aF λo e _=>⟨o,e⟩)
  ·by_cases aj:z=name
   ·clear aL a t;subst aj;replace e:=g▸e;cases e;simpa using aF
   ·have aX:aN≠k:=λX=>aj<|name_of_addr L (mem_of_lookup e)<|X▸x;simpa[aj] using(aU z aN e).sameBut ax aX
  ·refine fw ?_;intro R;have q:¬ (af.scope.names.lookup name=kZ .local):=by refine J dc<|J an ?_;exact λe=>by cases e
   rcases JR a1 with⟨rfl,rfl⟩|⟨aX,a1⟩
   ·right;obtain rfl:=same _ _ bi rfl;refine bb v ?_ aQ;refine J (if_neg q) ?_;simp
   ·rcases aV j y w bi a1 with e|aM
    ·exact .inl e
    ·refine bg aM λb e z=>?_;clear aM;refine .inr<|bb b ?_ z;have:=H j y bi aX;split at e
     ·rename_i X;refine J (if_pos X) ?_;exact e
     ·rename_i X;refine J (if_neg X) ?_;simp[this,e]
theorem bG.hT (x:bG cp I s Z ay):bG (Own af) I s Z ay:=x.weak λ_ X=>X.elim
variable{dk:jK->List V->az->Prop}{ob:Flow}
theorem iv {k:jK}(a:k.is ob)(F:cm af nm aa Z ay.heap)(S:a9 c Z ay)(x:bG (Own af) I s Z ay)(X:dk k aa Z):jO c af nm I s dk ob ay:=(qr k aa Z a F S x X)
theorem jO.trans (x:bG (Own af) I s au aT):∀f ay,jO c af nm au aT dk f ay->jO c af nm I s dk f ay:= λ_ _ A=>mh A λk B Z a F S y X=>(qr k B Z a F S (x.trans y) X)
abbrev b3 (i:Nat)(R:aI):aI:=λk am S I=>dq S λu S=>R k (am.set i u) S I
abbrev b0 (R:aI):aI:=λk am S I=>dq S λu S=>R k am S I
variable{kx:qJ->Env->Prop}
theorem Rx:k3 c e aq nm kx [] λR=>R:=⟨λq q q q q q q q q q q F S ad=>mA<|iv (k:=.next) rfl F S .refl ad⟩
variable{aZ:a5}{body:List Stmt}{jY:Stmt}
theorem Rw {c8:a5}(C:jN c i aq nm kx jY aZ)(av:k3 c i aq nm kx body c8):k3 c i aq nm kx (jY::body) λR=>aZ (c8 R):=by
 refine⟨λW af am I s R j E L bt h F S ad=>?_⟩;refine lF<|po (C.r W af am I s _ _ E L bt h F S ad) (λf aT A=>mh A λk aR au a ba a0 U l=>?_) λ_ _ e=>e;cases k with
 |next=>refine J a ?_;exact po (av.r W af aR au aT R j E L bt h ba a0 l) (jO.trans U) λ_ _ e=>e
 |brk=>exact l.elim
 |cont=>exact l.elim
 |ret u=>obtain⟨v,rfl,aV⟩:=a;exact iv (k:=.ret u) (bb v rfl aV) ba a0 U l
variable{cy:a5}{gj:k1}{lc:List Stmt}
theorem yG (bu:hE c i aq nm aC gj)(aA:k3 c i aq nm kx body aZ)(aw:k3 c i aq nm kx lc cy):jN c i aq nm kx (.If aC body lc pos) λR=>gj (aZ R) (cy R):=by
 refine⟨λW af am I s R j E L bt h F S ad=>?_⟩;refine wpAny_If<|po (bu.r W af am I s _ _ _ _ E L h F S ad) (λv aT A=>eK A λau a0 U aI=>?_) λ_ _ e=>e;clear A;cases v with
 |true=>refine J (if_pos rfl) ?_;exact po (aA.r W af am au aT R j E L bt h (F.bT U) a0 aI) (jO.trans U.hT) λ_ _ e=>e
 |false=>refine J (if_neg<|by decide) ?_;exact po (aw.r W af am au aT R j E L bt h (F.bT U) a0 aI) (jO.trans U.hT) λ_ _ e=>e
theorem jX:fh c e aq nm jY λq=>fm:=⟨λq q q q q q q q q q q q q ad=>ad.elim⟩
theorem hn:bA c b aq nm aC λq=>fm:=⟨λq q q q q q q q q q q q q ad=>ad.elim⟩
theorem pR:hE c b aq nm aC λq q=>fm:=⟨λq q q q q q q q q q q q q q ad=>ad.elim⟩
theorem Su (C:bA c b aq nm aC cy):fh c b aq nm (.Return (kZ aC) pos) λq=>cy bf:= ⟨λW af am I s R j E L q h F S ad=>wpAny_Return_some<|po (C.r W af am I s _ _ _ E L h F S ad) (λv aT A=>cq A λu au aQ a0 U aI=>iv (k:=.ret u) (bb v rfl aQ) (F.bT U) a0 U.hT aI) λ_ _ aC=>aC⟩
theorem Sv:fh c e aq nm (.Return By pos) λq=>s9:=⟨λq q q q q q q q q q q F S ad=>wpAny_Return_none<|iv (k:=.ret .none) (bb _ rfl rfl) F S .refl ad⟩
theorem Sq (C:bA c b aq nm aC cy)(ax:∀af,nr aC By pos.line af=pure false):fh c b aq nm (.Expr aC pos) λR=>cy (b0 R):=by
 refine⟨λW af am I s R j E L q h F S ad=>?_⟩;have aL:interactive af=false:=by obtain⟨dc,ap,-,-,-,-,-,-,-⟩:=h;unfold interactive;refine J dc<|J ap ?_;rfl
 refine J (exec_Expr af aC pos aL<|ax af)<|sg<|nt<|sg<|po (C.r W af am I s _ _ [] E L h F S ad) (λv aT A=>cq A λu au aQ a0 U aI=>?_) λ_ _ aC=>aC;exact wpAny_dropValue<|iv (k:=.next) rfl (F.bT U) a0 U.hT aI
set_option tactic.hygienic false
variable{ad:Bool->az->Prop}
theorem nD (S:a9 c Z ay)(x:bG cp I s Z ay)(X:ad cD Z):oj c I s ad cD ay:=(c7 Z S x X)
theorem oj.trans (x:bG cp I s au aT):∀v ay,oj c au aT ad v ay->oj c I s ad v ay:= λq q A=>eK A λZ b d e=>(c7 Z b (x.trans d) e)
abbrev a8 (W B:aI):aI:=λk am S I=>dq S λu S=>sx u λt=>hj t (W k am S I)<|B k am S I
abbrev vB (aq:op)(W B:aI):aI:=λk am S I=>qf S λm l S=>aq l m (λu Z=>sx u λt=>hj t (W k am (m::S) Z)<|B k am S Z) I
theorem Hb (C:bA c i aq nm aC cy)(he:∀af a,isTrue aC af a=(do let v<-a;ach aC.pos;io [v]<|truthy v)):hE c i aq nm aC λW B=>cy (a8 W B):=by refine⟨λW af am I s aH bl j T E L h F S ad=>?_⟩;refine wpAny_isTrue_value (po (C.r W af am I s _ _ _ E L h F S ad) (λv aT A=>cq A λu au aQ a0 U m=>?_) λq q aC=>aC)<|he _ _;refine bg (pB m) λb p aI=>?_;clear m;subst p;exact J aQ<|cK<|nD a0 U aI
theorem SG (hf:fQ c i (Cj ar) jU)(an:bA c i aq nm aC Cl)(aB:bA c i aq nm aP iP)(hm:ha ar aP=false):hE c i aq nm (.Compare aC [ar] [aP] pos) λW B=>Cl (iP<|bt jU<|a8 W B):=by refine⟨λW af am I s aH bl j T E L h F S ad=>?_⟩;refine wpAny_isTrue_Compare1 (po (two hf an aB L h F S ad) (λaG aT z=>?_) λq q e=>e) hm;refine po z (λah H z=>?_) λq q e=>e;refine po z (λv aO A=>cq A λu au aQ a0 U m=>?_) λq q e=>e;refine bg (pB m) λb p aI=>?_;clear m;subst p;exact J aQ<|cK<|nD a0 U aI
theorem Ql (C:hj cD G B):hj (!cD) B G:=by cases cD<;>exact C
theorem SH (C:hE c i aq nm aC gj):hE c i aq nm (.UnaryOp .Not aC pos) λW B=>gj B W:= ⟨λW af am I s aH bl j T E L h F S ad=>wpAny_isTrue_Not<|po (C.r W af am I s _ _ _ _ E L h F S ad) (λb aT A=>eK A λau a0 U aI=>nD a0 U<|Ql aI) λq q aC=>aC⟩
structure om (c:cz)(n:Nat)(sc:ck)(nm:List Str)(ar:BoolOp)(ah:List Expr)(ae:k1):Prop where
 r:∀(W:qJ) (af:Env) (am:List V) (I:az) (s:eN) (aH bl:aI) (j:jQ) (T:List V) (E:a3->eN->Prop),e9 W n->e1 c af sc nm->cm af nm am I s.heap->a9 c I s->ae aH bl ⟨c,n,j⟩ am T I->
  pn c.M W (allTrue ar ah af) (oj c I s (Kg ⟨c,n,j⟩ aH bl am T)) E s
theorem R7:om c e aq nm .And [] λW B=>W:=⟨λq q q q q q q q q q q q q S ad=>wpAny_allTrue_And_nil<|nD S .refl ad⟩
theorem R9:om c e aq nm .Or [] λW B=>B:=⟨λq q q q q q q q q q q q q S ad=>wpAny_allTrue_Or_nil<|nD S .refl ad⟩
variable{ah:List Expr}
theorem R6 {k2:k1}(C:hE c i aq nm aC k2)(av:om c i aq nm .And ah gj):om c i aq nm .And (aC::ah) λW B=>k2 (gj W B) B:=by
 refine⟨λW af am I s aH bl j T E L h F S ad=>?_⟩;refine wpAny_allTrue_And_cons<|po (C.r W af am I s _ _ _ _ E L h F S ad) (λb aT A=>eK A λau a0 U aI=>?_) λq q aC=>aC;clear A;cases b with
 |true=>refine J (if_pos rfl) ?_;exact po (av.r W af am au aT _ _ _ _ E L h (F.bT U) a0 aI) (oj.trans U) λq q aC=>aC
 |false=>refine J (if_neg<|by decide) ?_;exact nD a0 U aI
theorem R8 {k2:k1}(C:hE c i aq nm aC k2)(av:om c i aq nm .Or ah gj):om c i aq nm .Or (aC::ah) λW B=>k2 W (gj W B):=by
 refine⟨λW af am I s aH bl j T E L h F S ad=>?_⟩;refine wpAny_allTrue_Or_cons<|po (C.r W af am I s _ _ _ _ E L h F S ad) (λb aT A=>eK A λau a0 U aI=>?_) λq q aC=>aC;clear A;cases b with
 |true=>refine J (if_pos rfl) ?_;exact nD a0 U aI
 |false=>refine J (if_neg<|by decide) ?_;exact po (av.r W af am au aT _ _ _ _ E L h (F.bT U) a0 aI) (oj.trans U) λq q aC=>aC
variable{nO:BoolOp}
theorem SE (C:om c e aq nm nO ah gj):hE c e aq nm (.BoolOp nO ah pos) gj:= ⟨λW af am I s aH bl j T E L h F S ad=>wpAny_isTrue_BoolOp<|C.r W af am I s _ _ _ _ E L h F S ad⟩
variable{bW:Expr}
theorem SF {l:op}{k:CmpOp}(hf:fQ c i (Cj ar) l)(f:fQ c i (Cj k) jU)(an:bA c i aq nm aC Cl)(hm:bA c i aq nm aP aZ)(aB:bA c i aq nm bW iP)(ap:lastMarks [ar,k] [aP,bW]=false):
 hE c i aq nm (.Compare aC [ar,k] [aP,bW] pos) λW B=>Cl (aZ<|vB l (iP<|bt jU<|a8 W B) B):=by
 refine⟨λW af am I s aH bl j T E L h F S ad=>?_⟩
 intros bs;refine isTrue_chain (po (an.r W af am I s _ _ _ E L h F S ad) (λaG aT A=>cq A λa au aE a0 U aI=>?_) λq q e=>e) ap
 have ba:=F.bT U
 refine test_link<|po (hm.r W af am au aT _ _ _ E L h ba a0 aI) (λah H A=>cq A λb aS aA ak aR bd=>?_) λq q e=>e
 intros bc;have g:=ba.bT aR
 refine po (hf W aS H _ E a b aG ah L ak aE aA bd) (λv aO A=>cq A λu aM aQ a2 bj n=>?_) λq q e=>e
 refine bg (pB n) λt w bn=>?_
 clear n;subst w
 refine J aQ<|cK ?_
 cases t with
 |false=>refine J (if_neg<|by decide) ?_;exact nD a2 ((U.trans aR).trans bj) bn
 |true=>refine J (if_pos rfl)<|test_last<|po (aB.r W af am aM aO _ _ _ E L h (g.bT bj) a2 bn) (λb2 aY A=>cq A λd ay hd be bf a3=>?_) λq q e=>e;refine po (f W ay aY _ E b d ah b2 L be aA hd a3) (λv ao A=>cq A λu bh aQ bi bD m=>?_) λq q e=>e;refine bg (pB m) λt x bE=>?_;clear m;subst x;exact J aQ<|cK<|nD bi ((((U.trans aR).trans bj).trans bf).trans bD) bE
theorem RQ (bu:hE c b aq nm aC gj)(aA:bA c b aq nm aP cy)(aw:bA c b aq nm bW aZ):bA c b aq nm (.IfExp aC aP bW pos) λR=>gj (cy R) (aZ R):=by
 refine⟨λW af am I s R j T E L h F S ad=>?_⟩;refine wpAny_IfExp<|po (bu.r W af am I s _ _ _ _ E L h F S ad) (λv aT A=>eK A λau a0 U aI=>?_) λq q e=>e;clear A;cases v with
 |true=>refine J (if_pos rfl) ?_;exact po (aA.r W af am au aT _ _ _ E L h (F.bT U) a0 aI) (dF.trans U) λq q e=>e
 |false=>refine J (if_neg<|by decide) ?_;exact po (aw.r W af am au aT _ _ _ E L h (F.bT U) a0 aI) (dF.trans U) λq q e=>e
theorem RD (C:bA c e aq nm aC aZ):bA c e aq nm (.BoolOp .And [aC] pos) aZ:=⟨C.r⟩
variable{f2:a3->eN->Prop}
theorem aai (C:pn c.M bo (eval aC af) (λv aT=>pn c.M bo (truthy v) (λt H=>if t then pn c.M bo (eval (.BoolOp .And (aP::ah) pos) af) f2 E H else f2 v H) E aT) E s):pn c.M bo (eval (.BoolOp .And (aC::aP::ah) pos) af) f2 E s:=by
 refine(?_:pn c.M bo (do
  let v<-eval aC af;ach pos;let t<-io [v] (truthy v);match BoolOp.And,t with
  |.And,false|.Or,true=>pure v
  |_,_=>eval (.BoolOp .And (aP::ah) pos) af) f2 E s)
 refine sg<|po C (λv aT aI=>sg<|nt<|sg<|pp<|po aI (λt H bd=>?_) λq q aC=>aC) λq q aC=>aC;cases t with
 |false=>exact mB bd
 |true=>exact bd
theorem RE (C:bA c i aq nm aC cy)(av:bA c i aq nm (.BoolOp .And (aP::ah) pos) aZ):bA c i aq nm (.BoolOp .And (aC::aP::ah) pos) λR=>cy (a8 (aZ R)<|aM (.bool false) R):=by
 refine⟨λW af am I s R j T E L h F S ad=>?_⟩;refine aai<|po (C.r W af am I s _ _ _ E L h F S ad) (λv aT A=>cq A λu au aQ a0 U m=>?_) λq q e=>e;refine bg (pB m) λb p aI=>?_;clear m;subst p;refine J aQ<|cK ?_;cases b with
 |true=>refine J (if_pos rfl) ?_;exact po (av.r W af am au aT _ _ _ E L h (F.bT U) a0 aI) (dF.trans U) λq q e=>e
 |false=>refine J (if_neg<|by decide) ?_;exact fD a0 U aI
noncomputable abbrev A0 (k:KK)(P:List V->az->Prop)(R:aI)(S:List V):KK:=⟨k.c,k.d,k.j.r,P,λam I=>R k am S I⟩
def xw (k:KK)(B R:aI)(S:List V)(am:List V)(I:az):Prop:=∃(a4:Nat->List V->az->Prop) (m:Nat),a4 m am I/\∀m am I,a4 m am I->B (A0 k (λam I=>∃j,j<m/\a4 j am I) R S) am [] I
abbrev nQ (B R:aI):aI:=λk am S I=>xw k B R S am I
theorem SD (bu:hE c i aq nm aC gj)(aA:FB c i aq nm body aZ):fh c i aq nm (.While aC body [] pos) (nQ<|gj (aZ bv) i3):=by
 refine⟨λW af am I s R j E L bt h F S ad=>dw ad λa4 k bk an=>?_⟩;intros a8;refine wpAny_While<|codeAny_whileLoop (λk ay=>∃B Z,cm af nm B Z ay.heap/\a9 c Z ay/\bG (Own af) I s Z ay/\a4 k B Z) ?_ k ⟨am,I,F,S,.refl,bk⟩;intro k ay aM;refine cq aM λB Z ai ar O bs=>?_;clear aM;refine po (bu.r W af B Z ay _ _ _ _ _ L h ai ar<|an k B Z bs) (λv aT A=>eK A λau a0 U aI=>?_) λq q e=>e;have ba:=ai.bT U;cases v with
 |false=>refine J (if_neg<|by decide) ?_;exact mA<|iv (k:=.next) rfl ba a0 (O.trans U.hT) aI
 |true=>
  refine J (if_pos rfl)<|bJ ?_;intro m;refine po (aA.r W af B au aT _ _ _ L bt h ba a0 aI) (λf H A=>mh A λd l aS a g ak aR b=>?_) λq q e=>e;have aH:=(O.trans U.hT).trans aR;cases d with
  |next=>refine J a ?_;obtain⟨j,bi,X⟩:=b;exact⟨j,bi,l,aS,g,ak,aH,X⟩
  |cont=>exact b.elim
  |brk=>exact b.elim
  |ret u=>obtain⟨v,rfl,aV⟩:=a;exact iv (k:=.ret u) (bb v rfl aV) g ak aH b
theorem a9.push (S:a9 c I s)(o:Obj):a9 c I {s with heap:=s.heap.push o}:= ⟨λb q e=>sh _<|S.keep b q e,λb q e=>(S.rep b q e).mono λb4 X=>sh _ X,S.new,S.gens,S.os⟩
theorem bG.push {own:Addr->Prop}(o:Obj):bG own I s I {s with heap:=s.heap.push o}:= ⟨λq q q q g=>sh _ g,λq q g=>⟨_,sh _ g⟩,λq q q e=>e⟩
theorem mP (C:Heap)(an:C.objs.size<=a):C.get? a=By:=by
 cases e:C.get? a with
 |none=>rfl
 |some o=>exact absurd (acg e)<|ep.mpr an
theorem a9.lA (S:a9 c I s):I s.heap.objs.size=By:=S.zU<|nu _
theorem a9.alloc (S:a9 c I s)(b4:Obj)(o:O)(C:mJ c (s.heap.push b4) s.heap.objs.size o):a9 c (I.set s.heap.objs.size o) {s with heap:=s.heap.push b4}:=by
 refine⟨λb q e=>sh _<|S.keep b q e,λb q e=>?_,λb q e=>?_,S.gens,S.os⟩
 ·by_cases X:b=s.heap.objs.size
  ·subst X;replace e:=(az.set_same _ _ _)▸e;cases e;exact C
  ·replace e:=(az.g5 _ _ _ X)▸e;exact(S.rep b q e).mono λb4 X=>sh _ X
 ·by_cases X:b=s.heap.objs.size
  ·refine J X ?_;cases aW:c.base.get? s.heap.objs.size with
   |none=>rfl
   |some a=>exact absurd (acg<|S.keep _ _ aW)<|ki _
  ·replace e:=(az.g5 _ _ _ X)▸e;exact S.new b q e
theorem bG.alloc (b4:Obj)(o:O):bG aF I s (I.set s.heap.objs.size o) {s with heap:=s.heap.push b4}:= ⟨λq q q q g=>sh _ g,λq q g=>⟨_,sh _ g⟩,λa q g e=>by refine J (az.g5 _ _ _<|eB<|acg g) ?_;exact e⟩
theorem a9.ext {t:Nat}(S:a9 c I s)(ax:mC a s.heap av)(aw:I a=By)(aA:c.base.get? a=By):a9 c I {s with heap:=av,toks:=t}:=by
 refine⟨λb o e=>?_,λb o e=>?_,S.new,S.gens,S.os⟩
 ·have aX:b≠a:=λX=>by replace e:=aA▸X▸e;exact bY e
  exact ax b o aX<|S.keep b o e
 ·have aX:b≠a:=λX=>by replace e:=aw▸X▸e;exact bY e
  exact(S.rep b o e).mono λb4 X=>ax b b4 aX X
theorem bG.ext {t:Nat}(x:bG aF I s au aT)(ax:mC a aT.heap av)(aO:s.heap.get? a=By):bG aF I s au {aT with heap:=av,toks:=t}:=by
 refine⟨λb o aZ e g=>?_,λb o e=>?_,x.fresh⟩
 ·have aX:b≠a:=λX=>by replace g:=aO▸X▸g;exact bY g
  exact ax b o aX<|x.em b o aZ e g
 ·have aX:b≠a:=λX=>by replace e:=aO▸X▸e;exact bY e
  obtain⟨q,aW⟩:=x.live b o e;exact⟨q,ax b q aX aW⟩
theorem cm.ext (F:cm af nm am I C)(ax:mC a C av)(aE:a∉addrs af):cm af nm am I av:=by
 obtain⟨⟨m,d,aO,aU,aV⟩,an,aw,aj⟩:=F;refine⟨(dM m d ?_ (λz k e=>?_) aV),an,aw,λp aP=>?_⟩
 ·refine fg aO λo ah aR e r=>?_;clear aO;exact(i9 o ah aR (ax _ o (λX=>aE<|X▸.head _) e) r)
 ·exact bg (aU z k e) λo aW r=>(bb o (ax k o (λX=>aE<|X▸.tail _ (yB.mpr<|bb ((z,k)) (mem_of_lookup e) rfl)) aW) r)
 ·obtain⟨o,e⟩:=aj p aP;exact⟨o,ax _ o (λX=>aE<|X▸.tail _ (yB.mpr<|bb p aP rfl)) e⟩
theorem kq (S:a9 c I s)(C:s.heap.get? a=By):c.base.get? a=By:=by
 cases e:c.base.get? a with
 |none=>rfl
 |some o=>replace C:=(S.keep _ _ e)▸C;exact g4 C
theorem oQ (S:a9 c I s)(C:I a=kZ (.list aa)):∃(ag:Array a3) (k:Nat),s.heap.get? a=kZ (listOf ag k)/\bV aa ag.toList:=S.rep a _ C
variable{ag:Array a3}
theorem en (e:C.get? a=kZ (listOf ag b)):C.IsList a ag:=(jF _ e rfl b rfl)
def Mq (c:cz)(I:az)(s:eN)(ab:List V->az->Prop):List a3->eN->Prop:=λag ay=>∃aa Z,bV aa ag/\a9 c Z ay/\bG cp I s Z ay/\ab aa Z
abbrev Mz (m:Nat)(k:KK)(R:aI)(am T:List V):List V->az->Prop:=λaa Z=>aa.length=m/\R k am (aa.reverse++T) Z
structure gY (c:cz)(n:Nat)(sc:ck)(nm:List Str)(ah:List Expr)(ae:a5):Prop where
 r:∀(W:qJ) (af:Env) (am:List V) (I:az) (s:eN) (R:aI) (j:jQ) (T:List V) (E:a3->eN->Prop) (pos:Pos),e9 W n->e1 c af sc nm->cm af nm am I s.heap->a9 c I s->ae R ⟨c,n,j⟩ am T I->
  pn c.M W (spliced (L9 pos (gM ah af))) (Mq c I s (Mz ah.length ⟨c,n,j⟩ R am T)) E s
theorem Ru:gY c e aq nm [] λR=>R:=⟨λq q q q q q q q q q q q q S ad=>wpAny_items_nil<|gA ([]) _ trivial S .refl ⟨rfl,ad⟩⟩
theorem Rt (C:bA c b aq nm aC cy)(av:gY c b aq nm ah aZ)(he:∀af,gM (aC::ah) af=(false,eval aC af)::gM ah af):gY c b aq nm (aC::ah) λR=>cy (aZ R):=by refine⟨λW af am I s R j T E pos L h F S ad=>?_⟩;refine wpAny_items_cons (po (C.r W af am I s _ _ _ E L h F S ad) (λv aT A=>cq A λu au aQ a0 U aI=>?_) λq q aC=>aC)<|he af;refine po (av.r W af am au aT _ _ _ E pos L h (F.bT U) a0 aI) (λag H A=>gi A λaa aS aX ak aR an bd=>?_) λq q aC=>aC;exact(gA (u::aa) aS ⟨aQ,aX⟩ ak (U.trans aR) ⟨congrArg (· +1) an,by refine J ur<|J (aaG _ _ _) ?_;exact bd⟩)
variable{ad:List V->List V->Prop}
theorem XE:∀{d N:List V},eL d.length N (d++aa) ad=ad (d.reverse++N) aa:=by
 intro h;induction h with
 |nil=>intro s;exact rfl
 |cons w d D=>intro N;refine(?_:eL d.length (w::N) (d++aa) ad=_);refine J D<|J ur<|J (aaG _ _ _) ?_;rfl
theorem m4 {P:List V->List V->Prop}{S:List V}(an:aa.length=e)(C:eL e [] (aa.reverse++S) P):P aa S:=by subst an;rw[<-aaH,XE,aaI,Bs] at C;exact C
variable{ld:Model}
theorem sS {f:Args->eN->Prop}:∀{l:List (Bool×Sem a3)},l.any (·.1)=false->
 pn ld bo (spliced l) (λag ay=>f ⟨ag,[]⟩ ay) E s->pn ld bo (evalArgs v true l []) f E s
 |[],_,C=>by unfold evalArgs;refine(?_:pn ld bo (spliced []>>=_) f E s);refine sg<|po C (λag ay av=>sg<|mB ?_) λq q e=>e;exact pp<|sg<|mB<|sg<|mB<|mB av
 |(false,x)::r,_,C=>evalArgs_plain C
 |(true,x)::r,an,C=>by simp at an
variable{e7:List V}
theorem uP {P:Heap->Prop} (C:gY c b aq nm ah aZ)(L:e9 bo b)(h:e1 c af aq nm)(F:cm af nm am I s.heap)(S:a9 c I s)(ad:aZ k9 ⟨c,b,k0⟩ am e7 I) (j:(L9 pos<|gM ah af).any (·.1)=false) (bI:∀Z ay,a9 c Z ay->bG cp I s Z ay->P ay.heap) (ap:∀C,P C->∃k,(k=aaJ\/k=t1\/k=acq)/\Looks c.M C (keeperOf v) k) (aU:∀aa ag Z ay,bV aa ag->a9 c Z ay->bG cp I s Z ay->aa.length=ah.length->k9 ⟨c,b,k0⟩ am (aa.reverse++e7) Z->pn c.M bo (call v (bE++ag) []) (dF c I s ab) E ay): pn c.M bo (kd pos v bE (L9 pos<|gM ah af) []) (dF c I s ab) E s:= callWith_of (P:=P) (by refine J j ?_;rfl) ap<|sS j<|po (C.r bo af am I s _ _ _ E pos L h F S ad) (λag aT A=>gi A λaa au aX a0 U an aI=>⟨bI _ _ a0 U,aU aa ag au aT aX a0 U an aI⟩) λq q e=>e
theorem vV (hf:∀a,v≠.ref a):∃k,(k=aaJ\/k=t1\/k=acq)/\Looks c.M C (keeperOf v) k:=by refine(bb .machine (.inr<|.inl rfl)<|Lc ?_);cases v<;>first|rfl|exact(hf _ rfl).elim
abbrev cf (R:aI):aI:=λk am S I=>dq S λu S=>hi u λf=>mz k.c.K (.ref f)=true/\R k am (.ref f::S) I
abbrev dV (m:hX)(R:aI):aI:=λk am S I=>m S λaa S=>dq S λu S=>hi u λf=>nw k.c k.d (.ref f) aa (λu Z=>R k am (u::S) Z) I
abbrev cG (F:nv)(m:hX)(R:aI):aI:=λk am S I=>m S λaa S=>F aa (λu Z=>R k am (u::S) Z) I
abbrev yP (F:cz->nv)(m:hX)(R:aI):aI:=λk am S I=>m S λaa S=>F k.c aa (λu Z=>R k am (u::S) Z) I
def jC (ah:List Expr):Prop:=∀(pos:Pos) (af:Env),(L9 pos<|gM ah af).any (·.1)=false
variable{cL:Pos}
theorem RH (aU:c.Ok)(hf:bA c b aq nm (.Name w cL) cy)(aE:gY c b aq nm ah aZ)(aP:jC ah):bA c b aq nm (.Call (.Name w cL) ah [] pos) λR=>cy (cf<|aZ<|dV (eL ah.length []) R):=by refine⟨λW af am I s R j T E L h F S ad=>?_⟩;refine pg<|po (hf.r W af am I s _ _ _ E L h F S ad) (λv aT A=>cq A λu au aQ a0 U m=>?_) λq q e=>e;obtain⟨f,p,ap,aI⟩:=eP m;clear m;replace aQ:=p▸aQ;cases aQ;refine po (uP (P:=λC=>c.K.In C) aE L h (F.bT U) a0 aI (aP _ _) (λZ ay ar q=>aU.gE.keeps ar.keep) (keeps_K ap) λaa ag Z ay aX ar O an av=>?_) (dF.trans U) λq q e=>e;exact po (m4 (P:=λaa S=>dq S λu S=>hi u λf=>nw c b (.ref f) aa (o7 ⟨c,b,j⟩ R am S) Z) an av W ay (.ref f) ag E L ar rfl aX) (dF.trans O) λq q e=>e
def ko (aa:List V)(P:V->Prop):Prop:=match aa with|[a]=>P a|_=>False
def iq (aa:List V)(P:V->V->Prop):Prop:=match aa with|[a,b]=>P a b|_=>False
def uC (aa:List V)(P:V->V->V->Prop):Prop:=match aa with|[a,b,d]=>P a b d|_=>False
def x2 (aa:List V)(P:V->V->Prop)(R:V->V->V->Prop):Prop:=match aa with|[a,b]=>P a b|[a,b,d]=>R a b d|_=>False
variable{ak:V}
theorem tb (i:bV [ak] bE):∃x,bE=[x]/\ak.is x:=by rcases bE with _|⟨x,_|_⟩<;>first|exact(bb x rfl i.1)|exact i.elim|exact i.2.elim
theorem oN (i:bV (ak::aa) bE):∃x r,bE=x::r/\ak.is x/\bV aa r:=by
 cases bE with
 |nil=>exact i.elim
 |cons x r=>exact e5 x r rfl i
variable{ad:V->Prop}
theorem lT (C:ko aa ad)(i:bV aa bE):∃a x,aa=[a]/\bE=[x]/\a.is x/\ad a:=by
 rcases aa with _|⟨a,_|_⟩<;>first|exact C.elim|skip
 obtain⟨x,rfl,e⟩:=tb i;exact gA a x rfl rfl e C
variable{mb:V->V->Prop}
theorem iV (C:iq aa mb)(i:bV aa bE):∃a b x y,aa=[a,b]/\bE=[x,y]/\a.is x/\b.is y/\mb a b:=by
 rcases aa with _|⟨a,_|⟨b,_|_⟩⟩<;>first|exact C.elim|skip
 refine bP λbz aN=>?_;obtain⟨x,r,rfl,e,i⟩:=oN i;obtain⟨y,rfl,aW⟩:=tb i;exact aN<|⟨a,b,x,y,rfl,rfl,e,aW,C⟩
variable{aJ:V->V->V->Prop}
theorem uD (C:uC aa aJ)(i:bV aa bE):∃a b d x y z,aa=[a,b,d]/\bE=[x,y,z]/\a.is x/\b.is y/\d.is z/\aJ a b d:=by
 rcases aa with _|⟨a,_|⟨b,_|⟨d,_|_⟩⟩⟩<;>first|exact C.elim|skip
 refine fw ?_;intro f;refine bP λbz aN=>?_;obtain⟨x,r,rfl,e,i⟩:=oN i;obtain⟨y,r,rfl,aW,i⟩:=oN i;obtain⟨z,rfl,w⟩:=tb i;exact aN<|⟨a,b,d,x,y,z,rfl,rfl,e,aW,w,C⟩
theorem FI (C:x2 aa mb aJ):iq aa mb\/uC aa aJ:=by rcases aa with _|⟨a,_|⟨b,_|⟨d,_|_⟩⟩⟩<;>first|exact C.elim|exact .inl C|exact .inr C
def eg (c:cz)(n:Nat)(f:a3)(F:List V->(V->az->Prop)->az->Prop):Prop:= ∀(W:qJ) (I:az) (s:eN) (ab:V->az->Prop) (E:a3->eN->Prop) (aa:List V) (ag:List a3),e9 W n->a9 c I s->bV aa ag->F aa ab I->pn c.M W (call f ag []) (dF c I s ab) E s
theorem yD (C:bA c b aq nm aC (aM<|.ext v))(L:e9 bo b)(h:e1 c af aq nm)(F:cm af nm am I s.heap)(S:a9 c I s)(X:∀aT,a9 c I aT->bG cp I s I aT->f2 v aT):pn c.M bo (eval aC af) f2 E s:= po (C.r bo af am I s (λq q ar Z=>ar=[.ext v]/\Z=I) ⟨λq q=>True,λq q=>True,λq q=>True⟩ [] E L h F S ⟨rfl,rfl⟩) (λw aT A=>gi A λu au aQ a0 U p f=>by cases p;cases aQ;exact X aT (f▸a0)<|f▸U) λq q aC=>aC
theorem GU {F:cz->nv}(hf:bA c b aq nm (.Name w cL) (aM<|.ext v))(aV:∀a,v≠.ref a)(d:eg c b v (F c))(aE:gY c b aq nm ah aZ)(aP:jC ah):bA c b aq nm (.Call (.Name w cL) ah [] pos) λR=>aZ (yP F (eL ah.length []) R):=by refine⟨λW af am I s R j T E L h Fr S ad=>?_⟩;refine pg<|yD hf L h Fr S λaT a0 U=>?_;refine po (uP (P:=λq=>True) aE L h (Fr.bT U) a0 ad (aP _ _) (λq q q q=>trivial) (λC q=>vV aV) λaa ag Z ay aX ar O an av=>?_) (dF.trans U) λq q e=>e;exact po (d W Z ay _ E aa ag L ar aX<|m4 (P:=λaa S=>F c aa (o7 ⟨c,b,j⟩ R am S) Z) an av) (dF.trans O) λq q e=>e
variable{jP:nv}
theorem RI (hf:bA c e aq nm (.Name w cL) (aM<|.ext v))(aV:∀a,v≠.ref a)(d:eg c e v jP)(aE:gY c e aq nm ah aZ)(aP:jC ah):bA c e aq nm (.Call (.Name w cL) ah [] pos) λR=>aZ (cG jP (eL ah.length []) R):=GU (F:=λq=>jP) hf aV d aE aP
abbrev eT (m:hX)(R:aI):aI:=λk am S I=>m S λaa S=>aa.length<=gW/\∀a D,ei I D a (.list aa)->R k am (.ref a::S) D
abbrev i4 (m:hX)(R:aI):aI:=λk am S I=>m S λaa S=>aa.length<=gW/\∀a D,ei I D a (.tup aa)->R k am (.ref a::S) D
theorem RS (C:gY c b aq nm ah aZ):bA c b aq nm (.List ah pos) λR=>aZ (eT (eL ah.length []) R):=by refine⟨λW af am I s R j T E L h F S ad=>?_⟩;refine wpAny_List<|po (C.r W af am I s _ _ _ E pos L h F S ad) (λag aT A=>gi A λaa au aX a0 U hm aI=>dp (m4 (P:=λaa S=>aa.length<=gW/\∀a D,ei au D a (.list aa)->R ⟨c,b,j⟩ am (.ref a::S) D) hm aI) λan aI=>⟨aX.length▸an,?_⟩) λq q e=>e;exact lC (a0.alloc _ (.list aa) ⟨ag.toArray,0,ph _ rfl,by simpa using aX⟩) (U.trans<|.alloc _ _)<|aI _ _ ⟨a0.lA,rfl⟩
theorem RW (C:gY c i aq nm ah aZ):bA c i aq nm (.Tuple ah b pos) λR=>aZ (i4 (eL ah.length []) R):=by refine⟨λW af am I s R j T E L h F S ad=>?_⟩;refine wpAny_Tuple<|po (C.r W af am I s _ _ _ E pos L h F S ad) (λag aT A=>gi A λaa au aX a0 U hm aI=>dp (m4 (P:=λaa S=>aa.length<=gW/\∀a D,ei au D a (.tup aa)->R ⟨c,i,j⟩ am (.ref a::S) D) hm aI) λan aI=>⟨aX.length▸an,?_⟩) λq q e=>e;exact lC (a0.alloc _ (.tup aa) ⟨ag.toArray,0,ph _ rfl,by simpa using aX⟩) (U.trans<|.alloc _ _)<|aI _ _ ⟨a0.lA,rfl⟩
inductive mK:List V->Int->Nat->Int->Prop
 |one (b:Int):mK [.int b] 0 b.toNat 1
 |two (a b:Int):mK [.int a,.int b] a (b -a).toNat 1
 |down (a b:Int):mK [.int a,.int b,.int (-1)] a (a -b).toNat (-1)
def nN (aa:List V):Prop:=∀u∈aa,∃i,u=.int i/\ -(2^62)<=i/\i<2^62
theorem Yh (L:e9 bo j)(S:a9 c I s)(aX:bV aa bE)(hf:nN aa)(aB:mK aa pt aD st)
 (C:∀(it:Addr) (ay:eN),s.heap.get? it=By->IsRangeIter ay.heap it pt aD st->a9 c I ay->bG cp I s I ay->f2 (.ref it) ay):
 pn c.M bo (call (.type "range") bE []) (λx aT=>pn c.M bo (pyIter x) f2 E aT) E s:=by
 intros bs;have fin:∀(aT:eN) (r:Addr) (pt b st:Int) (t u v:Tok),IsRange aT.heap r pt b st t u v->Builtin.Range.small pt b st=true->Builtin.Range.rangeSize pt b st=(aD:Int)->a9 c I aT->bG cp I s I aT->
  (∀(it:Addr) (ay:eN),s.heap.get? it=By->IsRangeIter ay.heap it pt aD st->a9 c I ay->bG cp I s I ay->f2 (.ref it) ay)->pn c.M bo (pyIter<|.ref r) f2 E aT:=by
  intro aT r pt b st t u v aB D aK a0 U C
  refine wpAny_pyIter_range aB D<|C _ _ ?_ (by refine J aK ?_;exact ph _ rfl) (a0.push _)<|U.trans<|.push _
  cases e:s.heap.get? aT.heap.objs.size with
  |none=>rfl
  |some o=>obtain⟨q,aW⟩:=U.live _ _ e;exact absurd (acg aW)<|ki _
 have f0:∀{i:Int} {aa:List V},nN (.int i::aa)->(-(2^62)<=i/\i<2^62)/\nN aa:=λhf=>⟨by obtain⟨i,aL,C⟩:=hf _<|.head _;cases aL;exact C,λu aQ=>hf u<|.tail _ aQ⟩
 have dP:∀{u:V} {aa:List V} {bE:List a3},bV (u::aa) bE->∃v bc,bE=v::bc/\u.is v/\bV aa bc:=λ{u aa bE} C=>by
  cases bE with
  |nil=>exact C.elim
  |cons v bE=>exact e5 v bE rfl C
 have f:∀{bE:List a3},bV [] bE->bE=[]:=λ{bE} C=>by
  cases bE with
  |nil=>rfl
  |cons v bE=>exact C.elim
 cases aB with
 |one b=>obtain⟨ah,bX,rfl,⟨F,rfl⟩,co⟩:=dP aX;cases f co;have ai:=(f0 hf).1;refine call_range_1<|fin _ _ 0 b 1 _ _ _ (Ld ..) (small_one (by decide) (by decide) ai.1 ai.2) ?_ ((S.push _).tok _) (.trans (.push _)<|.tok _) C;refine J (rangeSize_nat _ _) ?_;simp
 |two aI b=>obtain⟨aG,bX,rfl,⟨g,rfl⟩,co⟩:=dP aX;obtain⟨ah,p,rfl,⟨F,rfl⟩,cW⟩:=dP co;cases f cW;obtain⟨ai,hf⟩:=f0 hf;obtain⟨ao,-⟩:=f0 hf;exact call_range_2<|fin _ _ _ b 1 _ _ _ (Ld ..) (small_one ai.1 ai.2 ao.1 ao.2) (rangeSize_nat _ _) ((S.push _).tok _) (.trans (.push _)<|.tok _) C
 |down aI b=>obtain⟨aG,bX,rfl,⟨g,rfl⟩,co⟩:=dP aX;obtain⟨ah,p,rfl,⟨F,rfl⟩,cW⟩:=dP co;obtain⟨b2,l,rfl,⟨a,rfl⟩,en⟩:=dP cW;cases f en;obtain⟨ai,hf⟩:=f0 hf;obtain⟨ao,-⟩:=f0 hf;exact call_range_3 (by decide) (fin _ _ _ b (-1) _ _ _ (Ld ..) (small_down ai.1 ai.2 ao.1 ao.2) (rangeSize_downNat _ _) ((S.push _).tok _) (.trans (.push _)<|.tok _) C)<|.inl<|PyProof.noPylong_small (by obtain⟨pt,b⟩:=ai;obtain⟨d,e⟩:=ao;clear fin C f0 dP f;lia)
theorem aay:∀{ns:List Str} {ag:List a3},ns.length=ag.length->w∈ns->((ns.zip ag).lookup w).isSome=true:=by
 intro h;induction h with
 |nil=>intro s l C;cases C
 |cons a ns D=>
  intro f;cases f with
  |nil=>intro C l;cases C
  |cons v ag=>
   intro an C;refine J t2<|J wQ ?_;by_cases X:(w==a)=true
   ·refine J X ?_;rfl
   ·have:(w==a)=false:=by simpa using X
    refine J this ?_;rcases Q8.mp C with e|C
    ·clear this;subst e;simp at X
    ·exact D (by simpa using an) C
theorem aaw:∀{ns:List Str} {ag:List a3} (pre:List (Str×a3)),ns.length=ag.length->ns.Nodup->(∀x∈ns,pre.lookup x=By)-> ns.filterMap (λx=>((pre++ns.zip ag).lookup x).map (x, ·))=ns.zip ag:=by
 intro h;induction h with
 |nil=>intro s l d c e;simp
 |cons a ns D=>
  intro f;cases f with
  |nil=>intro s C d c;cases C
  |cons v ag=>
   intro pre an aO aP;replace aO:=(propext aaK)▸aO;have ai:(pre++(a::ns).zip (v::ag)).lookup a=kZ v:=by refine J aaL<|J (aP a<|.head _)<|J t2<|J List.lookup_cons_self ?_;rfl
   refine J Le<|J ai<|J t2 ?_;dsimp only[m9];have ao:pre++(a,v)::ns.zip ag=(pre++[(a,v)])++ns.zip ag:=by simp
   rw[ao,D (pre++[(a,v)]) (by simpa using an) aO.2 (λx Q=>by
    refine J aaL<|J (aP x<|.tail _ Q) ?_;have:(x==a)=false:=by apply beq_eq_false_iff_ne.mpr;rintro rfl;exact aO.1 Q
    refine J hU<|J wQ<|J this ?_;rfl)]
variable{cQ:Type}
theorem MX {f:aR->cQ->Sem (ForInStep cQ)}{g:cQ->aR->cQ}(C:∀a b,f a b=pure (.yield<|g b a)):∀(l:List aR) (b:cQ),(forIn l b f:Sem cQ)=pure (l.foldl g b):=by
 intro h;induction h with
 |nil=>intro b;refine J ik ?_;rfl
 |cons a l D=>intro b;refine J (Lf _ _ _ _)<|J (C _ _)<|J n7<|a6 (D _) ?_;rfl
theorem Bp (l:List aR):∀m:List cQ,(l.take m.length).zip m=l.zip m:=by
 induction l with
 |nil=>intro m;cases m<;>rfl
 |cons a l D=>intro m;cases m with
  |nil=>rfl
  |cons b m=>exact congrArg ((a,b):: ·)<|D m
theorem Iz:∀{l:List aR} {m:List cQ},(∃y,(aN,y)∈l.zip m)->aN∈l:=by
 intro h;induction h with
 |nil=>intro s c;obtain⟨_,C⟩:=c;simp at C
 |cons a l D=>
  intro f;cases f with
  |nil=>intro g;obtain⟨_,C⟩:=g;simp at C
  |cons b m=>
   intro g;obtain⟨y,C⟩:=g;replace C:=t2▸C;rcases Q8.mp C with e|C
   ·cases e;exact .head _
   ·exact .tail _<|D ⟨y,C⟩
theorem Vc:∀{ns:List Str} {ag:List a3},¬ (∃y,(w,y)∈ns.zip ag)->(ns.zip ag).lookup w=By:=by
 intro h;induction h with
 |nil=>intro s l;simp
 |cons a ns D=>
  intro f;cases f with
  |nil=>intro s;simp
  |cons v ag=>
   intro C;refine J t2<|J wQ ?_;have:(w==a)=false:=by apply beq_eq_false_iff_ne.mpr;rintro rfl;exact C ⟨v,.head _⟩
   exact J this<|D λA=>cO A λy X=>C ⟨y,.tail _ X⟩
theorem aax:∀{ns:List Str} {ag:List a3} (pre:List (Str×a3)),ns.length=ag.length->ns.Nodup->(∀x∈ns,pre.lookup x=By)-> (ns.zip ag).foldl (λb a=>if(b.lookup a.1).isNone=true then b++[(a.1,a.2)] else b) pre=pre++ns.zip ag:=by
 intro h;induction h with
 |nil=>intro s l d c e;simp
 |cons a ns D=>
  intro f;cases f with
  |nil=>intro s C d c;cases C
  |cons v ag=>
   intro pre an aO aP;replace aO:=(propext aaK)▸aO;rw[t2,n7,if_pos<|by refine J (aP a<|.head _) ?_;rfl,D (pre++[(a,v)]) (by simpa using an) aO.2 (λx Q=>by
    refine J aaL<|J (aP x<|.tail _ Q) ?_;have:(x==a)=false:=by apply beq_eq_false_iff_ne.mpr;rintro rfl;exact aO.1 Q
    refine J hU<|J wQ<|J this ?_;rfl)]
   simp
variable{names:List Str}
theorem MY {j:FuncData}{as:List Arg}(aP:j.params=⟨[],as,By,[],[],By,ah⟩)(aO:as.map (·.arg)=names)(hd:names.Nodup)(an:bE.length+c1.length=names.length) (c:∀(M:Model) (W:qJ) (E:a3->eN->Prop) (ab:Option (Array a3)->eN->Prop),(∀r,(r.getD #[]).toList=c1->ab r s)->pn M W (seqItems? j.defaults) ab E s): BindsTo s j ⟨bE,[]⟩ (names.zip<|bE++c1):=by
 intro M W E ab ad;have ai:names.length -c1.length=bE.length:=bS 38505222254851 an rfl;have aj:((names.take<|names.length -c1.length).filter λn=>((names.zip bE).lookup n).isNone)=[]:=by
  refine J ai ?_;refine m5 List.filter_eq_nil_iff ?_;intro x Q;have m:((names.zip bE).lookup x).isSome=true:=by have:(((names.take bE.length).zip bE).lookup x).isSome=true:=aay (by simp;exact bS 53902680011011 an rfl) Q;rwa[Bp] at this
  cases e:(names.zip bE).lookup x with
  |none=>replace m:=e▸m;exact lf m
  |some v=>simp
 have f:(names.drop bE.length).length=c1.length:=by simp;exact bS 38505206526211 an rfl
 have hf:=aax (names.zip bE) f (hd.sublist<|List.drop_sublist _ _) (λx Q=>Vc λX=>by have e:names=names.take bE.length++names.drop bE.length:=(rV ..).symm;replace X:=(g7<|Bp _ _)▸X;replace hd:=e▸hd;exact(aaM.mp hd).2.2 _ (Iz X) _ Q rfl);have N:names.zip bE++(names.drop bE.length).zip c1=names.zip (bE++c1):=by
  have e:names=names.take bE.length++names.drop bE.length:=(rV ..).symm;conv=>rhs;rw[e]
  exact J (List.zip_append<|by simp;exact bS 53902680011011 an rfl)<|J (Bp _ _) rfl
 have aA:=aaw (ns:=names) (ag:=bE++c1) [] (by simp;exact b1 8995870723 an) hd λq q=>rfl;unfold bindArgs;refine J aP ?_;refine sg<|mB ?_;refine jA ?_;intro d;refine jA ?_;intro d;refine sg<|c _ _ _ _ λr aB=>?_;refine J aB ?_;have T:([]:List Arg).map (·.arg)++as.map (·.arg)=names:=aO;refine J T ?_;refine wpAny_ite_false (by simp;exact b1 302526721 an) ?_;have h0:c1.drop (c1.length -names.length)=c1:=by refine J (by exact bS 54997896675075 an rfl:c1.length -names.length=0) ?_;rfl
 dsimp only;refine J h0<|J aj<|wpAny_ite_false rfl ?_;refine J ai ?_;refine sg ?_;intros bz;refine J (MX (g:=λb a=>if(b.lookup a.1).isNone=true then b++[(a.1,a.2)] else b) (λa b=>by split<;>rfl) _ _) ?_;refine mB ?_;refine J hf<|J N<|sg<|mB ?_;refine wpAny_ite_false rfl ?_;refine mB ?_;refine J (Bs names)<|J aA ?_;exact ad
variable{aJ:Str->Option Lg}
theorem MW:∀{ag:List a3} {m:Str->Option a3},name∉nm->bindL aJ (nm.zip ag) m name=m name:=by
 induction nm with
 |nil=>intro ag m q;rfl
 |cons b nm D=>intro ag m aA;cases ag with
  |nil=>rfl
  |cons w ag=>
   refine J t2 ?_;unfold bindL;refine J (D λX=>aA<|.tail _ X) ?_;split
   ·exact if_neg λ(X:name=b)=>aA (by refine J X ?_;exact .head _)
   ·rfl
theorem MU:∀{ag:List a3} {m:Str->Option a3},name∉nm->bindC aJ (nm.zip ag) m name=m name:=by
 induction nm with
 |nil=>intro ag m q;rfl
 |cons b nm D=>intro ag m aA;cases ag with
  |nil=>rfl
  |cons w ag=>
   refine J t2 ?_;unfold bindC;refine J (D λX=>aA<|.tail _ X) ?_;split
   ·rfl
   ·exact if_neg λ(X:name=b)=>aA (by refine J X ?_;exact .head _)
theorem MV {k:Str->Option Lg}:∀{ag:List a3} {m d:Str->Option a3} {i:Nat},nm.Nodup->nm[i]?=kZ name->ag[i]?=kZ v->
 (if k name=kZ .local then bindL k (nm.zip ag) m name else bindC k (nm.zip ag) d name)=kZ v:=by
 induction nm with
 |nil=>intro ag m d i _ C;exact bY C
 |cons a nm D=>intro ag m d i aO Q aV;cases ag with
  |nil=>exact bY aV
  |cons w ag=>
   replace aO:=aaK.mp aO;refine J t2 ?_;unfold bindL bindC;cases i with
   |succ i=>exact D aO.2 Q aV
   |zero=>
    cases Q;cases aV;split
    ·refine J (MW aO.1) ?_;simp
    ·refine J (MU aO.1) ?_;simp
theorem Gc:∀(names:List (Str×Lg)) (n:Nat) (N:List (Str×Addr)),(names.lookup w=kZ .cell\/(N.lookup w).isSome=true)->((jc n names N).lookup w).isSome=true:=by
 intro h;induction h with
 |nil=>
  intro n N C;rcases C with C|C
  ·simp at C
  ·exact C
 |cons i r D=>
  intro n N C;obtain⟨a,k⟩:=i;unfold jc;rw[wQ] at C;split
  ·rename_i ap;refine D _ _<|J wQ ?_;cases e:w==a with
   |true=>right;rfl
   |false=>rw[e] at C;exact C
  ·rename_i ap;refine D _ _ ?_;cases e:w==a with
   |true=>
    rw[e] at C;rcases C with C|C
    ·cases C;exact(ap rfl).elim
    ·exact .inr C
   |false=>rw[e] at C;exact C
theorem PU:∀(names:List (Str×Lg)) (n:Nat) (N:List (Str×Addr)),((names.map (·.1))++N.map (·.1)).Nodup->((jc n names N).map (·.1)).Nodup:=by
 intro h;induction h with
 |nil=>intro n N C;simpa[jc] using C
 |cons i r D=>
  intro n N C;obtain⟨a,k⟩:=i;unfold jc;split
  ·refine D _ _ ?_;rw[n8] at C⊢;exact(gX.nodup_iff).mpr C
  ·refine D _ _ ?_;rw[n8,t3,aaK] at C;exact C.2
theorem Il:∀{l:List (Str×Addr)},(l.map (·.1)).Nodup->(w,a)∈l->l.lookup w=kZ a:=by
 intro h;induction h with
 |nil=>intro s C;cases C
 |cons i l D=>
  intro aO C;obtain⟨x,y⟩:=i;rw[n8,aaK] at aO;refine J wQ ?_;rcases Q8.mp C with e|C
  ·cases e;simp
  ·have:(w==x)=false:=by apply beq_eq_false_iff_ne.mpr;intro X;exact aO.1 (yB.mpr<|bb ((w,a)) C X)
   exact J this<|D aO.2 C
def Cn (K:Frag)(d:a3)(c1:List a3):Prop:=(d=.none/\c1=[])\/∃T w bq n,d=.ref T/\K.lookup T=kZ w/\w.data=.seq bq n/\bq.toList=c1
structure k4 (c:cz)(f:Addr)(names:List Str)(c1:List a3)(body:List Stmt)(sc:ck):Prop where
 keep:mz c.K (.ref f)=true
 ex:∃o j,c.K.lookup f=kZ o/\o.data=.func j/\j.body=.stmts body/\j.scope=sc/\j.closure=[]/\j.globals=iO/\j.builtins=oi/\codeIn c.K j.code j.qualname=true/\
  (∃as r,j.params=⟨[],as,By,[],[],By,r⟩/\as.map (·.arg)=names)/\Cn c.K j.defaults c1
structure nz (sc:ck)(names nm:List Str):Prop where
 kind:sc.kind=.function
 co:sc.isCoroutine=false
 gen:sc.isGenerator=false
 keys:(sc.names.map (·.1)).Nodup
 nodup:nm.Nodup
 pre:names<+:nm
 kinds:∀x∈nm,sc.names.lookup x=kZ .local\/sc.names.lookup x=kZ .cell
noncomputable abbrev dI (c:cz)(n:Nat)(ab:V->az->Prop):KK:=⟨c,n,ab,λq I=>ab .none I,λq q=>False⟩
def be (c:cz)(n:Nat)(f:V)(args:List V)(ab:V->az->Prop)(I:az):Cs ab:= ∀(W:qJ) (s:eN) (dD:a3) (ag:List a3) (R:Result->eN->Prop),e9 W n->a9 c I s->f.is dD->bV args ag->(∀v ay,dF c I s ab v ay->R (.ok<|.ret v) ay)->br c.M W (.call dD ⟨ag,[]⟩) R s
theorem be.ZU (C:be c e ak aa ab I):nw c e ak aa ab I:= λW s dD ag q L S hf aE=>wpAny_call<|C W s dD ag _ L S hf aE λq q X=>X
variable{dD:a3}{R:Result->eN->Prop}
theorem uQ {n:Nat}{gq:List V}(aU:c.Ok)(hf:k4 c ae names c1 body aq)(ax:nz aq names nm) (ah:bV gq c1)(an:aa.length+gq.length=names.length)(L:e9 bo (n+1))(S:a9 c I s)(m:(V.ref ae).is dD)(aX:bV aa bE) (C:∀af aI cr,e1 c af aq nm->cm af nm (aa++gq++dr (nm.length -names.length) .aK) I aI->a9 c I {s with heap:=aI,toks:=cr}->af.frame=kZ af.locals->(∀a∈addrs af,s.heap.get? a=By)->(∀b o,s.heap.get? b=kZ o->aI.get? b=kZ o)->e9 (bo.deeper af) n-> br c.M bo (.func body af) R {s with heap:=aI,toks:=cr}):br c.M bo (.call dD ⟨bE,[]⟩) R s:=by
 refine J m<|bP λbz aN=>?_;obtain⟨ap,o,j,aw,a2,ay,dc,aB,l,B,aF,⟨as,r,aP,aO⟩,aJ⟩:=hf;obtain⟨am,aC,aY,aZ,A,y,U⟩:=ax;have f:c.K.In s.heap:=aU.gE.keeps S.keep;have a1:bE.length+c1.length=names.length:=by refine a6 aX.length<|a6 ah.length ?_;exact an
 have av:names.Nodup:=A.sublist y.sublist;obtain⟨au,az,aG⟩:=L;refine aN<|codeAny_call_function (b1 531291899990507000066 au) (f _ _ aw) a2 (by refine J dc ?_;exact aC) (by refine J dc ?_;exact aY) ay (codeRec_of f aF) ?_;refine MY aP aO av a1 (λM bo E ab C=>?_) _ _ _ _ ?_
 ·rcases aJ with⟨e,aW⟩|aM
  ·refine J e ?_;exact mB<|C By aW.symm
  ·refine tA aM λT w bq k e D ao aL=>?_;clear aM;refine J e ?_;exact wpAny_seqItems (f _ _ D) ao<|C (kZ bq) aL
 intros a3;have W:∀x∈names,aq.names.lookup x=kZ .local\/aq.names.lookup x=kZ .cell:=λx Q=>U x<|y.subset Q;refine J dc<|J aB<|wpAny_newFunctionEnv_cells am (λx Q=>?_) λaf he aT aH=>?_
 ·rcases W x.1 (Iz ⟨x.2,Q⟩) with C|C
  ·exact .inl C
  ·exact .inr ⟨C,Gc _ _ _<|.inl C⟩
 have ai:af.cells=jc (s.heap.objs.size+1) aq.names []:=by refine J he ?_;rfl
 have g:af.scope=aq:=by refine J he ?_;rfl
 have aS:af.globals=iO:=by refine J he<|a6 l ?_;rfl
 have aR:af.builtins=oi:=by refine J he<|a6 B ?_;rfl
 refine bP λbz aN=>?_;obtain⟨⟨P,aA,H,ak⟩,Z,ar,N⟩:=aH;refine fz P λaI cr O=>?_;clear P;subst O;refine aN ?_;have ag:∀a∈addrs af,s.heap.objs.size<=a:=λa aE=>by
  rcases Q8.mp aE with rfl|aE
  ·exact ak
  ·refine bg (yB.mp aE) λp aP O=>?_;refine a6 O ?_;exact rW<|il ak<|N p.1 p.2 aP
 have ad:∀a∈addrs af,s.heap.get? a=By:=λa aE=>mP _<|ag a aE;have h:e1 c af aq nm:=⟨g,am,λx Q=>(U x Q).imp_right λC=>⟨C,by refine J ai ?_;exact Gc _ _ _<|.inl C⟩,A,ar,λz k aj X=>ki _<|X▸N z k aj,aS,aR,λa aE=>kq S<|ad a aE⟩;have bn:(jc (s.heap.objs.size+1) aq.names []).map (·.1)|>.Nodup:=PU _ _ _ (by simpa using aZ);have a0:a9 c I {s with heap:=aI,toks:=cr}:=⟨λb o e=>H b o<|S.keep b o e,λb o e=>(S.rep b o e).mono λb4 X=>H b b4 X,S.new,S.gens,S.os⟩;have F:cm af nm (aa++gq++dr (nm.length -names.length) .aK) I aI:=by
  refine⟨(dM _ _ aA (λz k e=>Z z k e) λi x u aL aQ=>?_),?_,λa aE=>S.zU<|ag a aE,λp aP=>?_⟩
  ·by_cases d:i<names.length
   ·rw[Bu<|by refine J nb ?_;exact bS 846839107688450 an d] at aQ;refine bg ((aX.append ah).get aQ) λv aV aD=>.inr<|bb v ?_ aD;have G:names[i]?=kZ x:=by obtain⟨t,rfl⟩:=y;rwa[Bu d] at aL
    exact MV (k:=af.kindOf) av G aV
   ·rw[kU<|by refine J nb ?_;exact bS 884217939628161 an d] at aQ;rw[List.getElem?_replicate] at aQ;split at aQ
    ·exact .inl (kZ.inj aQ).symm
    ·exact bY aQ
  ·have:=y.length_le;simp only[nb,hA];exact dH 19817802282846165993603 an this rfl
  ·have:=Il (by refine J ai ?_;exact bn) (aP:(p.1,p.2)∈af.cells);exact bg (Z _ _ this) λo e q=>⟨o,e⟩
 exact⟨aU.lim.keeps λb o e=>H b o<|S.keep b o e,C af aI cr h F a0 (by refine J he ?_;rfl) ad H ⟨by refine(?_:bo.depth+1+2*n+4<=_);exact b1 232620857262345148507082676514097281 au,by refine(?_:bo.units+3+20*n+100<=_);exact b1 3140396473612351857997716551062554753 az,aG⟩⟩
theorem Ry (aU:c.Ok)(hf:k4 c ae names c1 body aq)(ax:nz aq names nm)(aA:FB c n aq nm body aZ)(ah:bV am c1)(an:aa.length+am.length=names.length)
 (C:aZ bv (dI c n ab) (aa++am++dr (nm.length -names.length) .aK) [] I):be c (n+1) (.ref ae) aa ab I:=by
 intro W s dD ag R L S m aX P
 refine uQ aU hf ax ah an L S m aX λaf aI cr h F a0 q ad H p=>codeAny_func<|fw ?_;intro j;refine po (aA.r (W.deeper af) af _ I _ _ _ _ p trivial h F a0 C) (λkv ay A=>mh A λk B Z ap ai ar O X=>?_) λq q e=>e
 have U:bG cp I s Z ay:=by refine⟨λa o q e g=>O.em a o (λX=>?_) e<|H a o g,λa o e=>O.live a o<|H a o e,λa o g e=>O.fresh a o (H a o g) e⟩;rw[ad a X] at g;exact bY g
 cases k with
 |next=>refine J ap ?_;exact P _ _<|wH ar U X
 |brk=>exact X.elim
 |cont=>exact X.elim
 |ret u=>obtain⟨v,rfl,aV⟩:=ap;exact P _ _<|jE aV ar U X
set_option tactic.hygienic true
theorem a9.upd {t:Nat}{h q:O}(S:a9 c I s)(ax:L8 a s.heap av)(aw:I a=kZ h)(C:mJ c av a q):a9 c (I.set a q) {s with heap:=av,toks:=t}:=by
 refine⟨λb x e=>?_,λb x e=>?_,λb x e=>?_,S.gens,S.os⟩
 ·have aX:b≠a:=λX=>by replace e:=(S.new a h aw)▸X▸e;exact bY e
  exact(ax.2 b aX).trans<|S.keep b x e
 ·by_cases X:b=a
  ·subst X;replace e:=(az.set_same _ _ _)▸e;cases e;exact C
  ·replace e:=(az.g5 _ _ _ X)▸e;exact(S.rep b x e).mono λb4 z=>(ax.2 b X).trans z
 ·by_cases X:b=a
  ·clear ax C;subst X;exact S.new b h aw
  ·replace e:=(az.g5 _ _ _ X)▸e;exact S.new b x e
theorem bG.upd {t:Nat}{h q:O}(ax:L8 a s.heap av)(aw:I a=kZ h)(an:∃b4,av.get? a=kZ b4):bG aF I s (I.set a q) {s with heap:=av,toks:=t}:=by
 refine⟨λb x q e g=>(ax.2 b λX=>by replace e:=aw▸X▸e;exact g4 e).trans g,λb x e=>?_,λb x e z=>?_⟩
 ·by_cases X:b=a
  ·refine J X ?_;exact an
  ·exact⟨x,(ax.2 b X).trans e⟩
 ·have X:b≠a:=λX=>by rw[X,aw] at z;exact g4 z
  refine J (az.g5 _ _ _ X) ?_;exact z
variable{dm:List lE}
theorem Hk {eq:lE}(ap:eq.key=.str name ku):getL w (eq::dm)=if name==w then kZ (kZ eq.val) else getL w dm:=by
 have r:eq.key.isStr w=(name==w):=by refine J ap ?_;rfl
 have a:eq.refKey=false:=by obtain⟨_,_,_⟩:=eq;cases ap;rfl
 unfold getL;refine J gf<|J r<|J rX<|J a<|J (Bool.false_or _) ?_;cases name==w<;>rfl
theorem FP:∀{ah:List (Str×V)} {dm:List lE},lH ah dm->ah.lookup w=kZ u->∃v,getL w dm=kZ (kZ v)/\u.is v:=by
 intro h;induction h with
 |nil=>intro s l C;exact bY C
 |cons p ah D=>
  intro f;cases f with
  |nil=>intro C l;exact C.elim
  |cons e dm=>
   intro g C;obtain⟨⟨t,ap⟩,aV,aB⟩:=g;rw[wQ] at C;refine J (Hk ap) ?_;by_cases X:w=p.1
   ·subst X;simp at C;exact a6 C<|(bb e.val (by simp) aV)
   ·have am:(w==p.1)=false:=by simpa using X
    have z:(p.1==w)=false:=by simpa using λe=>X e.symm
    rw[am] at C;exact J z<|D aB C
theorem FQ:∀{ah:List (Str×V)} {dm:List lE},lH ah dm->ah.lookup w=By->getL w dm=kZ By:=by
 intro h;induction h with
 |nil=>
  intro f;cases f with
  |nil=>intro s l;exact rfl
  |cons j n=>intro C l;exact C.elim
 |cons p ah D=>
  intro f;cases f with
  |nil=>intro C l;exact C.elim
  |cons e dm=>
   intro g C;obtain⟨⟨t,ap⟩,aV,aB⟩:=g;rw[wQ] at C;refine J (Hk ap) ?_;by_cases X:w=p.1
   ·subst X;simp at C
   ·have am:(w==p.1)=false:=by simpa using X
    have z:(p.1==w)=false:=by simpa using λe=>X e.symm
    rw[am] at C;exact J z<|D aB C
theorem SU {x:Str}:∀{ah:List (Str×V)} {dm:List lE},lH ah dm->(getL x dm).isSome=true:=λ{ah dm} C=>by
 cases X:ah.lookup x with
 |none=>refine J (FQ C X) ?_;rfl
 |some u=>obtain⟨v,e,_⟩:=FP C X;refine J e ?_;rfl
theorem lH.length:∀{ah:List (Str×V)} {dm:List lE},lH ah dm->dm.length=ah.length:=by
 intro h;induction h with
 |nil=>
  intro f;cases f with
  |nil=>intro s;exact rfl
  |cons j n=>intro C;exact C.elim
 |cons e i D=>
  intro f;cases f with
  |nil=>intro C;exact C.elim
  |cons j n=>intro C;exact J hC<|J hC<|J (D C.2.2) rfl
noncomputable def bF (x:Str)(u:V):List (Str×V)->List (Str×V)
 |[]=>[(x,u)]
 |p::r=>if p.1==x then(p.1,u)::r else p::bF x u r
theorem Yc (x:Str)(u:V):∀ah,(bF x u ah).length<=ah.length+1:=by
 intro h;induction h with
 |nil=>exact nu _
 |cons p r D=>
  by_cases C:(p.1==x)=true
  ·have e:bF x u (p::r)=(p.1,u)::r:=if_pos C;refine J e ?_;exact Bv _
  ·have e:bF x u (p::r)=p::bF x u r:=if_neg C;refine J e ?_;exact t4 D
theorem lH.bF {x:Str}{i:Int}{t:Tok}(aQ:u.is v):∀{ah:List (Str×V)} {dm:List lE},lH ah dm->lH (bF x u ah) (putL x i (.str x t) v dm):=by
 intro h;induction h with
 |nil=>
  intro f;cases f with
  |nil=>intro s;exact⟨⟨t,rfl⟩,aQ,trivial⟩
  |cons j n=>intro C;exact C.elim
 |cons p ah D=>
  intro f;cases f with
  |nil=>intro C;exact C.elim
  |cons e dm=>
   intro g;obtain⟨⟨F,ap⟩,aV,aB⟩:=g;have r:e.key.isStr x=(p.1==x):=by refine J ap ?_;rfl
   unfold Mine.bF putL;refine J r ?_;split
   ·exact⟨⟨F,ap⟩,aQ,aB⟩
   ·exact⟨⟨F,ap⟩,aV,D aB⟩
theorem Yb {P:Str->Prop}:∀{ah:List (Str×V)},P w->(∀y∈ah,P y.1)->∀y∈bF w u ah,P y.1:=by
 intro h;induction h with
 |nil=>intro Q l y G;cases aaO.mp G;exact Q
 |cons p r D=>
  intro Q C y G;by_cases aA:(p.1==w)=true
  ·have e:bF w u (p::r)=(p.1,u)::r:=if_pos aA;replace G:=e▸G;rcases Q8.mp G with rfl|G
   ·exact C p<|.head _
   ·exact C y<|.tail _ G
  ·have e:bF w u (p::r)=p::bF w u r:=if_neg aA;replace G:=e▸G;rcases Q8.mp G with rfl|G
   ·exact C _<|.head _
   ·exact D Q (λy G=>C y<|.tail _ G) y G
theorem VR:∀{ah:List (Str×V)},ah.lookup w=kZ u->(w,u)∈ah:=by
 intro h;induction h with
 |nil=>intro C;exact bY C
 |cons p r D=>
  intro C;rw[wQ] at C;split at C
  ·rename_i X;have:=beq_iff_eq.mp X;cases C;refine J this ?_;exact .head _
  ·exact .tail _<|D C
def V.plain:V->Prop
 |.ext _|.aK=>False
 |_=>True
theorem Hp (C:u.is v)(p:u.plain):handedIn v=true:=by cases u<;>first|exact p.elim|(cases C;rfl)|(obtain⟨t,rfl⟩:=C;rfl)
def dE (u:V)(P:Prop):Prop:=match u with|.aK=>False|.ext _=>False|.none=>P|.bool _=>P|.int _=>P|.str _=>P|.ref _=>P
theorem Af (C:dE u G):u.plain/\G:=by cases u<;>first|exact⟨trivial,C⟩|exact C.elim
theorem Ag (C:u.plain)(p:G):dE u G:=by cases u<;>first|exact p|exact C.elim
def XC (o:Option V)(P:V->Prop):Prop:=match o with|some u=>dE u (P u)|none=>False
structure Me (K:Frag)(ae:Addr)(x:Str):Prop where
 find:findIn K (.ref ae) x=kZ By
 ab6:takerIn K ae x=kZ By
 get:plainGet K ae x=true
 has:hasDictIn K ae=true
 over:plainOver K ae=true
 set:findIn K (.ref ae) "__setattr__"=kZ (kZ (.builtin "object.__setattr__"))
variable{K:Frag}
theorem Gy (C:fS K ae w=true):Me K ae w:=by unfold fS at C;simp only[abR,beq_iff_eq] at C;refine bP λbz aN=>?_;obtain⟨⟨⟨⟨⟨a,b⟩,d⟩,e⟩,f⟩,g⟩:=C;exact aN<|⟨a,b,d,e,f,g⟩
def attr (I:az)(a:Addr)(x:Str)(u:V):Prop:=∃ae d ah,I a=kZ (.inst ae d)/\I d=kZ (.attrs ae ah)/\ah.lookup x=kZ u
def d2 (I:az)(a:Addr)(x:Str)(P:V->Prop):Prop:=∃u,attr I a x u/\dE u (P u)
variable{l:Addr}
theorem MK {b:List (Str×V)}(ai:I a=kZ (.inst ae l))(ao:I l=kZ (.attrs ae b)):d2 I a w ad=XC (b.lookup w) ad:=by
 refine propext ⟨?_,λC=>?_⟩
 ·rintro⟨u,⟨f,aP,a1,a8,bo,c2⟩,C⟩;replace a8:=ai▸a8;cases a8;replace bo:=ao▸bo;cases bo;refine J c2 ?_;exact C
 ·cases X:b.lookup w with
  |none=>replace C:=X▸C;exact C.elim
  |some u=>replace C:=X▸C;exact(bb u (g6 _ _ _ ai ao X) C)
variable{a1:List (Str×V)}
theorem yY (S:a9 c I s)(C:I a=kZ (.inst ae l))(av:I l=kZ (.attrs ae a1)): ∃dm k,s.heap.get? l=kZ (dictOf dm k)/\lH a1 dm/\InstAt s.heap a (instObj ae l) ae (kZ<|dictOf dm k)/\∀x∈a1,fS c.K ae x.1=true:=by have ai:=S.rep a _ C;refine bP λbz aN=>?_;obtain⟨⟨dm,k,ao,a7⟩,bR⟩:=S.rep l _ av;exact aN<|gA dm k ao a7 ⟨ai,rfl,rfl,ao⟩ bR
theorem SV (aU:c.Ok)(S:a9 c I s)(aH:bG cp Z ay I s)(C:attr I a w u)(aP:u.plain)(ad:ab u I): pn c.M bo (Lh (.ref a) w cD) (dF c Z ay ab) E s:=by refine bP λbz aN=>tz C λae d ah ai ao a7=>?_;clear C;refine cq (yY S ai ao) λdm k bR dy a4 eS=>bg (FP dy a7) λv bt aV=>?_;obtain⟨f,cr,g,hd,c2,st⟩:=Gy<|eS _<|VR a7;exact aN<|get_value (aU.gE.keeps S.keep) a4 (plainGet_of g).1 (findObj_own hd f rfl bt) (Hp aV aP)<|jE aV (S.tok _) (aH.trans<|.tok _) ad
abbrev cA (x:Str)(R:aI):aI:=λk am S I=>dq S λo S=>hi o λa=>d2 I a x λu=>R k am (u::S) I
theorem RF (aU:c.Ok)(C:bA c b aq nm aC cy)(he:∀af,eval (.Attribute aC w pos) af=(do
 let o<-eval aC af;ach pos.atName;let r<-io [o] (Lh o w true);aaP aC o r;pure r)):bA c b aq nm (.Attribute aC w pos) λR=>cy (cA w R):=by
 refine⟨λW af am I s R j T E L h F S ad=>?_⟩;refine Attribute_any_ (po (C.r W af am I s _ _ _ E L h F S ad) (λv aT A=>cq A λo au aw a0 U m=>?_) λq q aC=>aC)<|he af;refine bP λbz aN=>p9 (eP m) λa p u bW aI=>?_;obtain⟨aP,aI⟩:=Af aI;refine aN ?_;clear m;subst p;exact J aw<|SV aU a0 U bW aP aI
theorem Y0 {m:eN}(aU:c.Ok)(S:a9 c I s)(ai:I a=kZ (.inst ae l))(ao:I l=kZ (.attrs ae a1))(hd:fS c.K ae w=true)(aj:a1.length<900)(aV:u.is v) (C:∀ay,a9 c (I.set l<|.attrs ae<|bF w u a1) ay->(∀own,bG own I s (I.set l<|.attrs ae<|bF w u a1) ay)->fc () ay): pn c.M bo (setAttr (.ref a) w v) fc E s:=by
 refine bP λbz aN=>cq (yY S ai ao) λdm k bR dy a4 eS=>?_;have bZ:=aU.gE.keeps S.keep;obtain⟨f,cr,g,B,c2,st⟩:=Gy hd;refine bg (any_some (B:(clsIn c.K ae).any (·.hasDict)=true)) λA D n=>aN<|set_plain bZ a4 st<|hr ?_;intro o;refine osa_open (s:={s with toks:=s.toks+1}) bZ a4 c2 cr λb=>?_;have Q:({s with toks:=s.toks+1}:eN).heap.get? a=kZ (instObj ae l):=a4.at_;have j:(!dm.toArray.any (·.key.isStr w)&&dm.toArray.any (·.refKey))=false:=by
  have an:=SU (x:=w) dy;unfold getL at an;refine a6 aaQ<|a6 aaQ<|J t5 ?_;split at an
  ·rename_i h he;refine J (rY.mpr<|bb h (Li he)<|aaR he) ?_;rfl
  ·split at an
   ·exact lf an
   ·rename_i z;replace z:=(Bool.not_eq_true _)▸z;exact J z<|J (Bool.and_false _) rfl
 refine sg<|mB<|sg<|sg<|wpAny_loadPart Q<|sg<|(looks_clsIn bZ D).at ?_;refine J n<|mB (a:=kZ l)<|sg<|mB<|sg ?_;unfold nsSet;refine sg<|sg<|wpAny_askSetting<|mB<|sg<|wpAny_mkText<|sg<|wpAny_loadPart bR ?_;dsimp only;refine J (aRefKeyMayBeTheName_at _ _)<|J j<|wpAny_updatePart bR ?_;have e:=putName_dict w (wR c.w.params w) (.str w<|s.toks+1) v dm k;have p:(dictOf (putL w (wR c.w.params w) (.str w<|s.toks+1) v dm)<|putN w dm k).isFreed=false:=rfl;have O:=aaS (eA w (wR c.w.params w) (.str w<|s.toks+1) v) bR (by refine J e ?_;exact p);replace O:=e▸O;have d:L8 l s.heap (s.heap.update l<|eA w (wR c.w.params w) (.str w<|s.toks+1) v):=⟨Lk _ _ _,λb aA=>Bw _ _ _ _ aA⟩;have bH:mJ c (s.heap.update l<|eA w (wR c.w.params w) (.str w<|s.toks+1) v) l (.attrs ae<|bF w u a1):= ⟨(e5 _ _ O<|dy.bF aV),Yb (P:=λy=>fS c.K ae y=true) hd eS⟩;refine sg<|wpAny_lookBehind O (by have:=(dy.bF (x:=w) (i:=wR c.w.params w) (t:=s.toks+1) aV).length;have:=Yc w u a1;exact pastItsLine_dict<|by refine J wS<|J wT ?_;exact b1 3864742069560990550017 aj ‹_› this) ?_;exact mB<|C _ (S.upd (t:=s.toks+1+1) d ao bH) λown=> .upd d ao ⟨_,O⟩
abbrev bK (x:Str)(R:aI):aI:=λk am S I=>qf S λo u S=>hi o λa=>∃ae d ah,I a=kZ (.inst ae d)/\I d=kZ (.attrs ae ah)/\fS k.c.K ae x=true/\ah.length<900/\∀D,Upd I D d (.attrs ae<|bF x u ah)->R k am S D
theorem Sw (aU:c.Ok)(C:bA c b aq nm aC cy)(aw:bA c b aq nm aP aZ)(ax:∀af,nr aC (kZ<|.Attribute aP name cL) pos.line af=pure false):fh c b aq nm (.Assign [.Attribute aP name cL] aC pos) λR=>cy (aZ<|bK name R):=by refine⟨λW af am I s R j E L q h F S ad=>?_⟩;refine aco (po (C.r W af am I s _ _ [] E L h F S ad) (λv aT A=>cq A λu au aQ a0 U aI=>?_) λq q aC=>aC)<|ax af;intros bs;refine po (aw.r W af am au aT _ _ _ E L h (F.bT U) a0 aI) (λw H A=>cq A λc2 aS a1 ak aR n=>?_) λq q aC=>aC;refine bP λbz aN=>cO (eP n) λa aB=>dp aB λf az=>gT az λae d ah M=>o2 M λai ao hd aj bd=>aN ?_;clear n;subst f;refine J a1 ?_;have g:=(F.bT U).bT aR;exact Y0 (m:=s) aU ak ai ao hd aj aQ λay ar O=>iv (k:=.next) rfl (g.bT<|O cp) ar ((U.trans aR).hT.trans<|O _)<|bd _ rfl
set_option tactic.hygienic false
structure jS (K:Frag)(ae:Addr)(x:Str)(f:Addr):Prop where
 find:findIn K (.ref ae) x=kZ (kZ (.ref f))
 typ:typeIn K (.ref f)=kZ (.type "function")
 get:plainGet K ae x=true
 keep:mz K (.ref f)=true
variable{cl:Addr}
theorem SW {f:a3×List a3->eN->Prop}{dE:Sem Bool}(aU:c.Ok)(S:a9 c I s)(ai:I a=kZ (.inst ae l))(ao:I l=kZ (.attrs ae a1))(aO:a1.lookup w=By)(hm:jS c.K ae w cl) (ad:f (.ref cl,[.ref a]) s):pn c.M bo (Ll (.ref a) w dE) f E s:=by refine bP λbz aN=>cq (yY S ai ao) λdm k bR dy a4 q=>?_;obtain⟨hf,bu,g,-⟩:=hm;exact aN<|method_fn (aU.gE.keeps S.keep) a4 (plainGet_of g).1 (plainGet_of g).2 hf bu (by refine(?_:(lookIn w<|dictOf dm k).map _=_);refine J (lookIn_dict _ _ _)<|J (FQ dy aO) ?_;rfl) ad
abbrev dz (x:Str)(R:aI):aI:=λk am S I=>dq S λo S=>hi o λa=>∃ae d ah f,I a=kZ (.inst ae d)/\I d=kZ (.attrs ae ah)/\ah.lookup x=By/\jS k.c.K ae x f/\R k am (.ref a::.ref f::S) I
variable{h4:Pos}{aJ:Env->Sem Bool}
theorem RT (aU:c.Ok)(C:bA c b aq nm aC cy)(aE:gY c b aq nm ah aZ)(aP:jC ah)(he:∀af,eval (.Call (.Attribute aC w h4) ah [] pos) af=(do
 let c2<-eval aC af;ach h4.atName;let(f,first)<-io [c2] (Ll c2 w<|aJ af);kd pos f first (L9 pos<|gM ah af)<|wU pos<|Bx [] af)):bA c b aq nm (.Call (.Attribute aC w h4) ah [] pos) λR=>cy (dz w<|aZ<|dV (eL (ah.length+1) []) R):=by
 refine⟨λW af am I s R j T E L h F S ad=>?_⟩;intros bc;refine methodCall_KW (po (C.r W af am I s _ _ _ E L h F S ad) (λv aT A=>cq A λo au aw a0 U m=>?_) λq q aC=>aC)<|he af;intros V;refine bP λbz aN=>?_;refine cO (eP m) λa aB=>dp aB λp az=>j8 az λae d a1 f M=>o2 M λai ao aO hm aI=>aN ?_;clear m;subst p;refine J aw<|SW aU a0 ai ao aO hm<|po (uP (P:=λC=>c.K.In C) aE L h (F.bT U) a0 aI (aP _ _) (λZ ay ar q=>aU.gE.keeps ar.keep) (keeps_K hm.keep) λaa ag Z ay aX ar O an av=>?_) (dF.trans U) λq q aC=>aC;exact po (m4 (P:=λaa S=>dq S λu S=>hi u λf=>nw c b (.ref f) aa (o7 ⟨c,b,j⟩ R am S) Z) (aa:=.ref a::aa) (S:=.ref f::T) (congrArg (· +1) an) (by refine J ur<|J (aaG _ _ _) ?_;exact av) W ay (.ref f) (.ref a::ag) E L ar rfl ⟨rfl,aX⟩) (dF.trans O) λq q aC=>aC
noncomputable def O.ty:O->Option String
 |.list _=>kZ "list"
 |.tup _=>kZ "tuple"
 |.cu _=>kZ "dict"
 |.gD _=>kZ "dict"
 |_=>By
def V.ty (I:az):V->Option String
 |.int _=>kZ "int"
 |.str _=>kZ "str"
 |.ref a=>(I a).bind O.ty
 |_=>By
variable{h3:String}
theorem tQ (S:a9 c I s)(aQ:u.is v)(C:u.ty I=kZ h3):s.TypeIs v h3/\∀a,v=.ref a->∃o,s.heap.get? a=kZ o/\o.dict=By:=by
 cases u with
 |int i=>obtain⟨t,rfl⟩:=aQ;cases C;exact⟨rfl,λq e=>by cases e⟩
 |str i=>obtain⟨t,rfl⟩:=aQ;cases C;exact⟨typeIs_str _ _ _,λq e=>by cases e⟩
 |ref a=>
  refine J aQ<|fw ?_;intro cd;replace C:(I a).bind O.ty=kZ h3:=C;cases X:I a with
  |none=>replace C:=X▸C;exact bY C
  |some o=>
   replace C:=X▸C;have R:=S.rep a _ X;clear X;cases o with
   |list aa=>cases C;obtain⟨ag,k,e,-⟩:=R;exact⟨(bb _ e rfl),λb aA=>by cases aA;exact(bb _ e rfl)⟩
   |tup aa=>cases C;obtain⟨ag,k,e,-⟩:=R;exact⟨(bb _ e rfl),λb aA=>by cases aA;exact(bb _ e rfl)⟩
   |cu ah=>cases C;obtain⟨U,D,-⟩:=R;exact⟨D.typeIs,D.mapOf.noDict⟩
   |gD ah=>cases C;obtain⟨U,D,-⟩:=R;exact⟨D.typeIs,D.mapOf.noDict⟩
   |inst _ _=>exact bY C
   |attrs _ _=>exact bY C
 |_=>exact bY C
structure jo (T:String)(x:Str)(id:String):Prop where
 Xp:PlainAttrs T
 slot:Slot T x id
 typ:typeOf (.builtin id)=pure (.type "method_descriptor")
abbrev q6 (T:String)(R:aI):aI:=λk am S I=>dq S λo S=>o.ty I=kZ T/\R k am (o::S) I
variable{l0:String}
theorem RU (M:jo h3 w l0)(d:eg c b (.builtin l0) jP)(C:bA c b aq nm aC cy)(aE:gY c b aq nm ah aZ)(aP:jC ah)(he:∀af,eval (.Call (.Attribute aC w h4) ah [] pos) af=(do
 let c2<-eval aC af;ach h4.atName;let(f,first)<-io [c2] (Ll c2 w<|aJ af);kd pos f first (L9 pos<|gM ah af)<|wU pos<|Bx [] af)):bA c b aq nm (.Call (.Attribute aC w h4) ah [] pos) λR=>cy (q6 h3<|aZ<|cG jP (eL (ah.length+1) []) R):=by
 refine⟨λW af am I s R j T E L h F S ad=>?_⟩;refine methodCall_KW (po (C.r W af am I s _ _ _ E L h F S ad) (λv aT A=>gi A λo au aw a0 U bu aI=>?_) λq q aC=>aC)<|he af;obtain⟨D,hd⟩:=tQ a0 aw bu;refine getMethod_builtin D M.Xp M.slot M.typ hd<|po (uP (P:=λq=>True) aE L h (F.bT U) a0 aI (aP _ _) (λq q q q=>trivial) (λC q=>vV λq aC=>by cases aC) λaa ag Z ay aX ar O an av=>?_) (dF.trans U) λq q aC=>aC;exact po (d W Z ay _ E (o::aa) (v::ag) L ar ⟨aw,aX⟩ (m4 (P:=λaa S=>jP aa (o7 ⟨c,b,j⟩ R am S) Z) (aa:=o::aa) (congrArg (· +1) an)<|by refine J ur<|J (aaG _ _ _) ?_;exact av)) (dF.trans O) λq q aC=>aC
structure so (K:Frag)(ae bo:Addr):Prop where
 makes:makesIn K ae=true
 find:findIn K (.ref ae) "__init__"=kZ (kZ (.ref bo))
 typ:typeIn K (.ref bo)=kZ (.type "function")
 keep:mz K (.ref ae)=true
theorem Vw (aU:c.Ok)(hm:so c.K ae l) (C:∀a d,a≠d->I a=By->I d=By->be c e (.ref l) (.ref a::aa) (λu Z=>u=.none/\ab (.ref a) Z) ((I.set d<|.attrs ae []).set a<|.inst ae d)):be c (e+1) (.ref ae) aa ab I:=by
 intro W s dD ag R L S hf aX P;refine J hf<|bP λbz aN=>?_;obtain⟨B,g,d,t,os⟩:=s;obtain⟨aV,ak,an,-⟩:=hm;have bZ:=aU.gE.keeps S.keep;obtain⟨au,az,aG⟩:=L;refine aN<|make_core (makes_of bZ aV) (looks_findIn bZ ak) (λself=>bind_fn bZ self an) (.inl rfl) ?_;have aP:=S.alloc emptyDict (.attrs ae []) ⟨(e5 ([]) (0) (ph _ rfl) trivial),λq C=>by cases C⟩;have aK:(B.push emptyDict).objs.size=B.objs.size+1:=d8 ..;have aB:=aP.alloc (instObj ae B.objs.size) (.inst ae B.objs.size) (by refine(?_:Lm _ _=_);exact ph _ rfl);have av:bG cp I ⟨B,g,d,t,os⟩ _ _:=(bG.alloc emptyDict<|.attrs ae []).trans<|bG.alloc (instObj ae B.objs.size)<|.inst ae B.objs.size;have a8:({heap:=B.push emptyDict,gens:=g,drawn:=d,toks:=t,os:=os}:eN).heap.objs.size=B.objs.size+1:=aK;rw[a8] at aB av;refine C (B.objs.size+1) B.objs.size (Nat.succ_ne_self _) (S.zU<|Bv _) S.lA _ _ (.ref l) (.ref (B.objs.size+1)::ag) _ ⟨?_,?_,aG⟩ aB rfl ⟨rfl,aX⟩ ?_
 ·have:rZ (.builtin "type.__call__" ⟨.ref ae::ag,[]⟩)=1:=by ext
  refine(?_:W.depth+rZ _+2*e+4<=_);exact bS 4449241800766762929227907278059009509505 au this
 ·have:Bz (.builtin "type.__call__" ⟨.ref ae::ag,[]⟩)=1:=by ext
  refine(?_:W.units+Bz _+20*e+100<=_);exact bS 4449205454689101356070525052666938165377 az this
 ·intro v ay aM;refine gi aM λu Z aQ ar O z X=>?_;clear aM;subst z;exact J aQ<|⟨rfl,P _ _<|lC ar (av.trans O) X⟩
set_option tactic.hygienic true
theorem a9.newList (S:a9 c I s)(C:bV aa ag.toList):a9 c (I.set s.heap.objs.size<|.list aa) {s with heap:=s.heap.push {cls:=.type "list",data:=.seq ag}}:= S.alloc _ (.list aa)<|e5 ag (0) (ph _ rfl) C
theorem tU (S:a9 c I s)(aH:bG cp Z ay I s)(C:bV aa ag.toList)(X:∀a D,ei I D a (.list aa)->ab (.ref a) D): dF c Z ay ab (.ref s.heap.objs.size) {s with heap:=s.heap.push {cls:=.type "list",data:=.seq ag}}:= lC (S.newList C) (aH.trans<|.alloc _ _)<|X _ _ ⟨S.lA,rfl⟩
theorem str_nil_append (C:(w.length==0)=true):w++name=name:=by
 obtain⟨a⟩:=w;obtain⟨b⟩:=name;have:a=#[]:=by have av:(a.size==0)=true:=C;simpa using av
 refine J this<|(?_:(⟨#[]++b⟩:Str)=⟨b⟩);simp
theorem str_append_nil (C:(name.length==0)=true):w++name=w:=by
 obtain⟨a⟩:=w;obtain⟨b⟩:=name;have:b=#[]:=by have av:(b.size==0)=true:=C;simpa using av
 refine J this<|(?_:(⟨a++#[]⟩:Str)=⟨a⟩);simp
def eV:V->V->(V->az->Prop)->az->Prop
 |.int a,.int b,ab,I=>ab (.int<|a+b) I
 |.str x,.str y,ab,I=>ab (.str<|x++y) I/\(x++y).length<=gW
 |.ref l,.ref m,ab,I=>∃aa d,I l=kZ (.list aa)/\I m=kZ (.list d)/\aa.length+d.length<=gW/\∀a D,ei I D a (.list<|aa++d)->ab (.ref a) D
 |_,_,_,_=>False
theorem WY:fQ c aD (abU .Add) eV:=by
 intro W I s ab E a b aG ah L S aE aA ad;intros a8;cases a<;>(try exact ad.elim)<;>cases b<;>try exact ad.elim
 ·obtain⟨t,rfl⟩:=aE;obtain⟨u,rfl⟩:=aA;exact PyProof.Rows.add_int<|gn (S.tok _) (.tok _) ad
 ·rename_i x y;obtain⟨t,rfl⟩:=aE;obtain⟨u,rfl⟩:=aA;obtain⟨ad,an⟩:=ad;refine P.add_str ?_;split
  ·rename_i C;rw[str_nil_append C] at ad;exact ig S .refl ad
  ·split
   ·rename_i C;rw[str_append_nil C] at ad;exact ig S .refl ad
   ·exact⟨an,ig (S.tok _) (.tok _) ad⟩
 ·refine J aE ?_;refine J aA ?_;refine cq ad λaa d ai ao an ad=>dw (S.rep _ _ ai) λag k e i=>dw (S.rep _ _ ao) λbc aN aW T=>concat_meets (bb _ e rfl) (bb _ aW rfl) noFill_list_add seq_list_add PySem.F.slot_list_add PySem.F.entry_list_add (PySem.F.args_list_add_2 _ _) (list_addW _ _ ag bc k aN _ _ _ _<|by refine a6 aaU<|a6 aaU<|a6 i.length<|a6 T.length ?_;exact an) ⟨e,aW,?_⟩;exact tU S .refl (aa:=aa++d) (by simpa using i.append T) ad
def nU (F:Int->Int->(V->az->Prop)->az->Prop):V->V->(V->az->Prop)->az->Prop
 |.int a,.int b,ab,I=>F a b ab I
 |_,_,_,_=>False
theorem o3 {d:Int->Int->(V->az->Prop)->az->Prop}(C:∀{W:qJ} {I:az} {s:eN} {ab:V->az->Prop} {E:a3->eN->Prop} {a b:Int} {t u:Tok},a9 c I s->d a b ab I->pn c.M W (mt (.int a t)<|.int b u) (dF c I s ab) E s):fQ c e mt (nU d):=by
 intro W I s ab E a b aG ah L S aE aA ad;cases a with
 |int a=>
  cases b with
  |int b=>obtain⟨t,rfl⟩:=aE;obtain⟨u,rfl⟩:=aA;exact C S ad
  |_=>exact ad.elim
 |_=>exact ad.elim
def nV:V->V->(V->az->Prop)->az->Prop:=nU λa b ab I=>ab (.int<|a -b) I
theorem Xf:fQ c e (abU .Sub) nV:=o3 λS ad=>P.sub_int<|gn (S.tok _) (.tok _) ad
def oMod:V->V->(V->az->Prop)->az->Prop:=nU λa b ab I=>b≠0/\ab (.int<|a.fmod b) I
theorem W9:fQ c e (abU .Mod) oMod:=o3 λS ad=>mod_int' ad.1<|gn (S.tok _) (.tok _) ad.2
def oDiv:V->V->(V->az->Prop)->az->Prop:=nU λa b ab I=>b≠0/\b.natAbs<1073741824/\ab (.int<|a.fdiv b) I
theorem WZ:fQ c e (abU .FloorDiv) oDiv:=o3 λS ad=>floordiv_int ad.1 (gn (S.tok _) (.tok _) ad.2.2)<|.inl<|PyProof.noPylong_small ad.2.1
def tw:V->V->(V->az->Prop)->az->Prop:=nU λa b ab I=>0<=b/\b<=1000000/\a.natAbs<2^64/\∀v,v=a^b.toNat->ab (.int v) I
theorem Xe:fQ c e (abU .Pow) tw:=o3 λS ad=>pow_int_small ad.1 ad.2.1 ad.2.2.1<|gn (S.tok _) (.tok _)<|ad.2.2.2 _ rfl
noncomputable def times (k:Int)(aa:List V):List V:=(dr k.toNat aa).flatten
theorem Ts (C:bV aa ag.toList)(k:Nat):bV (dr k aa).flatten (wV (λba bh=>ba++bh) #[] (dr k ag)).toList:=by
 have g:∀(k:Nat) (N:Array a3) (as:List V),bV as N.toList->bV (as++(dr k aa).flatten) (wV (λba bh=>ba++bh) N<|dr k ag).toList:=by
  intro k;induction k with
  |zero=>intro N as C;simpa using C
  |succ k D=>intro N as aE;exact J aaV<|J n9<|a6 (aaG _ _ _)<|J aaV<|J n7<|D _ _ (by simpa using aE.append C)
 simpa using g k #[] [] trivial
noncomputable def qi (k:Int)(x:Str):Str:=if k<1 then Str.empty else if(k==1||x.length==0)=true then x else⟨(dr k.toNat x.cps).foldl (· ++ ·) #[]⟩
theorem V6 {b:Tok}(S:a9 c I s)(ai: -1000<pt)(ao:pt<1000)(Q:w.length<=1000)(aj:(qi pt w).length<=gW)(X:ab (.str<|qi pt w) I): pn c.M bo (abU .Mult (.str w ku)<|.int pt b) (dF c I s ab) E s:=by
 refine P.mul_str (by simp;exact⟨c4 7709158583 ai,c4 470313992 ao⟩) (λ_ _=>?_) (λ_ _=>?_) ?_
 ·intro C;have a7:(w.length:Int)<=(2^63 -1)/pt:=Int.le_ediv_of_mul_le (c4 13672696 ‹_›) (by have:(w.length:Int)*pt<=1000*1000:=Int.mul_le_mul (bM 7517356199 Q) (c4 470293511 ao) (c4 13672695 ‹_›) (by decide);exact c4 127200498894162183 this);exact dZ 2802452559 C a7
 ·have:w.length*pt.toNat<=1000*1000:=Lo Q<|dZ 60599835649 ao rfl;simp[iL,gW];exact bM 496876948392961 this
 ·unfold qi at X aj;split
  ·rename_i C;rw[if_pos C] at X aj;exact⟨aj,ig (S.tok _) (.tok _) X⟩
  ·rename_i C;rw[if_neg C] at X aj;split
   ·rename_i av;rw[if_pos av] at X;exact ig S .refl X
   ·rename_i av;rw[if_neg av] at X aj;exact⟨aj,ig (S.tok _) (.tok _) X⟩
def m1:V->V->(V->az->Prop)->az->Prop
 |.int a,.int b,ab,I=>IntMulOk a b/\ab (.int<|a*b) I
 |.str x,.int k,ab,I=> -1000<k/\k<1000/\x.length<=1000/\(qi k x).length<=gW/\ab (.str<|qi k x) I
 |.ref l,.int k,ab,I=>∃aa,I l=kZ (.list aa)/\ -(2^63:Int)<=k/\k<2^63/\aa.length*k.toNat<=2^24/\∀a D,ei I D a (.list<|times k aa)->ab (.ref a) D
 |_,_,_,_=>False
theorem Xa:fQ c e (abU .Mult) m1:=by
 intro W I s ab E a b aG ah L S aE aA ad;cases a<;>(try exact ad.elim)<;>cases b<;>try exact ad.elim
 ·obtain⟨t,rfl⟩:=aE;obtain⟨u,rfl⟩:=aA;exact P.mul_int (gn (S.tok _) (.tok _) ad.2) ad.1
 ·obtain⟨t,rfl⟩:=aE;obtain⟨u,rfl⟩:=aA;obtain⟨ai,ao,a7,bR,X⟩:=ad;exact V6 S ai ao a7 bR X
 ·rename_i l x;refine J aE ?_;obtain⟨u,rfl⟩:=aA;refine tx ad λaa ai d G aK ad=>dw (S.rep _ _ ai) λbq k an i=>?_;have f:bq.size*x.toNat<=2^24:=by refine a6 aaU<|a6 i.length ?_;exact aK
  refine wpAny_binaryOp_repeat_ref (T:="list") (U:="int") (by decide) (bb _ an rfl) (λay=>typeIs_int ay x u) noFill_list_mul F.fills_int_mul ms repeat_list F.slot_int_index.lookup<|Lp ms (typeIs_int s x u) F.entry_int_rmul (F.args_int_rmul_2 _ _) (int___rmul___int_list x u l bq k) ⟨an,rfl,(bb _ an rfl),Lp F.slot_list_mul (bb _ an rfl) F.entry_list_mul (F.args_list_mul_2 _ _) (AutoListH.list___mul___list_int_3 l bq k x u (by simp[Builtin.List.listFitsIndex];exact⟨c4 29182946487 d,c4 1812491272 G⟩) (by omega)<|by simp[aaW,gW];exact bM 2348911617 f) ⟨an,?_⟩⟩;have aL:bV (times x aa) (wV (λba bh=>ba++bh) #[] (dr (if bq.isEmpty=true then 0 else x.toNat) bq)).toList:=by
   split
   ·rename_i he;have:bq=#[]:=by simpa using he
    clear an f he;subst this;have aX:aa=[]:=by
     clear ai aK;cases aa with
     |nil=>rfl
     |cons _ _=>exact i.elim
    refine J aX ?_;have aj:∀k:Nat,(dr k ([]:List V)).flatten=[]:=λk=>by
     induction k with
     |zero=>rfl
     |succ k D=>refine J aaV<|J n9<|J D ?_;rfl
    unfold times;exact J (aj _)<|trivial
   ·exact Ts i _
  exact tU S .refl aL ad
def oLt:V->V->(V->az->Prop)->az->Prop:=nU λa b ab I=>ab (.bool<|decide<|a<b) I
theorem W8:fQ c e (Cj .Lt) oLt:=o3 λS ad=>P.lt_int<|fD S .refl ad
def oLe:V->V->(V->az->Prop)->az->Prop:=nU λa b ab I=>ab (.bool<|decide<|a<=b) I
theorem W7:fQ c e (Cj .LtE) oLe:=o3 λS ad=>P.le_int<|fD S .refl ad
def v9:V->V->(V->az->Prop)->az->Prop:=nU λa b ab I=>ab (.bool<|decide<|a>b) I
theorem W2:fQ c e (Cj .Gt) v9:=o3 λS ad=>P.gt_int<|fD S .refl ad
def m0:V->V->(V->az->Prop)->az->Prop:=nU λa b ab I=>ab (.bool<|decide<|a>=b) I
theorem W1:fQ c e (Cj .GtE) m0:=o3 λS ad=>P.ge_int<|fD S .refl ad
noncomputable def V.isNone:V->Bool
 |.none=>true
 |_=>false
theorem HE (C:u.is v)(aP:u.plain):(v==.none)=u.isNone:=by cases u<;>first|exact aP.elim|(cases C;rfl)|(obtain⟨t,rfl⟩:=C;rfl)
def tv:V->V->(V->az->Prop)->az->Prop
 |u,.none,ab,I=>dE u<|ab (.bool u.isNone) I
 |_,_,_,_=>False
theorem W4:fQ c e (Cj .Is) tv:=by
 intro W I s ab E a b aG ah L S aE aA ad;cases b<;>try exact ad.elim
 refine J aA ?_;replace ad:=Af ad;exact is_none<|J (HE aE ad.1)<|fD S .refl ad.2
def o1:V->V->(V->az->Prop)->az->Prop
 |u,.none,ab,I=>dE u<|ab (.bool (!u.isNone)) I
 |.ref a,.ref b,ab,I=>a=b/\ab (.bool false) I
 |_,_,_,_=>False
theorem W5:fQ c i (Cj .IsNot) o1:=by
 intro W I s ab E a b aG ah L S aE aA ad;cases b<;>try exact ad.elim
 ·refine J aA ?_;have ad:dE _ _:=ad;replace ad:=Af ad;exact isNot_none<|J (HE aE ad.1)<|fD S .refl ad.2
 ·cases a<;>try exact ad.elim
  refine J aE ?_;refine J aA ?_;rename_i b a;obtain⟨rfl,ad⟩:=ad;have e:∀b:Addr,isSame (.ref b) (.ref b)=pure true:=λb=>by exact if_pos<|beq_self_eq_true b
  refine(?_:pn c.M W (do return Value.bool (!(<-isSame (.ref _) (.ref _)))) _ E s);exact J (e _)<|sg<|mB<|mB<|fD S .refl ad
set_option tactic.hygienic false
set_option tactic.hygienic true
noncomputable def pick (k:Int)(aa:List aR):Option aR:=if 0<=k then aa[k.toNat]? else if-(aa.length:Int)<=k then aa[(k+aa.length).toNat]? else By
def item:O->V->V->Prop
 |.list aa,.int k,u=>pick k aa=kZ u/\aa.length<2^62
 |.tup aa,.int k,u=>pick k aa=kZ u/\aa.length<2^62
 |.cu ah,.int k,u=>ah.lookup k=kZ u
 |.gD ah,.str x,u=>ah.lookup x=kZ u
 |_,_,_=>False
noncomputable def Jj (k:Int)(x:Str):Option Nat:=(seqIndex? k x.length).bind (x.cps[·]?)
def gc:V->V->(V->az->Prop)->az->Prop
 |.ref l,i,ab,I=>∃o u,I l=kZ o/\item o i u/\ab u I
 |.str x,.int k,ab,I=>∃d,Jj k x=kZ d/\ -1000000<k/\k<1000000/\ab (.str ⟨#[d]⟩) I
 |_,_,_,_=>False
theorem Jk (C:pick pt aa=kZ u)(i:bV aa ag.toList):∃j v,seqIndex? pt ag.size=kZ j/\ag[j]?=kZ v/\u.is v/\(0<=pt->ag[pt.toNat]?=kZ v)/\(pt<0-> -(ag.size:Int)<=pt/\ag[(pt+ag.size).toNat]?=kZ v):=by
 refine fw ?_;intro a;have an:aa.length=ag.size:=J i.length<|J aaU rfl;unfold pick at C;split at C
 ·rename_i h0;obtain⟨v,ai,ao⟩:=i.get C;replace ai:=nc▸ai;have aG:pt.toNat<ag.size:=by have:=(BA.mp ai).1;exact this
  refine(AY pt.toNat v ?_ ai ao (λq=>ai) λX=>absurd X<|c4 1015562 h0);unfold seqIndex?;simp only[show¬ pt<0 by exact c4 1015562 h0,if_false];split<;>first|rfl|(rename_i X;exfalso;revert X;simp;exact⟨c4 1011959 h0,gF 8054245896 aG rfl⟩)
 ·rename_i h0;split at C
  ·rename_i ai;obtain⟨v,ao,a7⟩:=i.get C;rw[nc,an] at ao;have aG:(pt+ag.size).toNat<ag.size:=(BA.mp ao).1;refine(AY (pt+ag.size).toNat v ?_ ao a7 (λX=>absurd X<|c4 1028347 h0) λq=>⟨by refine a6 an ?_;exact ai,ao⟩);unfold seqIndex?;simp only[show pt<0 by exact c4 1031944 h0,if_true];split<;>first|rfl|(rename_i X;exfalso;revert X;simp;exact⟨gF 469972820822263 an ai,dZ 67387826312 h0⟩)
  ·exact bY C
theorem y9 [BEq aR][LawfulBEq aR][DecidableEq aR]{k:aR}:∀{ah:List (aR×V)} {U:List (aR×a3)},iT ah U->ah.lookup k=kZ u->∃v,valueAt U k=kZ v/\u.is v:=by
 intro h;induction h with
 |nil=>intro s l C;exact bY C
 |cons p ah D=>
  intro f;cases f with
  |nil=>intro C l;exact C.elim
  |cons e U=>
   intro g C;obtain⟨ai,ao,a7⟩:=g;rw[wQ] at C;unfold valueAt;refine J gf<|a6 ai ?_;by_cases X:k=p.1
   ·subst X;simp at C;exact a6 C<|(bb e.2 (by simp) ao)
   ·have am:(k==p.1)=false:=by simpa using X
    have z:decide (p.1=k)=false:=by simpa using λe=>X e.symm
    replace C:=am▸C;exact J z<|D a7 C
theorem rf (k:Int)(t:Tok):(intKind c.prog c.w).is k (.int k t)=true:=by refine(?_:g8 k (.int k t)=true);simp[g8]
theorem tg (k:Str)(t:Tok):(strKind c.prog c.w).is k (.str k t)=true:=by refine(?_:wW k (.str k t)=true);simp[wW]
abbrev Cr (c:cz)(ar:a3->a3->Sem a3)(aq:op):Prop:=∀(W:qJ) (I:az) (s:eN) (ab:V->az->Prop) (E:a3->eN->Prop) (a b:V) (aG ah:a3),a9 c I s->a.is aG->b.is ah->aq a b ab I->pn c.M W (ar aG ah) (dF c I s ab) E s
theorem Jc:Cr c getItem gc:=by
 intro W I s ab E o i aF kQ S aw aL ad;intros a8;cases o<;>try exact ad.elim
 ·rename_i x;cases i<;>try exact ad.elim
  obtain⟨d,C,ai,ao,X⟩:=ad;obtain⟨t,rfl⟩:=aw;obtain⟨u,rfl⟩:=aL;exact P.getItem_str (by simp;exact⟨c4 42068896951 ai,c4 2617797640 ao⟩) C<|ig (S.tok _) (.tok _) X
 refine J aw ?_;rename_i l;refine bP λbz aN=>?_;obtain⟨o,u,ai,ao,ad⟩:=ad;refine aN ?_;have R:=S.rep _ _ ai;clear ai;cases o<;>(try exact ao.elim)<;>cases i<;>try exact ao.elim
 ·rename_i aa k;refine bP λbz aN=>?_;obtain⟨t,rfl⟩:=aL;obtain⟨ag,bq,e,is⟩:=R;obtain⟨aP,aj⟩:=ao;obtain⟨j,v,-,-,aV,a,z⟩:=Jk aP is;refine aN ?_;have an:aa.length=ag.size:=J is.length<|J aaU rfl;by_cases h0:0<=k
  ·have:=a h0;have aG:k.toNat<ag.size:=(BA.mp this).1;exact wpAny_getItem_list (en e) h0 (me 3319752173100887048 aj an aG rfl) this<|jE aV S .refl ad
  ·obtain⟨av,aQ⟩:=z<|c4 1031944 h0;exact wpAny_getItem_list_neg (en e) (c4 1031944 h0) av (gF 1925025180176903351 aj an av) aQ<|jE aV S .refl ad
 ·rename_i aa k;refine bP λbz aN=>?_;obtain⟨t,rfl⟩:=aL;obtain⟨ag,bq,e,is⟩:=R;obtain⟨aP,aj⟩:=ao;obtain⟨j,v,a7,bR,aV,a,z⟩:=Jk aP is;refine aN ?_;have an:aa.length=ag.size:=J is.length<|J aaU rfl;refine getItem_tuple (items:=ag) (jF _ e rfl bq rfl) ?_ ?_ a7 bR (jE aV S .refl ad)
  ·by_cases h0:0<=k
   ·exact c4 259026103 h0
   ·have:=(z<|c4 1031944 h0).1;exact gF 1925025180176903351 aj an this
  ·by_cases h0:0<=k
   ·have aG:k.toNat<ag.size:=(BA.mp<|a h0).1;exact me 3319752173100887048 aj an aG rfl
   ·exact c4 16477192 h0
 ·rename_i ah k;refine bP λbz aN=>?_;obtain⟨t,rfl⟩:=aL;obtain⟨U,D,n⟩:=R;obtain⟨v,a7,aV⟩:=y9 n ao;exact aN<|wpAny_getItem_of (k:=k) (rf k t) D.mapOf a7<|jE aV (S.tok _) (.tok _) ad
 ·rename_i ah k;refine bP λbz aN=>?_;obtain⟨t,rfl⟩:=aL;obtain⟨U,D,n⟩:=R;obtain⟨v,a7,aV⟩:=y9 n ao;exact aN<|wpAny_getItem_of (k:=k) (tg k t) D.mapOf a7<|jE aV (S.tok _) (.tok _) ad
theorem W6:fQ c e getItem gc:=λW I s ab E a b aG ah q=>Jc W I s ab E a b aG ah
theorem rJ (D:s.TypeIs v h3) (an:wX (.type h3) "__getitem__"=pure (kZ<|.builtin l0))(C:pn c.M bo (getItem v dD) f2 E s)(ax:subscripted aP false v dD=operate bE (getItem v dD)): pn c.M bo (subscriptTail aC aP v dD) f2 E s:=by
 unfold subscriptTail;refine sg<|J (getitemInPython_of_ne D.not_modules)<|sg<|wpAny_specialOf D an ?_;have fin:pn c.M bo (subscripted aP false v dD) (λr aO=>pn c.M bo (aaP aC v r>>=λq=>pure r) f2 E aO) E s:=by exact J ax<|wpAny_operating<|po C (λr aO bn=>sg<|wpAny_letTemporaryGo<|mB bn) λq q x=>x
 first
  |exact mB<|sg fin
  |exact sg<|mB<|sg fin
variable{aJ:V}
theorem I5 (S:a9 c I s)(aw:ak.is v)(C:gc ak aJ ab I):∃T id,s.TypeIs v T/\wX (.type T) "__getitem__"=pure (kZ<|.builtin id):=by
 cases ak<;>try exact C.elim
 ·obtain⟨t,rfl⟩:=aw;exact e5 ("str") _ (typeIs_str s _ t) F.slot_str_getitem.lookup
 refine J aw<|bP λbz aN=>?_;obtain⟨ak,u,ai,ao,-⟩:=C;refine aN ?_;cases ak with
 |list aa=>exact(e5 ("list") _ (tQ S (u:=.ref _) rfl<|by refine(?_:(I _).bind O.ty=_);refine J ai ?_;rfl).1 Lq)
 |tup aa=>exact(e5 ("tuple") _ (tQ S (u:=.ref _) rfl<|by refine(?_:(I _).bind O.ty=_);refine J ai ?_;rfl).1 F.slot_tuple_getitem.lookup)
 |cu aa=>exact(e5 ("dict") _ (tQ S (u:=.ref _) rfl<|by refine(?_:(I _).bind O.ty=_);refine J ai ?_;rfl).1 slot_dict_getitem.lookup)
 |gD aa=>exact(e5 ("dict") _ (tQ S (u:=.ref _) rfl<|by refine(?_:(I _).bind O.ty=_);refine J ai ?_;rfl).1 slot_dict_getitem.lookup)
 |_=>exact ao.elim
theorem RR (C:bA c b aq nm aC aZ)(aL:bA c b aq nm aP cy)(ax:∀o i,subscripted aP false o i=operate [o,i] (getItem o i)):bA c b aq nm (.Subscript aC aP pos) λR=>aZ (cy<|bt gc R):=by refine⟨λW af am I s R j T E L h F S ad=>?_⟩;refine Subscript_<|po (C.r W af am I s _ _ _ E L h F S ad) (λaF aT A=>cq A λo au aw a0 U aI=>?_) λq q e=>e;refine po (aL.r W af am au aT _ _ _ E L h (F.bT U) a0 aI) (λkQ H A=>cq A λi aS aL ak aR bd=>?_) λq q e=>e;obtain⟨Ty,id,D,an⟩:=I5 ak aw bd;refine po (rJ D an (W6 W aS H _ E o i aF kQ L ak aw aL bd)<|ax _ _) (dF.trans<|U.trans aR) λq q e=>e
noncomputable def cut (lo aL:Option Int)(aa:List aR):List aR:=(aa.drop<|lo.elim 0<|Lr aa.length).take<|aL.elim aa.length (Lr aa.length) -lo.elim 0 (Lr aa.length)
theorem HB (i:bV aa ag.toList)(lo aL:Option Int):bV (cut lo aL aa) (slicePick ag lo aL By).toList:=by have e:ag.size=aa.length:=a6 aaU<|J i.length rfl;refine J (slicePick_plain _ _ _) ?_;unfold cut;exact J e<|(i.drop _).take _
noncomputable def Je:Option Int->List V->List V
 |none,S=>S
 |some i,S=> .int i::S
abbrev f9 (R:aI):aI:=λk am S I=>dq S λu S=>uE u λi=>R k am (.int i::S) I
variable{mp:Option Int}
theorem rE {P:Option Int->List V->Prop}(e:mp.isSome=cD)(C:qg cD (Je mp aa) P):P mp aa:=by subst e;cases mp<;>exact C
structure lL (c:cz)(n:Nat)(sc:ck)(nm:List Str)(x:Option Expr)(ae:a5):Prop where
 r:∀(W:qJ) (af:Env) (am:List V) (I:az) (s:eN) (R:aI) (j:jQ) (T:List V) (E:a3->eN->Prop),e9 W n->e1 c af sc nm->cm af nm am I s.heap->a9 c I s->ae R ⟨c,n,j⟩ am T I->
  pn c.M W (evalPart x af) (fun v ay=>∃p Z,IsPart v p/\a9 c Z ay/\bG cp I s Z ay/\p.isSome=x.isSome/\R ⟨c,n,j⟩ am (Je p T) Z) E s
theorem Sl:lL c e aq nm By λR=>R:=⟨λq q q q q q q q q q q q S ad=>by refine J (BB _) ?_;exact mB<|gA _ _ .none S .refl ⟨rfl,ad⟩⟩
theorem Sk (C:bA c b aq nm aC cy):lL c b aq nm (kZ aC) λR=>cy (f9 R):=by refine⟨λW af am I s R j T E L h F S ad=>?_⟩;refine J (evalPart_some _ _)<|po (C.r W af am I s _ _ _ E L h F S ad) (λv aT A=>cq A λu au aQ a0 U m=>?_) λq q aC=>aC;obtain⟨i,p,aI⟩:=h1 m;clear m;replace aQ:=p▸aQ;obtain⟨t,rfl⟩:=aQ;exact(gA _ _ (.int i t) a0 U ⟨rfl,aI⟩)
noncomputable def sO (lo aL:Option Int)(x:Str):Str:=if((aaX lo aL 1 x.length).length==x.length)=true then x else⟨((aaX lo aL 1 x.length).filterMap (x.cps[·]?)).toArray⟩
def cutAt (o:V)(lo aL:Option Int)(I:az)(ab:V->az->Prop):Prop:=match o with
 |.ref l=>∃aa,I l=kZ (.list aa)/\aa.length<=gW/\∀a D,ei I D a (.list<|cut lo aL aa)->ab (.ref a) D
 |.str x=>(sO lo aL x).length<=gW/\ab (.str<|sO lo aL x) I
 |_=>False
abbrev oJ (eI b:Bool)(R:aI):aI:=λk am S I=>qg b S λaL S=>qg eI S λlo S=>dq S λo S=>cutAt o lo aL I λu Z=>R k am (u::S) Z
abbrev Hs (P:cz->az->Addr->List V->Prop)(eI b:Bool)(R:aI):aI:=λk am S I=>qg b S λaL S=>qg eI S λlo S=>dq S λo S=>hi o λl=>∃aa,P k.c I l aa/\aa.length<=gW/\∀a D,ei I D a (.list<|cut lo aL aa)->R k am (.ref a::S) D
variable{fW kP:Option Expr}
theorem RN {P:cz->az->Addr->List V->Prop}(bI:∀{I:az} {s:eN} {l:Addr} {aa:List V},a9 c I s->P c I l aa->∃ag k,s.heap.get? l=kZ (listOf ag k)/\bV aa ag.toList)(C:bA c aD aq nm aC aZ)(an:lL c aD aq nm fW Cl)(aQ:lL c aD aq nm kP cy):bA c aD aq nm (.Subscript aC (.Slice fW kP By cL) pos) λR=>aZ (Cl<|cy<|Hs P fW.isSome kP.isSome R):=by refine⟨λW af am I s R j T E L h F S ad=>?_⟩;intros a8;refine Subscript_<|po (C.r W af am I s _ _ _ E L h F S ad) (λaF aT A=>cq A λo au aw a0 U aI=>?_) λq q e=>e;have ba:=F.bT U;refine wpAny_Slice<|po (an.r W af am au aT _ _ _ E L h ba a0 aI) (λeX H A=>gi A λd aS dE ak aR f bd=>?_) λq q e=>e;refine po (aQ.r W af am aS H _ _ _ E L h (ba.bT aR) ak bd) (λN aO A=>gi A λG aM y a2 bj w bn=>?_) λq q e=>e;refine bP λbz aN=>?_;obtain⟨l,p,aa,v,aj,bn⟩:=eP<|rE (P:=λfW ar=>dq ar λa S=>hi a λl=>∃aa,P c aM l aa/\aa.length<=gW/\∀b D,ei aM D b (.list<|cut fW G aa)->R ⟨c,aD,j⟩ am (.ref b::S) D) f<|rE w bn;refine aN<|J (BB _)<|mB ?_;clear aI bd;replace aw:=p▸aw;refine J aw ?_;obtain⟨ag,k,e,i⟩:=bI a2 v;have cj:=(en e).push {cls:=.type "slice",data:=.fields #[eX,N,.none]};refine rJ (r1 (s:={aO with heap:=aO.heap.push {cls:=.type "slice",data:=.fields #[eX,N,.none]}}) cj) Lq (jd cj (wY ..) dE y .none (by simp) ?_<|by refine a6 aaU<|a6 i.length ?_;exact aj) rfl;exact tU (a2.push _) ((U.trans aR).trans<|bj.trans<|.push _) (HB i d G) bn
theorem part_of (C:IsPart v mp):∃l:Option (Int×Tok),v=partValue l/\l.map (·.1)=mp:=by
 cases C with
 |none=>exact⟨By,rfl,rfl⟩
 |int i t=>exact⟨kZ (i,t),rfl,rfl⟩
theorem RL (C:bA c b aq nm aC aZ)(an:lL c b aq nm fW Cl)(aQ:lL c b aq nm kP cy):bA c b aq nm (.Subscript aC (.Slice fW kP By cL) pos) λR=>aZ (Cl<|cy<|oJ fW.isSome kP.isSome R):=by
 refine⟨λW af am I s R j T E L h F S ad=>?_⟩;intros a8;refine Subscript_<|po (C.r W af am I s _ _ _ E L h F S ad) (λaF aT A=>cq A λo au aw a0 U aI=>?_) λq q e=>e;intros bs;have ba:=F.bT U;refine wpAny_Slice<|po (an.r W af am au aT _ _ _ E L h ba a0 aI) (λeX H A=>gi A λd aS dE ak aR f bd=>?_) λq q e=>e;refine po (aQ.r W af am aS H _ _ _ E L h (ba.bT aR) ak bd) (λN aO A=>gi A λG aM y a2 bj w bn=>?_) λq q e=>e;intros bc;have a3:=rE (P:=λfW ar=>dq ar λo S=>cutAt o fW G aM λu Z=>R ⟨c,b,j⟩ am (u::S) Z) f<|rE w bn;clear aI bd bn;refine J (BB _)<|mB ?_;cases o with
 |ref l=>obtain⟨aa,v,aj,bn⟩:=a3;cases aw;obtain⟨ag,k,e,i⟩:=a2.rep _ _ v;have cj:=(en e).push {cls:=.type "slice",data:=.fields #[eX,N,.none]};refine rJ (r1 (s:={aO with heap:=aO.heap.push {cls:=.type "slice",data:=.fields #[eX,N,.none]}}) cj) Lq (jd cj (wY ..) dE y .none (by simp) ?_<|by refine a6 aaU<|a6 i.length ?_;exact aj) rfl;exact tU (a2.push _) ((U.trans aR).trans<|bj.trans<|.push _) (HB i d G) bn
 |str x=>
  obtain⟨aj,X⟩:=a3;obtain⟨t,rfl⟩:=aw;obtain⟨a5,rfl,rfl⟩:=part_of dE;obtain⟨bg,rfl,rfl⟩:=part_of y;refine rJ (typeIs_str _ x t) PySem.F.slot_str_getitem.lookup (wpAny_getItem_str_slice (l:=a5) (u:=bg) (st:=By) ⟨_,ph _ rfl,rfl,rfl⟩ rfl ?_) rfl;have aH:=(U.trans aR).trans<|bj.trans<|.push (own:=cp) {cls:=.type "slice",data:=.fields #[partValue a5,partValue bg,.none]};have be:=a2.push {cls:=.type "slice",data:=.fields #[partValue a5,partValue bg,.none]};unfold sO at aj X;unfold sliceMade slicePicked;simp only[Option.map_none,Option.getD_none,beq_self_eq_true,Bool.true_and];split
  ·rename_i C;rw[if_pos C] at X;exact ig be aH X
  ·rename_i C;rw[if_neg C] at X aj;exact⟨aj,ig (be.tok _) (aH.trans<|.tok _) X⟩
 |_=>exact a3.elim
theorem Sd {f:aR->Option cQ}{g:aR->cQ}:∀{l:List aR},(∀k∈l,f k=kZ (g k))->l.filterMap f=l.map g:=by
 intro h;induction h with
 |nil=>intro s;exact rfl
 |cons a l D=>intro C;exact J Le<|J (C a<|.head _)<|J n8<|J (D λk ap=>C k<|.tail _ ap) rfl
theorem Xx (bq:Array a3):slicePick bq By By (kZ (-1))=bq.reverse:=by
 unfold slicePick sliceBounds;simp only[Option.getD_some,show¬ ((-1:Int)>0) by decide,if_false];unfold sliceRange;simp only[show¬ ((-1:Int)>0) by decide,if_false];apply Array.ext';refine J t5<|J BC ?_;have aU:(if((bq.size:Int) -1)> -1 then((bq.size:Int) -1 - -1 - -1 -1)/ - -1 else 0).toNat=bq.size:=by
  split
  ·simp
  ·have:bq.size=0:=by exact bM 896202944259 ‹_›
   simp[this]
 refine J aU<|J List.filterMap_map ?_;apply wZ;intro j;have a:(g9 bq.size).filterMap ((λx=>bq[x]?)∘λ(k:Nat)=>((bq.size:Int) -1+ -1*(k:Int)).toNat)=(g9 bq.size).map (λk=>bq[bq.size -1 -k]?.getD .none):=by
  refine Sd λk ap=>?_;replace ap:=(propext Ls)▸ap;have a8:((bq.size:Int) -1+ -1*(k:Int)).toNat=bq.size -1 -k:=by rw[w3];exact dH 10886548546610172100157169923 rfl rfl rfl ap
  simp only[BD,a8];refine J (iM<|by exact bS 58886694657728770 ap rfl rfl) ?_;rfl
 refine J a ?_;by_cases bi:j<bq.size
 ·refine J qw<|J (BE bi)<|J (qx<|by rw[aaU];exact bi) ?_;simp only[m9,aaU,nc];refine J (iM<|by exact bS 58886694657728770 bi rfl rfl) ?_;rfl
 ·exact J (w0<|by simp;exact bC 82177 bi)<|J (w0<|by simp;exact bC 82177 bi) rfl
abbrev pW (R:aI):aI:=λk am S I=>dq S λo S=>hi o λl=>∃aa,I l=kZ (.list aa)/\aa.length<=gW/\∀a D,ei I D a (.list aa.reverse)->R k am (.ref a::S) D
theorem RV (C:bA c b aq nm aC aZ)(aU:bA c b aq nm aP (aM<|.int (-1))):bA c b aq nm (.Subscript aC (.Slice By By (kZ aP) cL) pos) λR=>aZ (pW R):=by refine⟨λW af am I s R j T E L h F S ad=>?_⟩;intros a8;refine Subscript_<|po (C.r W af am I s _ _ _ E L h F S ad) (λaF aT A=>cq A λo au aw a0 U m=>?_) λq q e=>e;intros bs;refine bP λbz aN=>?_;obtain⟨l,p,aa,v,aj,aI⟩:=eP m;refine aN<|wpAny_Slice<|J (BB _)<|mB<|mB ?_;intros d;refine J (evalPart_some _ _) ?_;refine po (aU.r W af am au aT (λq q ar Z=>ar=.int (-1)::T/\Z=au) j T E L h (F.bT U) a0 ⟨rfl,rfl⟩) (λaC H A=>gi A λu aS aQ ak aR w g=>?_) λq q e=>e;replace aw:=p▸aw;replace aQ:=(BF.inj w).1▸aQ;replace U:=(g7 g)▸U;replace v:=(g7 g)▸v;replace aI:=(g7 g)▸aI;replace aR:=(g7 g)▸aR;refine bP λbz aN=>?_;obtain⟨t,rfl⟩:=aQ;cases aw;obtain⟨ag,k,e,i⟩:=ak.rep _ _ v;refine aN ?_;have cj:=(en e).push {cls:=.type "slice",data:=.fields #[.none,.none,.int (-1) t]};refine rJ (r1 (s:={H with heap:=H.heap.push {cls:=.type "slice",data:=.fields #[.none,.none,.int (-1) t]}}) cj) Lq (jd cj (wY ..) .none .none (.int _ _) (by decide) ?_<|by refine a6 aaU<|a6 i.length ?_;exact aj) rfl;refine tU (ak.push _) (U.trans<|aR.trans<|.push _) ?_ aI;exact J (Xx _)<|J BC<|i.reverse
set_option tactic.hygienic false
set_option tactic.hygienic true
theorem vY (e:C.get? l=kZ (listOf ag b))(f:Array a3->Array a3):∃aN,(C.update l<|BG f).get? l=kZ (listOf (f ag) aN):= ⟨_,aaS _ e rfl⟩
theorem wG {f:Array a3->Array a3}(S:a9 c I s)(aH:bG cp Z ay I s)(C:I l=kZ (.list aa))(e:s.heap.get? l=kZ (listOf ag b))(i:bV am (f ag).toList) (X:∀D,Upd I D l (.list am)->ab .none D):dF c Z ay ab .none {s with heap:=s.heap.update l<|BG f,toks:=aD}:=by obtain⟨aN,aW⟩:=vY e f;exact wH (S.upd (t:=aD) (q:=.list am) (Lv ..) C<|e5 _ aN aW i) (aH.trans<|.upd (Lv ..) C ⟨_,aW⟩)<|X _ rfl
theorem HC (i:bV aa ag.toList)(C:u.is v):bV (aa++[u]) (ag.push v).toList:=by refine J Array.toList_push ?_;exact i.append ⟨C,trivial⟩
def qR (aa:List V)(ab:V->az->Prop)(I:az):Prop:=iq aa λo u=>gC o λl=>∃aa,I l=kZ (.list aa)/\aa.length<=gW/\∀D,Upd I D l (.list<|aa++[u])->ab .none D
theorem Nj:eg c b (.builtin "list.append") qR:=by
 intro W I s ab E aa ag L S aX ad;refine nX (iV ad aX) λo u aF v V z aw aQ g=>?_;clear aX ad;subst V;refine J z ?_;refine kL (eP g) λl f aa C aj X=>?_;replace aw:=f▸aw;refine J aw<|dw (S.rep _ _ C) λh k e i=>?_;have N:h.size<=gW:=by refine a6 aaU<|a6 i.length ?_;exact aj
 exact Lp PySem.F.slot_list_append (bb _ e rfl) PySem.F.entry_list_append (PySem.F.args_list_append_2 _ _) (AutoListH.list_append_list_val_0 l h k v N) ⟨e,wG S .refl C e (HC i aQ) X⟩
theorem VE:jo "list" "append" "list.append":=⟨BH,PySem.F.slot_list_append,F.type_list_append⟩
def qS (aa:List V)(ab:V->az->Prop)(I:az):Prop:=iq aa λo u=>gC o λl=>gC u λm=>∃aa d,I l=kZ (.list aa)/\I m=kZ (.list d)/\aa.length+d.length<=gW/\∀D,Upd I D l (.list<|aa++d)->ab .none D
theorem Nk:eg c b (.builtin "list.extend") qS:=by
 intro W I s ab E aa ag L S aX ad;refine nX (iV ad aX) λo u aF v V z aw aQ g=>?_;clear aX ad;subst V;refine J z ?_;refine bg (eP g) λl f r=>?_;replace aw:=f▸aw;refine cO (eP r) λm aB=>dp aB λf az=>fz az λaa d M=>i7 M λC av aj X=>?_;replace aQ:=f▸aQ;refine J aw ?_;refine J aQ ?_;refine dw (S.rep _ _ C) λh k e i=>dw (S.rep _ _ av) λH aN aW T=>?_;have N:h.size+H.size<=gW:=by refine a6 aaU<|a6 i.length<|a6 aaU<|a6 T.length ?_;exact aj
 exact Lp PySem.F.slot_list_extend (bb _ e rfl) PySem.F.entry_list_extend (PySem.F.args_list_extend_2 _ _) (AutoSeq1.list_extend_list_list_0 l h k m H aN (by simp[aaW];intro q;exact b1 141869322369 N) (b1 302518529 N)<|b1 36318732619905 N) ⟨e,aW,wG S .refl C e (by simpa using i.append T) X⟩
theorem VF:jo "list" "extend" "list.extend":=⟨BH,PySem.F.slot_list_extend,F.type_list_extend⟩
def uN (aa:List V)(ab:V->az->Prop)(I:az):Prop:=uC aa λo i u=>gC o λl=>hh i λk=>∃aa,I l=kZ (.list aa)/\aa.length<=gW/\k=0/\∀D,Upd I D l (.list<|u::aa)->ab .none D
theorem Nn:eg c b (.builtin "list.insert") uN:=by
 intro W I s ab E aa ag L S aX ad;intros a8;refine z3 (uD ad aX) λo i u aF kQ v aB=>rA aB λj m aw aL aQ g=>?_;clear aX ad;subst j;refine J m ?_;refine bg (eP g) λl f r=>?_;replace aw:=f▸aw;refine cO (h1 r) λk aB=>dp aB λf az=>cO az λaa M=>i7 M λC aj ap X=>?_;replace aL:=f▸aL;refine J aw<|fN (aL) λt aW=>J aW<|J ap<|dw (S.rep _ _ C) λh k e i=>?_;have N:h.size<=gW:=by refine a6 aaU<|a6 i.length ?_;exact aj
 refine Lp PySem.F.slot_list_insert (bb _ e rfl) PySem.F.entry_list_insert (PySem.F.args_list_insert_3 _ _ _) (AutoSeq1.list_insert_list_int_val_1 l h k 0 t v (by decide) N) ⟨e,wG S .refl C e ?_ X⟩;simp;exact⟨aQ,i⟩
theorem VI:jo "list" "insert" "list.insert":=⟨BH,PySem.F.slot_list_insert,F.type_list_insert⟩
theorem bV.YV (i:bV aa ag.toList)(C:u.is v):bV (aa.set e u) (ag.setIfInBounds e v).toList:=by refine J Array.toList_setIfInBounds ?_;exact i.set e C
noncomputable def hv [DecidableEq aR](k:aR)(u:V)(ah:List (aR×V)):List (aR×V):= if ah.any (λn=>n.1=k) then ah.map (λn=>if n.1=k then(n.1,u) else n) else ah++[(k,u)]
variable{U:List (aR×a3)}{aW:List (aR×V)}
theorem HN [DecidableEq aR](aQ:u.is v)(C:iT aW U):iT (hv aN u aW) (stored U aN v):=by
 have ai:∀{aW:List (aR×V)} {U:List (aR×a3)},iT aW U->aW.any (λn=>n.1=aN)=U.any (λn=>n.1=aN):=by
  intro aW;induction aW with
  |nil=>intro U C;cases U with
   |nil=>rfl
   |cons _ _=>exact C.elim
  |cons p r D=>intro U C;cases U with
   |nil=>exact C.elim
   |cons e U=>exact J rX<|J rX<|J (D C.2.2)<|J C.1 rfl
 have ao:∀{aW:List (aR×V)} {U:List (aR×a3)},iT aW U->iT (aW.map λn=>if n.1=aN then(n.1,u) else n) (U.map λn=>if n.1=aN then(n.1,v) else n):=by
  intro aW;induction aW with
  |nil=>intro U C;cases U with
   |nil=>exact C
   |cons _ _=>exact C.elim
  |cons p r D=>intro U C;cases U with
   |nil=>exact C.elim
   |cons e U=>
    refine J n8<|J n8<|a6 C.1<|⟨?_,?_,D C.2.2⟩
    ·split
     ·rfl
     ·exact C.1
    ·split
     ·exact aQ
     ·exact C.2.1
 have a7:∀{aW:List (aR×V)} {U:List (aR×a3)},iT aW U->iT (aW++[(aN,u)]) (U++[(aN,v)]):=by
  intro aW;induction aW with
  |nil=>intro U C;cases U with
   |nil=>exact⟨rfl,aQ,trivial⟩
   |cons _ _=>exact C.elim
  |cons p r D=>intro U C;cases U with
   |nil=>exact C.elim
   |cons e U=>exact⟨C.1,C.2.1,D C.2.2⟩
 unfold hv stored;refine J (ai C) ?_;split
 ·exact ao C
 ·exact a7 C
theorem HM:∀{ah:List (aR×V)} {U:List (aR×a3)},iT ah U->ah.length=U.length:=by
 intro h;induction h with
 |nil=>
  intro f;cases f with
  |nil=>intro s;exact rfl
  |cons j n=>intro C;exact C.elim
 |cons e i D=>
  intro f;cases f with
  |nil=>intro C;exact C.elim
  |cons j n=>intro C;exact J hC<|J hC<|J (D C.2.2) rfl
def m2 (o i u:V)(ab:az->Prop)(I:az):Prop:=match o,i with
 |.ref l,.int k=>(∃aa,I l=kZ (.list aa)/\0<=k/\k<aa.length/\aa.length<2^62/\∀D,Upd I D l (.list<|aa.set k.toNat u)->ab D)\/(∃ah,I l=kZ (.cu ah)/\ah.length<=gW/\∀D,Upd I D l (.cu<|hv k u ah)->ab D)
 |.ref l,.str x=>∃ah,I l=kZ (.gD ah)/\ah.length<=gW/\∀D,Upd I D l (.gD<|hv x u ah)->ab D
 |_,_=>False
variable{bq:Array a3}
theorem Za (an:s.heap.get? l=kZ (listOf bq e))(h0:0<=pt)(g:pt<2^63)(aO:pt<bq.size) (bI:fc () {s with heap:=s.heap.update l (BG (·.setIfInBounds pt.toNat v))}):pn c.M bo (setItem (.ref l) (.int pt ku) v) fc E s:=by
 have cj:=en an;unfold setItem;try with_reducible refine pp ?_
 first|refine sg (mB ?_)|skip
 refine sg<|wpAny_sequenceKey cj.typeIs (by decide) ?_;refine sg<|wpAny_callSpecial?_slot (name:=pi "__setitem__") cj.typeIs aaY<|wpAny_call_entry aaY cj.typeIs entry_list_setitem ?_<|args_list_setitem _ _ _;intros d;refine(?_:pn _ _ (r3 (.int pt ku)>>=_) _ _ s);refine sg<|wpAny_listSubscript_int (fitsIndex_of h0 g) ?_;clear g;obtain⟨j,rfl⟩:=aaZ h0;have bi:j<bq.size:=bC 436896002 aO;have m:bq[j]?=kZ bq[j]:=iM bi;refine(?_:pn _ _ ((seqItemAt l j>>=λr=>pure (r.map (j, ·)))>>=_) _ _ s);refine sg<|sg<|wpAny_seqItemAt an rfl<|mB ?_;refine J m<|(?_:pn _ _ (setSeqItemAt l j v>>=_) _ _ s);refine sg<|wpAny_setSeqItemAt an rfl ?_;first
  |exact sg<|mB<|mB<|bb .none rfl<|mB bI
  |exact mB ⟨.none,rfl,mB bI⟩
variable{cd:az->Prop}
theorem AJ {kQ:a3}(S:a9 c I s)(aw:ak.is dD)(aL:aJ.is kQ)(aQ:u.is v)(C:m2 ak aJ u cd I) (bI:∀Z ay,a9 c Z ay->(∀own,bG own I s Z ay)->cd Z->fc () ay):pn c.M bo (setItem dD kQ v) fc E s:=by
 cases ak<;>try exact C.elim
 refine J aw ?_;rename_i l;cases aJ<;>try exact C.elim
 ·rename_i k;refine fN (aL) λt aW=>J aW ?_;rcases C with aM|aM
  ·refine tx aM λaa ai h0 ap aj X=>?_;clear aM;refine dw (S.rep _ _ ai) λh bq e aJ=>?_;have an:aa.length=h.size:=J aJ.length<|J aaU rfl;refine Za e h0 (dZ 65979455925256 ap aj) (gF 82041113096 ap an) ?_;obtain⟨aN,aW⟩:=vY e (·.setIfInBounds k.toNat v);exact bI _ _ (S.upd (t:=s.toks) (q:=.list<|aa.set k.toNat u) (Lv ..) ai<|e5 _ aN aW<|aJ.YV aQ) (λown=> .upd (Lv ..) ai ⟨_,aW⟩)<|X _ rfl
  ·refine eK aM λah ai aj X=>?_;clear aM;refine bg (S.rep _ _ ai) λU D n=>wpAny_setItem_pairs (rf k t) D (λav T ax=>?_) (by refine a6 (HM n) ?_;exact aj);have bu:=T;refine fg bu λb4 q q a8 q=>?_;clear bu;exact bI _ _ (S.upd (t:=s.toks+1) (q:=.cu<|hv k u ah) ax ai<|bb _ T<|HN aQ n) (λown=> .upd ax ai ⟨_,a8⟩)<|X _ rfl
 ·rename_i k;refine fN (aL) λt aW=>J aW<|jA ?_;intro a;refine eK C λah ai aj X=>?_;clear C;refine bg (S.rep _ _ ai) λU D n=>wpAny_setItem_pairs (tg k t) D (λav T ax=>?_) (by refine a6 (HM n) ?_;exact aj);have bu:=T;refine fg bu λb4 q q a8 q=>?_;clear bu;exact bI _ _ (S.upd (t:=s.toks+1) (q:=.gD<|hv k u ah) ax ai<|bb _ T<|HN aQ n) (λown=> .upd ax ai ⟨_,a8⟩)<|X _ rfl
set_option tactic.hygienic false
abbrev gu (R:aI):aI:=λk am S I=>qf S λi o S=>dq S λu S=>m2 o i u (λZ=>R k am S Z) I
theorem Sz (C:bA c b aq nm aC cy)(aw:bA c b aq nm aP aZ)(aL:bA c b aq nm bW Cl)(ax:∀af,nr aC (kZ<|.Subscript aP bW cL) pos.line af=pure false):fh c b aq nm (.Assign [.Subscript aP bW cL] aC pos) λR=>cy (aZ<|Cl<|gu R):=by refine⟨λW af am I s R j E L q h F S ad=>?_⟩;refine wpAny_Assign_Subscript (po (C.r W af am I s _ _ [] E L h F S ad) (λv aT A=>cq A λu au aQ a0 U aI=>?_) λq q aC=>aC)<|ax af;have ba:=F.bT U;refine po (aw.r W af am au aT _ _ _ E L h ba a0 aI) (λaF H A=>cq A λaP aS aw ak aR bd=>?_) λq q aC=>aC;have g:=ba.bT aR;refine po (aL.r W af am aS H _ _ _ E L h g ak bd) (λkQ aO A=>cq A λbW aM aL a2 bj bn=>?_) λq q aC=>aC;have a7:=g.bT bj;exact AJ a2 aw aL aQ bn λZ ay ar O X=>iv (k:=.next) rfl (a7.bT<|O cp) ar (((U.trans aR).trans bj).hT.trans<|O _) X
noncomputable def m3 (lo aL:Nat)(d aa:List aR):List aR:=aa.take lo++d++aa.drop (max lo aL)
noncomputable def gI (len:Nat)(lo aL:Option Int):Nat×Nat:=(lo.elim 0<|Lr len,aL.elim len<|Lr len)
variable{h6:Option Int}
theorem Zb (an:s.heap.get? l=kZ (listOf bq e))(hm:s.heap.get? ae=kZ (listOf ag i))(G:l≠ae) (ax:s.heap.IsSliceOf cl v dD .none)(dE:IsPart v mp)(y:IsPart dD h6)(aj:bq.size+ag.size<=gW) (bI:fc () {s with heap:=s.heap.update l (BG λxs=>xs.extract 0 (gI bq.size mp h6).1++ag++xs.extract (max (gI bq.size mp h6).1 (gI bq.size mp h6).2) xs.size)}):pn c.M bo (setItem (.ref l) (.ref cl)<|.ref ae) fc E s:=by
 have cj:=en an;refine eK (id ax) λos u D d=>?_;have f:s.TypeIs (.ref cl) "slice":=(bb os u D);have g:s.TypeIs (.ref ae) "list":=(bb _ hm rfl);unfold setItem;try with_reducible refine pp ?_
 first|refine sg (mB ?_)|skip
 refine sg<|wpAny_sequenceKey cj.typeIs (by decide) ?_;refine sg<|wpAny_callSpecial?_slot (name:=pi "__setitem__") cj.typeIs aaY<|wpAny_call_entry aaY cj.typeIs entry_list_setitem ?_<|args_list_setitem _ _ _;intros N;refine(?_:pn _ _ (r3 (.ref cl)>>=_) _ _ s);refine sg<|bJ ?_;intro aH;unfold r3;refine sg<|wpAny_specialOf f slice_no_index ?_;simp only[Option.isNone_none,if_true];intros S;refine mB ?_;refine(?_:pn _ _ (typeOf (.ref cl)>>=_) _ _ s);refine sg<|wpAny_typeOf f ?_;refine J (if_neg<|by decide)<|J (listSliceParts_eq _)<|sg<|sg<|je u d (x:=.none) rfl<|sg<|wpAny_listPart .none ?_;refine J (if_neg (Bool.false_ne_true:¬ ((rawPart By==rawInt 0)=true)))<|sg<|je u d (x:=v) rfl<|sg<|wpAny_listPart dE ?_;refine sg<|je u d (x:=dD) rfl<|sg<|wpAny_listPart y<|mB ?_;have P:oa (.ref l) (.ref ae)=false:=by unfold oa;simpa using G
 dsimp only;refine J P<|sg<|bJ ?_;intro h;unfold Builtin.List.listAllItems;refine sg<|wpAny_typeOf g ?_;refine J (if_pos<|by decide) ?_;unfold Builtin.List.listItems;refine sg<|wpAny_seqItems hm rfl<|mB ?_;refine sg<|bJ ?_;intro bz;refine sg<|wpAny_seqItems an rfl<|mB ?_;refine sg<|wpAny_of_eq (sliceIndices_raw mp h6 By bq.size<|by simp) ?_;refine J (sliceBounds_plain _ _ _) ?_;have a8:(max ((mp.elim 0 (Lr bq.size):Nat):Int) ((h6.elim bq.size (Lr bq.size):Nat):Int)).toNat=max (mp.elim 0<|Lr bq.size) (h6.elim bq.size<|Lr bq.size):=H2 67058667724589879555 rfl rfl rfl;dsimp only;refine J (if_pos<|by decide)<|J a8<|J (w1 _)<|sg<|wpAny_rule ?_;refine J (if_neg<|by simp[aaW];exact b1 141869322369 aj) ?_;unfold Builtin.List.listUpdate;dsimp only;have aK:∀a b:Nat,(bq.extract 0 a++ag++bq.extract (max a b) bq.size).size<=gW+1:=λa b=>by simp only[Array.size_append,Array.size_extract];exact Un 22995503502046378677218540337851499467688183937 aj rfl rfl rfl rfl rfl
 refine sg<|wpAny_updateSeq an rfl ?_ (b1 302518529 aj)<|aK _ _;refine sg<|wpAny_letGo ?_;exact mB<|bb .none rfl<|mB bI
theorem Tr (i:bV aa ag.toList)(j:bV am bq.toList)(a b:Nat):bV (m3 a b am aa) (ag.extract 0 a++bq++ag.extract (max a b) ag.size).toList:=by
 unfold m3;simp only[Array.toList_append,Array.toList_extract];have C:=((i.take a).append j).append<|i.drop<|max a b;have e:ag.toList.extract (max a b) ag.size=ag.toList.drop (max a b):=by exact J nd<|pj (by simp)
 refine J e ?_;simpa[nd] using C
abbrev q5 (eI b:Bool)(R:aI):aI:=λk am S I=>qg b S λaL S=>qg eI S λlo S=>qf S λo u S=>hi o λl=>hi u λm=>∃aa d,l≠m/\I l=kZ (.list aa)/\I m=kZ (.list d)/\aa.length+d.length<=gW/\ ∀D,Upd I D l (.list<|m3 (gI aa.length lo aL).1 (gI aa.length lo aL).2 d aa)->R k am S D
variable{fb:Pos}
theorem Ss (C:bA c b aq nm aC cy)(aw:bA c b aq nm aP aZ)(an:lL c b aq nm fW Cl)(aQ:lL c b aq nm kP iP) (ax:∀af,nr aC (kZ<|.Subscript aP (.Slice fW kP By cL) fb) pos.line af=pure false):fh c b aq nm (.Assign [.Subscript aP (.Slice fW kP By cL) fb] aC pos) λR=>cy (aZ<|Cl<|iP<|q5 fW.isSome kP.isSome R):=by refine⟨λW af am I s R j E L q h F S ad=>?_⟩;intros bs;refine wpAny_Assign_Subscript (po (C.r W af am I s _ _ [] E L h F S ad) (λv aT A=>cq A λu au a a0 U aI=>?_) λq q aC=>aC)<|ax af;have ba:=F.bT U;refine po (aw.r W af am au aT _ _ _ E L h ba a0 aI) (λaF H A=>cq A λaP aS bt ak aR bd=>?_) λq q aC=>aC;have g:=ba.bT aR;refine wpAny_Slice<|po (an.r W af am aS H _ _ _ E L h g ak bd) (λeX aO A=>gi A λlo aM dE a2 bj z bn=>?_) λq q aC=>aC;have a7:=g.bT bj;refine po (aQ.r W af am aM aO _ _ _ E L h a7 a2 bn) (λN aY A=>gi A λaL ay y be bf B a3=>?_) λq q aC=>aC;refine bP λbz aN=>bg (eP<|rE (P:=λlo S=>qf S λaP u S=>hi aP λl=>hi u λm=>∃aa d,l≠m/\ay l=kZ (.list aa)/\ay m=kZ (.list d)/\aa.length+d.length<=gW/\∀D,Upd ay D l (.list<|m3 (gI aa.length lo aL).1 (gI aa.length lo aL).2 d aa)->R ⟨c,b,j⟩ am S D) z<|rE B a3) λl p V=>cO (eP V) λm aB=>dp aB λf az=>fz az λaa d M=>o2 M λG dy eS aj a3=>aN ?_;have bK:=a7.bT bf;refine J (BB _)<|mB ?_;replace bt:=p▸bt;replace a:=f▸a;refine J bt ?_;refine J a ?_;have bi:=be.push {cls:=.type "slice",data:=.fields #[eX,N,.none]};have K:=bK.bT<|bG.push (own:=cp) (I:=ay) (s:=aY) {cls:=.type "slice",data:=.fields #[eX,N,.none]};refine dw (bi.rep _ _ dy) λag k aC i=>dw (bi.rep _ _ eS) λbV aN aW T=>?_;have e:aa.length=ag.size:=J i.length<|J aaU rfl;have Y:d.length=bV.size:=J T.length<|J aaU rfl;refine Zb (s:={aY with heap:=aY.heap.push {cls:=.type "slice",data:=.fields #[eX,N,.none]}}) aC aW G (wY ..) dE y (dH 1454718910293217409 aj e Y) ?_;obtain⟨x,w⟩:=vY aC λxs=>xs.extract 0 (gI ag.size lo aL).1++bV++xs.extract (max (gI ag.size lo aL).1 (gI ag.size lo aL).2) xs.size;have o:=Tr i T (gI aa.length lo aL).1 (gI aa.length lo aL).2;rw[e] at o a3;have aH:∀own,bG own ay _ (ay.set l<|.list<|m3 (gI ag.size lo aL).1 (gI ag.size lo aL).2 d aa) _:=λown=> (bG.push (own:=own) (I:=ay) (s:=aY) {cls:=.type "slice",data:=.fields #[eX,N,.none]}).trans<|bG.upd (t:=aY.toks) (q:=.list<|m3 (gI ag.size lo aL).1 (gI ag.size lo aL).2 d aa) (Lv ..) dy ⟨_,w⟩;exact iv (k:=.next) rfl (bK.bT<|aH cp) (bi.upd (t:=aY.toks) (q:=.list<|m3 (gI ag.size lo aL).1 (gI ag.size lo aL).2 d aa) (Lv ..) dy<|e5 _ x w o) ((((U.trans aR).trans bj).trans bf).hT.trans<|aH _)<|a3 _ rfl
set_option tactic.hygienic true
theorem a9.grow {t:Nat}(S:a9 c I s)(k:∀b o,s.heap.get? b=kZ o->av.get? b=kZ o):a9 c I {s with heap:=av,toks:=t}:= ⟨λb o e=>k b o<|S.keep b o e,λb o e=>(S.rep b o e).mono λb4 X=>k b b4 X,S.new,S.gens,S.os⟩
theorem bG.grow {t:Nat}(k:∀b o,s.heap.get? b=kZ o->av.get? b=kZ o):bG aF I s I {s with heap:=av,toks:=t}:= ⟨λ_ _ _ _ g=>k _ _ g,λ_ o g=>⟨o,k _ _ g⟩,λ_ _ _ e=>e⟩
theorem a9.sX {t:Nat}{o:O}(S:a9 c I s)(k:∀b o,s.heap.get? b=kZ o->av.get? b=kZ o)(C:mJ c av s.heap.objs.size o):a9 c (I.set s.heap.objs.size o) {s with heap:=av,toks:=t}:=by
 refine⟨λb q e=>k b q<|S.keep b q e,λb q e=>?_,λb q e=>?_,S.gens,S.os⟩
 ·by_cases X:b=s.heap.objs.size
  ·subst X;replace e:=(az.set_same _ _ _)▸e;cases e;exact C
  ·replace e:=(az.g5 _ _ _ X)▸e;exact(S.rep b q e).mono λb4 X=>k b b4 X
 ·by_cases X:b=s.heap.objs.size
  ·refine J X ?_;cases aW:c.base.get? s.heap.objs.size with
   |none=>rfl
   |some a=>exact absurd (acg<|S.keep _ _ aW)<|ki _
  ·replace e:=(az.g5 _ _ _ X)▸e;exact S.new b q e
theorem bG.sX {t:Nat}(o:O)(k:∀b o,s.heap.get? b=kZ o->av.get? b=kZ o):bG aF I s (I.set s.heap.objs.size o) {s with heap:=av,toks:=t}:= ⟨λ_ _ _ _ g=>k _ _ g,λ_ o g=>⟨o,k _ _ g⟩,λa _ g e=>by refine J (az.g5 _ _ _<|eB<|acg g) ?_;exact e⟩
theorem pL (x:mC C.objs.size C av):∀b o,C.get? b=kZ o->av.get? b=kZ o:=λb o e=>x b o (eB<|acg e) e
theorem oZ {h:O}(aU:c.Ok)(S:a9 c I s)(C:I a=kZ h):(a==sysModules)=false:=by apply beq_eq_false_iff_ne.mpr;rintro rfl;obtain⟨q,e⟩:=aU.mods;replace e:=(S.new _ _ C)▸e;exact bY e
noncomputable def pb:List Nat->List V->List V->List V
 |i::is,u::aa,am=>pb is aa<|am.set i u
 |_,_,am=>am
def Binds (c:cz)(af:Env):List (a3->Sem Unit)->List Str->Prop
 |[],[]=>True
 |f::Q,x::xs=>(∀(W:qJ) (E:a3->eN->Prop) (s:eN) (v:a3) (P:Unit->eN->Prop),pn c.M W (storeName af x v) P E s->pn c.M W (f v) P E s)/\Binds c af Q xs
 |_,_=>False
def lG (nm:List Str):List Nat->List Str->Prop
 |[],[]=>True
 |i::is,x::xs=>nm[i]?=kZ x/\lG nm is xs
 |_,_=>False
def pw (c:cz)(W:qJ)(E:a3->eN->Prop)(af:Env):List Str->List a3->(eN->Prop)->eN->Prop
 |x::xs,v::ag,P,s=>pn c.M W (storeName af x v) (λq ay=>pw c W E af xs ag P ay) E s
 |_,_,P,s=>P s
variable{bl:List (a3->Sem Unit)}
theorem Kb:∀{xs:List Str} {ag:List a3} {s:eN},Binds c af bl xs->ag.length=xs.length->pw c bo E af xs ag (fc ()) s->pn c.M bo (assignInOrder bl ag) fc E s:=by
 induction bl with
 |nil=>
  intro xs ag s aA an C;cases xs with
  |cons=>exact aA.elim
  |nil=>cases ag with
   |cons=>cases an
   |nil=>exact mB C
 |cons f bl D=>
  intro xs ag s aA an C;cases xs with
  |nil=>exact aA.elim
  |cons x xs=>cases ag with
   |nil=>cases an
   |cons v ag=>refine(?_:pn c.M bo (do io ag (f v);assignInOrder bl ag) fc E s);refine sg<|pp<|aA.1 _ _ _ _ _<|po C (λq ay av=>?_) λq q e=>e;exact D aA.2 (c6.inj an) av
variable{ch:List Str}
theorem Ka:∀{is:List Nat} {aa:List V} {ag:List a3} {am:List V} {s:eN} {ab:eN->Prop},e1 c af aq nm->cm af nm am I s.heap->a9 c I s->lG nm is ch->
 aa.length=is.length->bV aa ag->(∀ay,cm af nm (pb is aa am) I ay.heap->a9 c I ay->bG (Own af) I s I ay->ab ay)->pw c bo E af ch ag ab s:=by
 induction ch with
 |nil=>
  intro is aa ag am s ab h F S aE an aV C;cases is with
  |cons=>exact aE.elim
  |nil=>cases aa with
   |cons=>cases an
   |nil=>cases ag with
    |cons=>exact aV.elim
    |nil=>exact C s F S .refl
 |cons x ch D=>
  intro is aa ag am s ab h F S aE an aV C;cases is with
  |nil=>exact aE.elim
  |cons i is=>cases aa with
   |nil=>cases an
   |cons u aa=>cases ag with
    |nil=>exact aV.elim
    |cons v ag=>exact wu h F S aE.1 aV.1 λay ai ar O=>D h ai ar aE.2 (c6.inj an) aV.2 λa5 b5 b6 ce=>C a5 b5 b6<|O.trans ce
theorem MZ:∀{Q:List (a3->Sem Unit)} {xs:List Str},Binds c af Q xs->Q.length=xs.length:=by
 intro h;induction h with
 |nil=>
  intro f;cases f with
  |nil=>intro s;exact rfl
  |cons j n=>intro C;exact C.elim
 |cons e i D=>
  intro f;cases f with
  |nil=>intro C;exact C.elim
  |cons j n=>intro C;exact J hC<|J hC<|J (D C.2) rfl
theorem sy:∀{is:List Nat} {xs:List Str},lG nm is xs->is.length=xs.length:=by
 intro h;induction h with
 |nil=>
  intro f;cases f with
  |nil=>intro s;exact rfl
  |cons j n=>intro C;exact C.elim
 |cons e i D=>
  intro f;cases f with
  |nil=>intro C;exact C.elim
  |cons j n=>intro C;exact J hC<|J hC<|J (D C.2) rfl
variable{a0:List Nat}
theorem J4 (h:e1 c af aq nm)(F:cm af nm am I s.heap)(S:a9 c I s)(aA:Binds c af bl ch)(aE:lG nm a0 ch) (an:aa.length=a0.length)(aV:bV aa bE)(C:∀ay,cm af nm (pb a0 aa am) I ay.heap->a9 c I ay->bG (Own af) I s I ay->fc () ay):pn c.M bo (assignInOrder bl bE) fc E s:= Kb aA (aV.length.symm.trans<|an.trans<|sy aE)<|Ka h F S aE an aV C
abbrev hq (is:List Nat)(R:aI):aI:=λk am S I=>dq S λu S=>hi u λt=>∃aa,I t=kZ (.tup aa)/\aa.length=is.length/\R k (pb is aa am) S I
variable{lx:Pos}
theorem SB (is:List Nat)(C:bA c aD aq nm aC cy)(ax:∀af,hB [.Tuple ah b lx] aC pos.line af=pure false)(a1:∀af,af.scope=aq->BJ [.Tuple ah b lx] aC af=pure By) (aL:lG nm is ch)(aA:∀af,Binds c af ((cJ ah af).map (·.2)) ch)(hf:∀af,(cJ ah af).findIdx? (·.1)=By):fh c aD aq nm (.Assign [.Tuple ah b lx] aC pos) λR=>cy (hq is R):=by
 refine⟨λW af am I s R j E L q h F S ad=>?_⟩;intros bs;refine Assign_Tuple (po (C.r W af am I s _ _ [] E L h F S ad) (λv aT A=>cq A λu au aQ a0 U m=>?_) λ_ _ aC=>aC) (ax af)<|a1 af h.dc;refine bP λbz aN=>kL (eP m) λt p aa bu an aI=>?_;clear m;subst p;clear A;cases aQ;refine dw (a0.rep _ _ bu) λag bq aW i=>aN<|(?_:pn c.M W (do ach lx;unpack (.ref t)<|cJ ah af) _ E aT);have bF:(cJ ah af).length=ag.size:=by have:=MZ<|aA af;rw[aa0] at this;exact J this<|a6 (sy aL)<|a6 an<|J i.length<|J aaU rfl
 refine sg<|nt<|unpack_tuple L.handled (jF _ aW rfl bq rfl) bF (hf af) λav he=>?_;have aH:bG cp au aT au {aT with heap:=av}:=.grow (t:=aT.toks)<|pL he;exact J4 (s:={aT with heap:=av}) h ((F.bT U).bT aH) (a0.grow (t:=aT.toks)<|pL he) (aA af) aL an i λay ai ar O=>iv (k:=.next) rfl ai ar (((U.trans aH).hT).trans O) aI
theorem M0:∀{xs:List Str},Binds c af (xs.map λx=>bindName af x) xs:=by
 intro h;induction h with
 |nil=>exact trivial
 |cons e i D=>exact⟨λ_ _ _ _ _ C=>wpAny_bindName C,D⟩
abbrev j4 (is:List Nat)(R:aI):aI:=λk am S I=>dq S λu S=>hi u λt=>∃aa,I t=kZ (.tup aa)/\aa.length=is.length/\R k (pb is aa.reverse am) S I
theorem SA (is:List Nat)(C:bA c aD aq nm aC cy)(ax:∀af,hB [.Tuple ah b lx] aC pos.line af=pure false)(a1:∀af,af.scope=aq->BJ [.Tuple ah b lx] aC af=pure (kZ ch)) (aL:lG nm is ch.reverse):fh c aD aq nm (.Assign [.Tuple ah b lx] aC pos) λR=>cy (j4 is R):=by
 refine⟨λW af am I s R j E L q h F S ad=>?_⟩;refine Assign_Tuple_swapped (po (C.r W af am I s _ _ [] E L h F S ad) (λv aT A=>cq A λu au aQ a0 U m=>?_) λ_ _ aC=>aC) (ax af)<|a1 af h.dc;intros y;refine bP λbz aN=>?_;refine kL (eP m) λt p aa bu an aI=>?_;clear m;subst p;clear A;cases aQ;refine dw (a0.rep _ _ bu) λag bq aW i=>aN ?_;have bF:ch.length=ag.size:=by have:=sy aL;rw[aaH] at this;exact a6 this<|a6 an<|J i.length<|J aaU rfl
 refine J bF<|unpackItems_tuple L.handled (jF _ aW rfl bq rfl) λav he=>?_;have aH:bG cp au aT au {aT with heap:=av}:=.grow (t:=aT.toks)<|pL he;refine J4 (s:={aT with heap:=av}) h ((F.bT U).bT aH) (a0.grow (t:=aT.toks)<|pL he) M0 aL (by refine J aaH ?_;exact an) i.reverse λay ai ar O=>?_;exact iv (k:=.next) rfl ai ar (((U.trans aH).hT).trans O) aI
abbrev mc (R:aI):aI:=λk am S I=>dq S λu S=>uE u λi=>R k am (.int (-i)::S) I
theorem GW (C:bA c b aq nm aC cy):bA c b aq nm (.UnaryOp .USub aC pos) λR=>cy (mc R):=by refine⟨λW af am I s R j T E L h F S ad=>?_⟩;refine wpAny_UnaryOp<|po (C.r W af am I s _ _ _ E L h F S ad) (λv aT A=>cq A λu au aQ a0 U m=>?_) λ_ _ aC=>aC;refine bg (h1 m) λi p aI=>?_;clear m;subst p;exact fN (aQ) λt aW=>J aW<|P.neg_int<|gn (a0.tok _) (U.trans<|.tok _) aI
def ou (aa:List V)(ab:V->az->Prop)(I:az):Prop:=ko aa λo=>match o with
 |.ref l=>∃aa,(I l=kZ (.list aa)\/I l=kZ (.tup aa))/\aa.length<2^62/\ab (.int aa.length) I
 |.str x=>x.length<2^62/\ab (.int x.length) I
 |_=>False
theorem Nu:eg c b (.builtin "len") ou:=by
 intro W I s ab E aa ag L S aX ad;refine bP λbz aN=>cq (lT ad aX) λo aF O a3 aw g=>?_;subst O;subst a3;refine aN ?_;clear ad aX;cases o<;>try exact g.elim
 ·rename_i x;refine fN (aw) λt aW=>J aW ?_;obtain⟨aj,X⟩:=g;exact call_len_gives (typeIs_str s x t) F.slot_str_len F.entry_str_len (F.args_str_len_1 _) (gives_str_len x t) (dG 61610) (bM 16108267211 aj)<|gn (S.tok _) (.tok _) X
 ·refine eK g λaa C aj X=>?_;clear g;refine J aw ?_;rcases C with C|C
  ·refine dw (S.rep _ _ C) λh k e i=>?_;have an:aa.length=h.size:=J i.length<|J aaU rfl;exact call_len_list (en e) (bC 1321795502248 aj an)<|a6 an<|gn (S.tok _) (.tok _) X
  ·refine dw (S.rep _ _ C) λh k e i=>?_;have an:aa.length=h.size:=J i.length<|J aaU rfl;exact PyProof.Rows.len_tuple (items:=h) (jF _ e rfl k rfl) (bC 1321795502248 aj an)<|a6 an<|gn (S.tok _) (.tok _) X
def F0 (aa:List V)(ab:V->az->Prop)(I:az):Prop:=iq aa λu w=>hh u λa=>hh w λb=>ab (.int<|max a b) I
theorem Ku {P:Int->Int->Prop}(ad:iq aa λu w=>hh u λa=>hh w λb=>P a b)(aX:bV aa bE):∃a b t F,bE=[.int a t,.int b F]/\P a b:=by refine bP λbz aN=>nX (iV ad aX) λu w x y V z aQ a1 g=>?_;subst V;subst z;refine bg (h1 g) λa f r=>?_;clear g ad aX;subst f;refine bg (h1 r) λb f X=>?_;subst f;obtain⟨t,rfl⟩:=aQ;obtain⟨F,rfl⟩:=a1;exact aN<|⟨a,b,t,F,rfl,X⟩
theorem F4:eg c e (.builtin "max") F0:=by
 intro W I s ab E aa ag L S aX ad;refine bP λbz aN=>j8 (Ku ad aX) λa b t u aB=>dp aB λV X=>?_;clear aX;subst V;refine aN<|max_two_ints L.handled λav cr ap=>?_;split
 ·rename_i C;replace X:=(LU<|jh C)▸X;exact gn (S.grow ap) (.grow ap) X
 ·rename_i C;replace X:=(LZ<|aa1.mp C)▸X;exact gn (S.grow ap) (.grow ap) X
def cAbs (aa:List V)(ab:V->az->Prop)(I:az):Prop:=ko aa λu=>hh u λa=>ab (.int a.natAbs) I
theorem Ni:eg c e (.builtin "abs") cAbs:=by intro W I s ab E aa ag L S aX ad;refine bP λbz aN=>cq (lT ad aX) λo aF O a3 aw g=>?_;subst O;subst a3;refine bg (h1 g) λa f X=>?_;clear g ad aX;subst f;obtain⟨t,rfl⟩:=aw;refine aN ?_;replace X:=(by split;exact Int.ofNat_natAbs_of_nonpos<|jh ‹_›;exact Int.natAbs_of_nonneg (aa1.mp ‹_›):(a.natAbs:Int)=if a<0 then-a else a)▸X;exact call_abs_int λu cr=>gn (S.tok _) (.tok _) X
def nG (aa:List V)(ab:V->az->Prop)(I:az):Prop:=ko aa λu=>match u with
 |.str x=>x.length=1/\ab (.int (x.cps.getD 0 0:Nat)) I
 |_=>False
theorem NC:eg c e (.builtin "ord") nG:=by
 intro W I s ab E aa ag L S aX ad;refine bP λbz aN=>cq (lT ad aX) λo aF O a3 aw g=>?_;subst O;subst a3;refine aN ?_;clear ad aX;cases o<;>try exact g.elim
 exact fN (aw) λt aW=>J aW<|ord_of_one g.1<|gn (S.tok _) (.tok _) g.2
def nE (aa:List V)(ab:V->az->Prop)(I:az):Prop:=ko aa λo=>gC o λl=>∃aa,(I l=kZ (.list aa)\/I l=kZ (.tup aa))/\aa.length<=gW/\∀a D,ei I D a (.list aa)->ab (.ref a) D
theorem Nv:eg c b (.type "list") nE:=by
 intro W I s ab E aa ag L S aX ad;refine bP λbz aN=>cq (lT ad aX) λo aF O a3 aw g=>?_;subst O;subst a3;refine kL (eP g) λl f aa C aj X=>?_;clear g ad aX;subst f;refine aN<|J aw ?_;rcases C with C|C
 ·refine dw (S.rep _ _ C) λh k e i=>?_;have an:aa.length=h.size:=J i.length<|J aaU rfl;exact call_list_seq l (.inl rfl) e rfl rfl (λav a ap aO=>lC (S.sX (t:=s.toks) (o:=.list aa) ap<|e5 h a aO i) (.sX (t:=s.toks) _ ap)<|X _ _ ⟨S.lA,rfl⟩)<|b1 588386561 aj an
 ·refine dw (S.rep _ _ C) λh k e i=>?_;have an:aa.length=h.size:=J i.length<|J aaU rfl;exact call_list_seq l (.inr rfl) e rfl rfl (λav a ap aO=>lC (S.sX (t:=s.toks) (o:=.list aa) ap<|e5 h a aO i) (.sX (t:=s.toks) _ ap)<|X _ _ ⟨S.lA,rfl⟩)<|b1 588386561 aj an
set_option tactic.hygienic false
variable{g3:Bool}
section
set_option tactic.hygienic true
open PySem PySem.W PySem.Calls PyProof.Rows PySem.SeqAt PySem.SeqAt
theorem str_beq (x y:Str):(x.cps.toList==y.cps.toList)=(x==y):=by obtain⟨a⟩:=x;obtain⟨b⟩:=y;refine m5 d0 ?_;simp only[beq_iff_eq,Str.mk.injEq];exact⟨λC=>by cases a;cases b;simpa using C,λC=>by exact J C rfl⟩
inductive e0 (I:az):Nat->V->V->Bool->Prop
 |int {k:Nat} (i j:Int):e0 I k (.int i) (.int j) (i==j)
 |str {k:Nat} (i j:Str):e0 I k (.str i) (.str j) (i==j)
 |none {k:Nat}:e0 I k .none .none true
 |same {k:Nat} {a:Addr} {aa:List V} (ai:I a=kZ (.list aa)):e0 I (k+1) (.ref a) (.ref a) true
 |len {k:Nat} {a b:Addr} {aa d:List V} (aX:a≠b) (ai:I a=kZ (.list aa)) (ao:I b=kZ (.list d)) (an:aa.length≠d.length):e0 I (k+1) (.ref a) (.ref b) false
 |list {k:Nat} {a b:Addr} {aa d:List V} (e:Nat->Bool) (aX:a≠b) (ai:I a=kZ (.list aa)) (ao:I b=kZ (.list d)) (an:aa.length=d.length) (he:∀j u w,aa[j]?=kZ u->d[j]?=kZ w->e0 I k u w (e j)):e0 I (k+1) (.ref a) (.ref b) ((g9 aa.length).all e)
 |tup {k:Nat} {a b:Addr} {aa d:List V} (e:Nat->Bool) (aX:a≠b) (ai:I a=kZ (.tup aa)) (ao:I b=kZ (.tup d)) (an:aa.length=d.length) (he:∀j u w,aa[j]?=kZ u->d[j]?=kZ w->e0 I k u w (e j)):e0 I (k+1) (.ref a) (.ref b) ((g9 aa.length).all e)
theorem e0.zn (e:Nat->Bool)(aX:a≠ae)(ai:I a=kZ (.list aa))(ao:I ae=kZ (.list am))(an:aa.length=am.length)(he:∀j u w,aa[j]?=kZ u->am[j]?=kZ w->e0 I i u w (e j))(aB:cD=(g9 aa.length).all e):e0 I (i+1) (.ref a) (.ref ae) cD:=aB▸.list e aX ai ao an he
theorem e0.ZZ (e:Nat->Bool)(aX:a≠ae)(ai:I a=kZ (.tup aa))(ao:I ae=kZ (.tup am))(an:aa.length=am.length)(he:∀j u w,aa[j]?=kZ u->am[j]?=kZ w->e0 I i u w (e j))(aB:cD=(g9 aa.length).all e):e0 I (i+1) (.ref a) (.ref ae) cD:=aB▸.tup e aX ai ao an he
theorem e0.of (C:e0 I i ak aJ cD)(e:g3=cD):e0 I i ak aJ g3:=e▸C
theorem GB {c:cz}{I:az}{s:eN}(S:a9 c I s){k:Nat}{u w:V}{v x:a3}{r:Bool}{W:qJ}(C:e0 I k u w r)(aQ:u.is v)(a1:w.is x)(L:W.units+k<cLine):EqAt W s v x r/\(∀a b,u=.ref a->w=.ref b->RcAt W s v x r/\RcNeAt W s v x (!r)):=by
 have h:∀{k:Nat} {W:qJ} {aa d:List V} {ag xs:Array a3} {e:Nat->Bool},W.units+(k+1)<cLine->bV aa ag.toList->bV d xs.toList->(∀j u w,aa[j]?=kZ u->d[j]?=kZ w->∀{v x:a3} {W:qJ},u.is v->w.is x->W.units+k<cLine->EqAt W s v x (e j)/\(∀a b,u=.ref a->w=.ref b->RcAt W s v x (e j)/\RcNeAt W s v x (!(e j))))-> ∀j (ai:j<ag.size) (ao:j<xs.size),EqAt W.in1 s ag[j] xs[j] (e j):=by
  intro k W aa d ag xs e L i T he j ai ao;have n:j<aa.length:=by refine J i.length<|J aaU ?_;exact ai
  have o:j<d.length:=by refine J T.length<|J aaU ?_;exact ao
  refine bg (i.get<|Lw n) λv a8 am=>bg (T.get<|Lw o) λx bo z=>?_;replace a8:=(iM ai)▸nc▸a8;replace bo:=(iM ao)▸nc▸bo;cases a8;cases bo;exact(he j _ _ (Lw n) (Lw o) am z<|by refine(?_:W.units+1+k<cLine);exact b1 12692797163112578 L).1
 induction C generalizing v x W with
 |int=>obtain⟨t,rfl⟩:=aQ;obtain⟨F,rfl⟩:=a1;exact⟨(t6 _ _ _ _).at _ _,λq q e=>by cases e⟩
 |str=>obtain⟨t,rfl⟩:=aQ;obtain⟨F,rfl⟩:=a1;exact⟨(eqGives_str _ _ _ _).at _ _,λq q e=>by cases e⟩
 |none=>refine J aQ ?_;refine J a1 ?_;exact⟨.same _,λq q e=>by cases e⟩
 |same ai=>
  refine J aQ ?_;refine J a1 ?_;have l:∀m:Nat,(g9 m).all (λq=>true)=true:=λm=>by simp
  refine dw (S.rep _ _ ai) λag bq g i=>⟨.same _,λq q q q=>⟨?_,?_⟩⟩
  ·have:=RcAt.lists (A:=W) (en g) (en g) rfl (b1 125225672962 L) (e:=λq=>true) λj q q=> .same _;rwa[l] at this
  ·have:=RcNeAt.lists (A:=W) (en g) (en g) rfl (b1 125225672962 L) (e:=λq=>true) λj q q=> .same _;rwa[l] at this
 |len aX ai ao an=>
  refine J aQ ?_;refine J a1 ?_;refine dw (S.rep _ _ ai) λag bq g i=>dw (S.rep _ _ ao) λxs U f T=>?_;have aK:(ag.size !=xs.size)=true:=by refine a6 aaU<|a6 i.length<|a6 aaU<|a6 T.length ?_;simpa using an
  have R:=RcAt.lists_lengths (A:=W) (en g) (en f) aK<|b1 125225672962 L;exact⟨.of_refs aX R,λq q q q=>⟨R,RcNeAt.lists_lengths (en g) (en f) aK<|b1 125225672962 L⟩⟩
 |@list _ _ _ aa d e aX ai ao an q he=>refine J aQ ?_;refine J a1 ?_;refine dw (S.rep _ _ ai) λag bq g i=>dw (S.rep _ _ ao) λxs U f T=>?_;have aV:aa.length=ag.size:=J i.length<|J aaU rfl;have Q:d.length=xs.size:=J T.length<|J aaU rfl;refine J aV ?_;have R:=RcAt.lists (A:=W) (en g) (en f) (bS 21097469849859 an aV Q) (b1 125225672962 L)<|h L i T he;exact⟨.of_refs aX R,λq q q q=>⟨R,RcNeAt.lists (en g) (en f) (bS 21097469849859 an aV Q) (b1 125225672962 L)<|h L i T he⟩⟩
 |@tup _ _ _ aa d e aX ai ao an q he=>
  refine J aQ ?_;refine J a1 ?_;refine dw (S.rep _ _ ai) λag bq g i=>dw (S.rep _ _ ao) λxs U f T=>?_;have aV:aa.length=ag.size:=J i.length<|J aaU rfl;have Q:d.length=xs.size:=J T.length<|J aaU rfl;have D:s.heap.IsTuple _ ag:=(jF _ g rfl bq rfl);have p:s.heap.IsTuple _ xs:=(jF _ f rfl U rfl);refine J aV ?_;have R:=RcAt.tuples (A:=W) D p (b1 125225672962 L)<|h L i T he;have aP:=RcNeAt.tuples (A:=W) D p (b1 125225672962 L)<|h L i T he;have a8:min ag.size xs.size=ag.size:=dH 4685506340648530179 an aV Q rfl;have bo:(ag.size==xs.size)=true:=by simp;exact bS 21097469849859 an aV Q
  rw[a8,bo,aa2] at R aP;exact⟨.of_refs aX R,λq q q q=>⟨R,aP⟩⟩
def oEq (a b:V)(ab:V->az->Prop)(I:az):Prop:=match a with
 |.int i=>(match b with|.int j=>ab (.bool<|decide<|i=j) I|b=>∃k r,k<=20/\e0 I k a b r/\ab (.bool r) I)
 |.str i=>(match b with|.str j=>ab (.bool<|decide<|i=j) I|b=>∃k r,k<=20/\e0 I k a b r/\ab (.bool r) I)
 |a=>∃k r,k<=20/\e0 I k a b r/\ab (.bool r) I
theorem WM (C:oEq ak aJ ab I):∃k r,k<=20/\e0 I k ak aJ r/\ab (.bool r) I:=by
 cases ak with
 |int=>cases aJ with
  |int=>exact dM 0 _ (BK _) (.int _ _) C
  |_=>exact C
 |str=>cases aJ with
  |str=>exact dM 0 _ (BK _) (.str _ _) C
  |_=>exact C
 |_=>exact C
inductive sk:V->V->Bool->Prop
 |none:sk .none .none true
 |int (i j:Int):sk (.int i) (.int j) (i==j)
 |str (i j:Str):sk (.str i) (.str j) (i==j)
 |ref (a b:Addr) (r:Bool):sk (.ref a) (.ref b) r
theorem e0.cs (C:e0 I e ak aJ cD):sk ak aJ cD:=by cases C<;>constructor
theorem W0:fQ c e (Cj .Eq) oEq:=by
 intro W I s ab E a b aG ah L S aE aA d;intros a8;refine gG (WM d) λk r ap C ad=>?_;have aQ:W.units+k<cLine:=by have:=L.units;exact bS 11686691854245412598040367234 ap this
 have D:=GB S C aE aA aQ;have C:=C.cs;clear d ap aQ;cases C with
 |none=>refine J aE ?_;refine J aA ?_;exact EqNone.eq_none_none<|fD S .refl ad
 |int i j=>obtain⟨t,rfl⟩:=aE;obtain⟨F,rfl⟩:=aA;exact P.eq_int<|fD S .refl ad
 |str i j=>obtain⟨t,rfl⟩:=aE;obtain⟨F,rfl⟩:=aA;exact P.eq_str<|J (str_beq _ _)<|fD S .refl ad
 |ref=>exact(D.2 _ _ rfl rfl).1 _ _ _ _<|fD S .refl ad
def i6 (a b:V)(ab:V->az->Prop)(I:az):Prop:=match a with
 |.int i=>(match b with|.int j=>ab (.bool (!decide (i=j))) I|b=>∃k r,k<=20/\e0 I k a b r/\ab (.bool (!r)) I)
 |.str i=>(match b with|.str j=>ab (.bool (!decide (i=j))) I|b=>∃k r,k<=20/\e0 I k a b r/\ab (.bool (!r)) I)
 |a=>∃k r,k<=20/\e0 I k a b r/\ab (.bool (!r)) I
theorem WQ (C:i6 ak aJ ab I):∃k r,k<=20/\e0 I k ak aJ r/\ab (.bool (!r)) I:=by
 cases ak with
 |int=>cases aJ with
  |int=>exact dM 0 _ (BK _) (.int _ _) C
  |_=>exact C
 |str=>cases aJ with
  |str=>exact dM 0 _ (BK _) (.str _ _) C
  |_=>exact C
 |_=>exact C
theorem Xb:fQ c aD (Cj .NotEq) i6:=by
 intro W I s ab E a b aG ah L S aE aA d;intros a8;refine gG (WQ d) λk r ap C ad=>?_;have aQ:W.units+k<cLine:=by have:=L.units;exact bS 11686691854245412598040367234 ap this
 have D:=GB S C aE aA aQ;have C:=C.cs;clear d ap aQ;cases C with
 |none=>refine J aE ?_;refine J aA ?_;exact RcNeAt.none_none (A:=W) _ _ _ _<|fD S .refl ad
 |int i j=>obtain⟨t,rfl⟩:=aE;obtain⟨F,rfl⟩:=aA;exact P.ne_int<|fD S .refl ad
 |str i j=>
  obtain⟨t,rfl⟩:=aE;obtain⟨F,rfl⟩:=aA;refine P.ne_str ?_;have e:∀x y:Str,(x.cps.toList !=y.cps.toList)= !(x==y):=λx y=>by refine a6 (str_beq _ _) ?_;rfl
  exact J (e _ _)<|fD S .refl ad
 |ref=>exact(D.2 _ _ rfl rfl).2 _ _ _ _<|fD S .refl ad
def HK:O->V->Bool->Prop
 |.cu ah,.int k,r=>r=(ah.lookup k).isSome
 |.gD ah,.str k,r=>r=(ah.lookup k).isSome
 |.tup aa,.str x,r=>∃ss:List Str,aa=ss.map .str/\r=ss.any (· ==x)
 |.tup aa,.int x,r=>∃ss:List Int,aa=ss.map .int/\r=ss.any (· ==x)
 |_,_,_=>False
theorem ti [BEq aR][LawfulBEq aR][DecidableEq aR]{k:aR}:∀{ah:List (aR×V)} {U:List (aR×a3)},iT ah U->(valueAt U k).isSome=(ah.lookup k).isSome:=by
 intro h;induction h with
 |nil=>
  intro f;cases f with
  |nil=>intro s;exact rfl
  |cons j n=>intro C;exact C.elim
 |cons p ah D=>
  intro f;cases f with
  |nil=>intro C;exact C.elim
  |cons e U=>
   intro g;obtain⟨ai,ao,a7⟩:=g;have D:=D a7;refine J wQ ?_;unfold valueAt at D⊢;refine J gf<|a6 ai ?_;by_cases X:k=p.1
   ·refine J X ?_;simp
   ·have am:(k==p.1)=false:=by simpa using X
    have z:decide (p.1=k)=false:=by simpa using λe=>X e.symm
    exact J am<|J z<|D
theorem J6 {W:qJ}{t:Tok}:∀{ss:List Str} {ag:List a3},bV (ss.map .str) ag->∃e:a3->Bool,(∀y∈ag,EqAt W s y (.str w t)<|e y)/\ag.any e=ss.any (· ==w):=by
 intro ss ag C;refine(bb (λy=>match y with|.str z _=>z==w|_=>false) ?_ ?_)
 ·induction ss generalizing ag with
  |nil=>cases ag with
   |nil=>intro y G;cases G
   |cons _ _=>exact C.elim
  |cons z ss D=>cases ag with
   |nil=>exact C.elim
   |cons v ag=>
    obtain⟨⟨u,rfl⟩,aB⟩:=C;intro y G;rcases Q8.mp G with rfl|G
    ·exact(eqGives_str _ _ _ _).at _ _
    ·exact D aB y G
 ·induction ss generalizing ag with
  |nil=>cases ag with
   |nil=>rfl
   |cons _ _=>exact C.elim
  |cons z ss D=>cases ag with
   |nil=>exact C.elim
   |cons v ag=>obtain⟨⟨u,rfl⟩,aB⟩:=C;exact J rX<|J rX<|J (D aB) rfl
theorem HA {W:qJ}{t:Tok}:∀{ss:List Int} {ag:List a3},bV (ss.map .int) ag->∃e:a3->Bool,(∀y∈ag,EqAt W s y (.int pt t)<|e y)/\ag.any e=ss.any (· ==pt):=by
 intro ss ag C;refine(bb (λy=>match y with|.int z _=>z==pt|_=>false) ?_ ?_)
 ·induction ss generalizing ag with
  |nil=>cases ag with
   |nil=>intro y G;cases G
   |cons _ _=>exact C.elim
  |cons z ss D=>cases ag with
   |nil=>exact C.elim
   |cons v ag=>
    obtain⟨⟨u,rfl⟩,aB⟩:=C;intro y G;rcases Q8.mp G with rfl|G
    ·exact(t6 _ _ _ _).at _ _
    ·exact D aB y G
 ·induction ss generalizing ag with
  |nil=>cases ag with
   |nil=>rfl
   |cons _ _=>exact C.elim
  |cons z ss D=>cases ag with
   |nil=>exact C.elim
   |cons v ag=>obtain⟨⟨u,rfl⟩,aB⟩:=C;exact J rX<|J rX<|J (D aB) rfl
def i5 (b:Bool)(x o:V)(ab:V->az->Prop)(I:az):Prop:=gC o λa=>∃b4 r,I a=kZ b4/\HK b4 x r/\ab (.bool<|b^^r) I
theorem W3 (aU:c.Ok):fQ c b (Cj .In) (i5 false):=by
 intro W I s ab E x o cr aF L S Q aw d;refine cO (eP d) λa aB=>dp aB λa8 az=>fz az λb4 r M=>hO M λai ao ad=>?_;clear d;replace aw:=a8▸aw;refine J aw ?_;have R:=S.rep _ _ ai;replace ad:=(Bool.false_xor _)▸ad;cases b4<;>(try exact ao.elim)<;>cases x<;>try exact ao.elim
 ·refine fN (Q) λt aW=>J aW<|bg ao λss f O=>?_;clear ao;replace ai:=f▸ai;replace R:=f▸R;replace ad:=O▸ad;refine dw R λag bq g i=>?_;clear R;obtain⟨e,he,aE⟩:=HA (W:=W.in1) (s:=s) (t:=t) i;exact in_tupleAt (items:=ag) e (jF _ g rfl bq rfl) (λy G=>he y<|by simpa using G)<|a6 aaQ<|J aE<|fD S .refl ad
 ·refine fN (Q) λt aW=>J aW<|bg ao λss f O=>?_;clear ao;replace ai:=f▸ai;replace R:=f▸R;replace ad:=O▸ad;refine dw R λag bq g i=>?_;clear R;obtain⟨e,he,aE⟩:=J6 (W:=W.in1) (s:=s) (t:=t) i;exact in_tupleAt (items:=ag) e (jF _ g rfl bq rfl) (λy G=>he y<|by simpa using G)<|a6 aaQ<|J aE<|fD S .refl ad
 ·refine fN (Q) λt aW=>J aW<|bg R λU D n=>?_;clear R;refine wpAny_in_of (rf _ t) (oZ aU S ai) D.mapOf ?_;rw[ti n,<-(ao:r=_)];exact fD (S.tok _) (.tok _) ad
 ·refine fN (Q) λt aW=>J aW<|bg R λU D n=>?_;clear R;refine wpAny_in_of (tg _ t) (oZ aU S ai) D.mapOf ?_;rw[ti n,<-(ao:r=_)];exact fD (S.tok _) (.tok _) ad
theorem Jd (aU:c.Ok):Cr c (Cj .NotIn) (i5 true):=by
 intro W I s ab E x o cr aF S Q aw d;refine cO (eP d) λa aB=>dp aB λa8 az=>fz az λb4 r M=>hO M λai ao ad=>?_;clear d;replace aw:=a8▸aw;refine J aw ?_;have R:=S.rep _ _ ai;replace ad:=(Bool.true_xor _)▸ad;cases b4<;>(try exact ao.elim)<;>cases x<;>try exact ao.elim
 ·refine fN (Q) λt aW=>J aW<|bg ao λss f O=>?_;clear ao;replace ai:=f▸ai;replace R:=f▸R;replace ad:=O▸ad;refine dw R λag bq g i=>?_;clear R;obtain⟨e,he,aE⟩:=HA (W:=W.in1) (s:=s) (t:=t) i;exact notIn_tupleAt (items:=ag) e (jF _ g rfl bq rfl) (λy G=>he y<|by simpa using G)<|a6 aaQ<|J aE<|fD S .refl ad
 ·refine fN (Q) λt aW=>J aW<|bg ao λss f O=>?_;clear ao;replace ai:=f▸ai;replace R:=f▸R;replace ad:=O▸ad;refine dw R λag bq g i=>?_;clear R;obtain⟨e,he,aE⟩:=J6 (W:=W.in1) (s:=s) (t:=t) i;exact notIn_tupleAt (items:=ag) e (jF _ g rfl bq rfl) (λy G=>he y<|by simpa using G)<|a6 aaQ<|J aE<|fD S .refl ad
 ·refine fN (Q) λt aW=>J aW<|bg R λU D n=>?_;clear R;refine wpAny_notIn_of (rf _ t) (oZ aU S ai) D.mapOf ?_;rw[ti n,<-(ao:r=_)];exact fD (S.tok _) (.tok _) ad
 ·refine fN (Q) λt aW=>J aW<|bg R λU D n=>?_;clear R;refine wpAny_notIn_of (tg _ t) (oZ aU S ai) D.mapOf ?_;rw[ti n,<-(ao:r=_)];exact fD (S.tok _) (.tok _) ad
theorem Xd (aU:c.Ok):fQ c e (Cj .NotIn) (i5 true):=λW I s ab E a b aG ah q=>Jd aU W I s ab E a b aG ah
def Hj (I:az)(d:Addr)(i w:V)(ab:V->az->Prop):Prop:=match i with
 |.int k=>∃ah,I d=kZ (.cu ah)/\ab ((ah.lookup k).getD w) I
 |.str k=>∃ah,I d=kZ (.gD ah)/\ab ((ah.lookup k).getD w) I
 |_=>False
def uM (aa:List V)(ab:V->az->Prop)(I:az):Prop:=x2 aa (λo i=>gC o λd=>hh i λk=>Hj I d (.int k) .none ab) λo i w=>gC o λd=>Hj I d i w ab
theorem za [BEq aR][LawfulBEq aR][DecidableEq aR]{w:V}(C:iT aW U)(a1:w.is dD):((aW.lookup aN).getD w).is ((valueAt U aN).getD dD):=by
 cases X:aW.lookup aN with
 |some u=>obtain⟨v,e,aV⟩:=y9 C X;refine J e ?_;exact aV
 |none=>
  have:=ti (k:=aN) C;rw[X] at this;cases e:valueAt U aN with
  |none=>exact a1
  |some v=>rw[e] at this;exact Kf this
theorem Nm (aU:c.Ok):eg c e (.builtin "dict.get") uM:=by
 intro W I s ab E aa ag L S aX ad;intros a8;rcases FI ad with ad|ad
 ·refine nX (iV ad aX) λo i aF kQ V z aw aL h=>?_;replace aX:=V▸aX;replace ad:=V▸ad;replace ad:=V▸ad;refine J z ?_;refine bg (eP h) λd f g=>?_;subst f;refine p9 (h1 g) λk f ah C X=>?_;subst f;exact J aw<|fN (aL) λt aW=>J aW<|bg (S.rep _ _ C) λU D n=>call_meetsIn PySem.F.slot_dict_get D.typeIs PySem.F.entry_dict_get (PySem.F.args_dict_get_2 _ _) (meets_dict_get _ d (rf k t)<|oZ aU S C)<|bb _ D.mapOf<|jE (za n (w:=.none) rfl) (S.tok _) (.tok _) X
 ·refine z3 (uD ad aX) λo i w aF kQ x aB=>rA aB λj m aw aL a1 h=>?_;subst j;refine J m ?_;refine bg (eP h) λd f g=>?_;replace aw:=f▸aw;refine J aw ?_;cases i<;>try exact g.elim
  all_goals rename_i k _;refine fN (aL) λt aW=>J aW<|bg g λah C X=>?_;clear g;refine bg (S.rep _ _ C) λU D n=>?_
  ·exact call_meetsIn PySem.F.slot_dict_get D.typeIs PySem.F.entry_dict_get (PySem.F.args_dict_get_3 _ _ _) (meets_dict_get_default _ d (rf k t) (oZ aU S C) x)<|bb _ D.mapOf<|jE (za n a1) (S.tok _) (.tok _) X
  ·exact call_meetsIn PySem.F.slot_dict_get D.typeIs PySem.F.entry_dict_get (PySem.F.args_dict_get_3 _ _ _) (meets_dict_get_default _ d (tg k t) (oZ aU S C) x)<|bb _ D.mapOf<|jE (za n a1) (S.tok _) (.tok _) X
theorem VH:jo "dict" "get" "dict.get":=⟨F.plainAttrs_dict,PySem.F.slot_dict_get,F.type_dict_get⟩
end
set_option tactic.hygienic true
inductive Src where
 |list (r:Addr)
 |tup (r:Addr)
 |ka (a:Int)(cnt:Nat)(st:Int)
 |str (x:Str)
 |u6 (r:Addr)
 |zip (r t:Addr)
def kK:Src->Nat->az->Option (List V)->Prop
 |.list r,k,I,o=>∃aa,I r=kZ (.list aa)/\o=(aa[k]?).map λu=>[u]
 |.tup r,k,I,o=>∃aa,I r=kZ (.tup aa)/\o=(aa[k]?).map λu=>[u]
 |.ka a cnt st,k,_,o=>o=if k<cnt then kZ [.int<|a+st*k] else By
 |.str x,k,_,o=>o=(x.cps[k]?).map λb=>[.str ⟨#[b]⟩]
 |.u6 r,k,I,o=>∃aa,I r=kZ (.list aa)/\o=(aa[k]?).map λu=>[.int k,u]
 |.zip r t,k,I,o=>∃aa d,I r=kZ (.list aa)/\I t=kZ (.list d)/\o=(aa[k]?).bind λu=>(d[k]?).map λw=>[u,w]
inductive k5:Expr->List Str->Prop
 |one (x:Str) (p:Pos):k5 (.Name x p) [x]
 |two (x y:Str) (p X:Pos) (F:Nat) (fD:Pos):k5 (.Tuple [.Name x p,.Name y X] F fD) [x,y]
abbrev nx (P:Addr->Prop)(C av:Heap):Prop:=∀a o,¬ P a->C.get? a=kZ o->av.get? a=kZ o
theorem a9.jW {t:Nat}(S:a9 c I s)(ap:nx aF s.heap av)(b:∀a,aF a->I a=By)(aA:∀a,aF a->c.base.get? a=By):a9 c I {s with heap:=av,toks:=t}:= ⟨λa o e=>ap a o (λX=>by replace e:=(aA a X)▸e;exact bY e)<|S.keep a o e,λa o e=>(S.rep a o e).mono λb4 X=>ap a b4 (λp=>by replace e:=(b a p)▸e;exact bY e) X,S.new,S.gens,S.os⟩
theorem bG.jW {t:Nat}(x:bG L I s au aT)(ap:nx aF aT.heap av)(aO:∀a,aF a->s.heap.get? a=By):bG L I s au {aT with heap:=av,toks:=t}:=by have g:∀a o q,s.heap.get? a=kZ o->aT.heap.get? a=kZ q->av.get? a=kZ q:=λa o q e aW=>ap a q (λX=>by replace e:=(aO a X)▸e;exact bY e) aW;exact⟨λy o z e X=>g y o o X<|x.em y o z e X,λy o e=>cO (x.live y o e) λq aW=>⟨q,g y o q e aW⟩,x.fresh⟩
theorem cm.jW (F:cm af nm am I C)(ap:nx aF C av)(aE:∀a∈addrs af,¬ aF a):cm af nm am I av:=by
 have g:∀x∈addrs af,∀o,C.get? x=kZ o->av.get? x=kZ o:=λx Q o e=>ap x o (aE x Q) e;obtain⟨⟨m,d,aO,aU,aV⟩,an,aw,aj⟩:=F;refine⟨(dM m d ?_ (λz k e=>?_) aV),an,aw,λp aP=>?_⟩
 ·refine fg aO λo ah aR e r=>?_;clear aO;exact(i9 o ah aR (g _ (.head _) o e) r)
 ·exact bg (aU z k e) λo aW r=>(bb o (g k (.tail _<|yB.mpr<|bb ((z,k)) (mem_of_lookup e) rfl) o aW) r)
 ·obtain⟨o,e⟩:=aj p aP;exact⟨o,g _ (.tail _<|yB.mpr<|bb p aP rfl) o e⟩
def tu (c:cz)(W:qJ)(E:a3->eN->Prop)(af:Env)(aP:Expr)(it:Addr)(N:eN->Prop)(bl:eN->Prop):Option a3->eN->Prop:=λr aT=>match r with
 |none=>N aT
 |some v=>pn c.M W (letOwnedTupleGo aP (.ref it) v) (λq H=>pn c.M W (assign aP af v) (λq aO=>bl aO) E H) E aT
structure lN (c:cz)(it:Addr)(P:Addr->Prop)(st:Nat->Heap->Prop)(dx:Src)(b:Nat):Prop where
 rm:P it
 keep:∀k C av,st k C->(∀a o,P a->C.get? a=kZ o->av.get? a=kZ o)->st k av
 live:∀k C,st k C->∀a,P a->∃o,C.get? a=kZ o
 self:∀(W:qJ) (E:a3->eN->Prop) (s:eN) (k:Nat) (ab:a3->eN->Prop),st k s.heap->ab (.ref it) s->pn c.M W (pyIter (.ref it)) ab E s
 next:∀(W:qJ) (E:a3->eN->Prop) (af:Env) (aP:Expr) (xs:List Str) (I:az) (s:eN) (k:Nat) (o:Option (List V)) (N:eN->Prop) (bl:eN->Prop),W.handled=By->k5 aP xs->xs.length=b->a9 c I s->st k s.heap->(∀a,P a->I a=By)->kK dx k I o->
  (match o with
   |none=>∀av t,nx P s.heap av->N {s with heap:=av,toks:=t}
   |some aa=>∀ag av t,bV aa ag->aa.length=b->nx P s.heap av->st (k+1) av->pw c W E af xs ag bl {s with heap:=av,toks:=t})->pn c.M W (pyNext (.ref it)) (tu c W E af aP it N bl) E s
variable{bl:eN->Prop}
theorem vm {b:eN->Prop}(bu:k5 aP nm)(an:nm.length=1)(C:pw c bo E af nm [v] bl s):tu c bo E af aP a b bl (kZ v) s:=by
 cases bu with
 |one x p=>exact mB<|qy C
 |two=>cases an
theorem ext1 (x:mC a C av):nx (· =a) C av:=λb o X e=>x b o X e
theorem TF:lN c l (· =l) (λk C=>C.IsListIter l ae k) (.list ae) 1:=by
 refine⟨rfl,λk C av A X=>bg A λo e x=>(bb o (X l o rfl e) x),λk C A a aE=>bg A λo e q=>⟨o,aE▸e⟩,λq q q q q C X=>wpAny_pyIter_listiter C X,λW E af aP xs I s k o N bl B bu an S aU aO A bI=>bg A λaa aB aw=>?_⟩;refine dw (oQ S aB) λag bq bt ba=>?_;clear A;replace bI:=aw▸bI;cases Q:aa[k]? with
 |none=>
  replace bI:=Q▸bI;have b:ag[k]?=By:=by exact a6 nc<|fO.mpr (by refine a6 ba.length ?_;exact fO.mp Q)
  exact wpAny_pyNext_list_end B aU (en bt) b λav he=>bI av s.toks<|ext1 he
 |some u=>
  replace bI:=Q▸bI;refine bg (ba.get Q) λv aV aD=>?_;have aF:ag[k]?=kZ v:=by refine a6 nc ?_;exact aV
  exact wpAny_pyNext_list_item aU (en bt) aF λav f d=>vm bu an<|bI [v] av s.toks ⟨aD,trivial⟩ rfl (ext1 d.extBut) f
theorem TI:lN c l (· =l) (λk C=>C.IsTupleIter l ae k) (.tup ae) 1:=by
 refine⟨rfl,λk C av A X=>bg A λo e x=>(bb o (X l o rfl e) x),λk C A a aE=>bg A λo e q=>⟨o,aE▸e⟩,λq q q q q C X=>PySem.wpAny_pyIter_tupleiter C X,λW E af aP xs I s k o N bl B bu an S aU aO A bI=>bg A λaa aB aw=>?_⟩;refine dw (S.rep _ _ aB) λag bq bt ba=>?_;have D:s.heap.IsTuple ae ag:=(jF _ bt rfl bq rfl);clear A;replace bI:=aw▸bI;cases Q:aa[k]? with
 |none=>
  replace bI:=Q▸bI;have b:ag[k]?=By:=by exact a6 nc<|fO.mpr (by refine a6 ba.length ?_;exact fO.mp Q)
  exact wpAny_pyNext_tuple_end B aU D b λav he=>bI av s.toks<|ext1 he
 |some u=>
  replace bI:=Q▸bI;refine bg (ba.get Q) λv aV aD=>?_;have aF:ag[k]?=kZ v:=by refine a6 nc ?_;exact aV
  exact wpAny_pyNext_tuple_item aU D aF λav f d=>vm bu an<|bI [v] av s.toks ⟨aD,trivial⟩ rfl (ext1 d.extBut) f
theorem TG:lN c ae (· =ae) (λk C=>IsRangeIter C ae (pt+st*k) (i -k) st) (.ka pt i st) 1:=by
 refine⟨rfl,λk C av e X=>X _ _ rfl e,λk C e b aA=>⟨_,aA▸e⟩,λq q q q q C X=>wpAny_pyIter_rangeiter C X,λW E af aP xs I s k o N bl B bu an S aU aO aw bI=>?_⟩;cases(aw:o=_);by_cases ap:k<i
 ·replace bI:=(if_pos ap)▸bI;refine wpAny_pyNext_range_item aU (bC 4859144696 ap) λav f d=>vm bu an<|bI [_] av _ ⟨⟨_,rfl⟩,trivial⟩ rfl (ext1 d.extBut) ?_;have a8:pt+st*((k+1:Nat):Int)=pt+st*(k:Int)+st:=by refine J (t7 _ _)<|J (Ln _ _ _) ?_;lia
  have bo:(i:Int) -((k+1:Nat):Int)=(i:Int) -(k:Int) -1:=lp 944078727649299097;refine J a8<|J bo ?_;exact f
 ·replace bI:=(if_neg ap)▸bI;exact wpAny_pyNext_range_end B aU (bC 5622074007 ap) λav he=>bI av s.toks<|ext1 he
def uA (c:cz)(b:Nat)(I:az)(s:eN)(ab:Src->az->Prop):a3->eN->Prop:=λau H=>∃dx it P st aS,au=.ref it/\lN c it P st dx b/\st 0 H.heap/\(∀a,P a->s.heap.get? a=By)/\a9 c aS H/\bG cp I s aS H/\(∀a,P a->aS a=By)/\ab dx aS
structure lJ (c:cz)(n:Nat)(sc:ck)(nm:List Str)(e:Expr)(b:Nat)(ae:(Src->aI)->aI):Prop where
 r:∀(W:qJ) (af:Env) (am:List V) (I:az) (s:eN) (R:Src->aI) (j:jQ) (T:List V) (E:a3->eN->Prop),e9 W n->e1 c af sc nm->cm af nm am I s.heap->a9 c I s->ae R ⟨c,n,j⟩ am T I->
  pn c.M W (eval e af) (fun x aT=>pn c.M W (pyIter x) (uA c b I s fun dx Z=>R dx ⟨c,n,j⟩ am T Z) E aT) E s
def srcOf (u:V)(ab:Src->az->Prop)(I:az):Prop:=match u with
 |.ref r=>(∃aa,I r=kZ (.list aa)/\ab (.list r) I)\/(∃aa,I r=kZ (.tup aa)/\ab (.tup r) I)
 |.str x=>x.cps.all (· <128)=true/\ab (.str x) I
 |_=>False
variable{dx:Src}{co:Nat->Heap->Prop}{lH:Src->az->Prop}
theorem wt (bk:lN c ae (· =ae) co dx 1)(h0:co 0 ay.heap)(ax:s.heap.get? ae=By)(S:a9 c Z ay)(x:bG cp I s Z ay)(aO:Z ae=By)(X:lH dx Z):uA c 1 I s lH (.ref ae) ay:= ⟨dx,ae,_,co,Z,rfl,bk,h0,λa aE=>aE▸ax,S,x,λa aE=>aE▸aO,X⟩
abbrev et (R:Src->aI):aI:=λk am S I=>dq S λu S=>srcOf u (λdx Z=>R dx k am S Z) I
abbrev kF (m:hX)(R:Src->aI):aI:=λk am S I=>m S λaa S=>nN aa/\∃a cnt st,mK aa a cnt st/\R (.ka a cnt st) k am S I
theorem TH {t:Tok}:lN c ae (· =ae) (λk C=>C.IsStrIter ae "str_ascii_iterator" w t k) (.str w) 1:=by
 refine⟨rfl,λk C av A X=>bg A λo e y=>(bb o (X ae o rfl e) y),λk C A a aE=>bg A λo e q=>⟨o,aE▸e⟩,λq q q q q C X=>wpAny_pyIter_striter_ascii C X,λW E af aP xs I s k o N bl B bu an S aU aO aw bI=>?_⟩;cases(aw:o=_);cases Q:w.cps[k]? with
 |none=>replace bI:=Q▸bI;exact wpAny_pyNext_ascii_end B aU Q λav he=>bI av s.toks<|ext1 he
 |some b=>replace bI:=Q▸bI;exact wpAny_pyNext_ascii_item aU Q λav ao ax=>vm bu an<|bI [_] av _ ⟨⟨_,rfl⟩,trivial⟩ rfl (ext1 ax.extBut) ao
theorem RZ (C:bA c b aq nm aC cy):lJ c b aq nm aC 1 λR=>cy (et R):=by
 refine⟨λW af am I s R j T E L h F S ad=>?_⟩;intros a8;refine po (C.r W af am I s _ _ _ E L h F S ad) (λv aT A=>cq A λu au aQ a0 U aI=>?_) λq q aC=>aC;have n:s.heap.get? aT.heap.objs.size=By:=by
  cases aC:s.heap.get? aT.heap.objs.size with
  |none=>rfl
  |some o=>obtain⟨q,aW⟩:=U.live _ _ aC;exact absurd (acg aW)<|ki _
 cases u<;>try exact aI.elim
 ·rename_i x;obtain⟨t,rfl⟩:=aQ;obtain⟨aE,ad⟩:=aI;exact wpAny_pyIter_ascii aE<|(wt (TH (t:=t)) (c7 _ (ph _ rfl) rfl rfl) n (a0.push _) (U.trans<|.push _) a0.lA ad)
 ·rename_i r;clear A;cases aQ;rcases aI with aM|aM
  ·refine bg aM λaa aB ad=>?_;clear aM;exact dw (oQ a0 aB) λag bq bt ba=>wpAny_pyIter_list (en bt)<|(wt TF (c7 _ (ph _ rfl) rfl rfl) n (a0.push _) (U.trans<|.push _) a0.lA ad)
  ·refine bg aM λaa aB ad=>?_;clear aM;exact dw (a0.rep _ _ aB) λag bq bt ba=>PySem.wpAny_pyIter_tuple (items:=ag) (jF _ bt rfl bq rfl)<|(wt TI (c7 _ (ph _ rfl) rfl rfl) n (a0.push _) (U.trans<|.push _) a0.lA ad)
theorem RY (hf:bA c b aq nm (.Name "range" fb) (aM<|.ext<|.type "range"))(aE:gY c b aq nm ah aZ)(aP:jC ah):lJ c b aq nm (.Call (.Name "range" fb) ah [] cL) 1 λR=>aZ (kF (eL ah.length []) R):=by
 refine⟨λW af am I s R j T E L h F S ad=>?_⟩;intros a8;refine pg<|yD hf L h F S λm d aN=>?_;have f:=F.bT aN;refine callWith_of (P:=λq=>True) (by rw[aP];rfl) (λC q=>vV λq e=>by cases e)<|sS (aP _ _)<|po (aE.r W af am I m _ _ _ E _ L h f d ad) (λag aT A=>gi A λaa au aX a0 U an aI=>dp (m4 (P:=λaa S=>nN aa/\∃a cnt st,mK aa a cnt st/\R (.ka a cnt st) ⟨c,b,j⟩ am S au) an aI) λg aI=>fg aI λa cnt st aB ad=>⟨trivial,?_⟩) λq q e=>e;refine Yh L a0 aX g aB λw H i k ak aR=>?_;have n:s.heap.get? w=By:=by
  cases e:s.heap.get? w with
  |none=>rfl
  |some o=>obtain⟨q,aW⟩:=(aN.trans U).live _ _ e;replace aW:=i▸aW;exact bY aW
 have aj:au w=By:=by
  cases e:au w with
  |none=>rfl
  |some o=>obtain⟨b4,aW⟩:=(a0.rep _ _ e).there;replace aW:=i▸aW;exact bY aW
 exact(wt TG (by simpa using k) n ak ((aN.trans U).trans aR) aj ad)
def jR (dx:Src)(is:List Nat)(B:xU)(ab:jK->List V->az->Prop)(am:List V)(I:az):Prop:= ∃(a4:Nat->List V->az->Prop) (len:Nat),a4 0 am I/\∀k am I,a4 k am I->k<=len/\(k=len->kK dx k I By/\ab .next am I)/\(k<len->∃aa,kK dx k I (kZ aa)/\B (pb is aa am) (λd l aS=>match d with
  |.next|.cont=>a4 (k+1) l aS
  |.brk=>ab .next l aS
  |.ret u=>ab (.ret u) l aS) I)
noncomputable abbrev HI (k:KK)(ab:jK->List V->az->Prop):KK:=⟨k.c,k.d,λu I=>ab (.ret u) [] I,λam I=>ab .next am I,λam I=>ab .brk am I⟩
abbrev Vf (k:KK)(B:aI):xU:=λam ab I=>B (HI k ab) am [] I
abbrev gt (is:List Nat)(B R:aI)(dx:Src):aI:=λk am S I=>jR dx is (Vf k B) (mX k R S) am I
theorem y3 (bk:lN c ae aF co dx b)(aU:co i s.heap)(aO:∀a,aF a->I a=By)(x:bG L I s au aT)(aw:∀a,aF a->¬ L a):co i aT.heap/\∀a,aF a->au a=By:= ⟨bk.keep _ _ _ aU λa o p e=>x.em a o (aw a p) (aO a p) e,λa p=>cO (bk.live _ _ aU a p) λo e=>x.fresh a o e<|aO a p⟩
theorem Si (a4:Nat->eN->Prop)
 (an:∀n s,a4 n s->pn c.M bo (pyNext<|.ref a) (tu c bo (notedBy c.M bo af λe ay=>R (.error e) ay) af aP a (λaT=>R (.ok .next) aT) λH=>pn c.M bo (execs body af) (λf aO=>match f with
  |.next|.cont=>∃m,m<n/\a4 m aO
  |.brk=>R (.ok .next) aO
  |.ret v=>R (.ok<|.ret v) aO) (notedBy c.M bo af λe ay=>R (.error e) ay) H) (notedBy c.M bo af λe ay=>R (.error e) ay) s)
 (n:Nat)(C:a4 n s):br c.M bo (.forLoop aP (.ref a) body [] af) R s:=
 codeAny_forLoop_any a4 (λn s C=>po (an n s C) (λr aT C=>by cases r with|none=>exact mA C|some v=>exact C) λq q e=>e) n C
variable{cW:(Src->aI)->aI}
theorem Sr (is:List Nat)(bu:k5 aP ch)(aL:lG nm is ch)(C:lJ c i aq nm aC ch.length cW)(aA:k3 c i aq nm kx body aZ)(ax:∀af v,r4 aC af v=pure v):jN c i aq nm kx (.For aP aC body [] pos) λR=>cW (gt is (aZ bv) R):=by
 refine⟨λW af am I s R j E L bt h F S ad=>?_⟩;intros a8;refine wpAny_For (po (C.r W af am I s _ _ [] _ L h F S ad) (λv aT aI=>po aI (λau H bd=>?_) λq q e=>e) λq q e=>e)<|ax af;refine hr ?_;intro D;refine bP λbz aN=>?_;refine g1 bd λdx w P st aS aB=>wa aB λV bk aU n ak aR aj az=>fz az λa4 len M=>dp M λb0 an=>?_;clear bd;replace aN:=V▸aN;refine aN ?_;have g:=F.bT aR;have aX:∀a,P a->¬ Own af a:=λa p X=>by obtain⟨o,e⟩:=F.live _ X;replace e:=(n a p)▸e;exact bY e
 have a6:∀a∈addrs af,¬ P a:=λa X p=>aX a p X;have l:∀a,P a->c.base.get? a=By:=λa p=>kq S<|n a p;refine Si (λm ay=>∃k B Z,m=len -k/\cm af nm B Z ay.heap/\a9 c Z ay/\bG (Own af) I s Z ay/\(∀a,P a->Z a=By)/\st k ay.heap/\a4 k B Z) ?_ len<|AZ (0) am aS rfl g ak aR.hT aj aU b0;intro m ay aM;refine rB aM λk B Z a3 ai ar O T bA bs=>?_;clear aM;subst a3;intros U;refine hO (an k B Z bs) λa5 b1 cc=>?_;by_cases ap:k<len
 ·refine bg (cc ap) λaa aQ x=>bk.next _ _ af aP ch Z ay k (kZ aa) _ _ L.handled bu rfl ar bA T aQ λag av t aD aW he ca=>?_;have a2:a9 c Z {ay with heap:=av,toks:=t}:=ar.jW he T l;have a7:cm af nm B Z av:=ai.jW he a6;have bj:bG (Own af) I s Z {ay with heap:=av,toks:=t}:=O.jW he n;refine Ka (s:={ay with heap:=av,toks:=t}) h a7 a2 aL (aW.trans (sy aL).symm) aD λaY bK be bf=>bJ ?_;intro ab;obtain⟨G,bq⟩:=y3 (s:={ay with heap:=av,toks:=t}) bk ca T bf aX;refine po (aA.r W af _ Z aY _ _ _ L bt h bK be x) (λf ao A=>mh A λd b bh z K bi bD al=>?_) λq q e=>e;have aH:=(bj.trans bf).trans bD;have cg:∀X:a4 (k+1) b bh,∃m,m<len -k/\∃k B Z,m=len -k/\cm af nm B Z ao.heap/\a9 c Z ao/\bG (Own af) I s Z ao/\(∀a,P a->Z a=By)/\st k ao.heap/\a4 k B Z:=λX=>by refine fw ?_;intro N;obtain⟨Q,y⟩:=y3 bk G bq bD aX;exact(⟨(len -(k+1)),(bS 2528158226008121602 ap rfl rfl),(k+1),b,bh,rfl,K,bi,aH,y,Q,X⟩)
  cases d with
  |next=>refine J z ?_;exact cg al
  |cont=>exact al.elim
  |brk=>exact al.elim
  |ret u=>obtain⟨v,rfl,aV⟩:=z;exact iv (k:=.ret u) (bb v rfl aV) K bi aH al
 ·have bn:k=len:=by exact bC 4363129091 a5 ap
  obtain⟨b7,bM⟩:=b1 bn;exact bk.next _ _ af aP ch Z ay k By _ _ L.handled bu rfl ar bA T b7 λav t he=>iv (k:=.next) (ay:={ay with heap:=av,toks:=t}) rfl (ai.jW he a6) (ar.jW (t:=t) he T l) (O.jW (t:=t) he n) bM
set_option tactic.hygienic false
noncomputable def ly (sc aq:ck):ck:= {aq with names:=aq.names.map λ(e,k)=>if(k==.free&&sc.kind==.function&&sc.names.lookup e==kZ .cell) then(e,.cell) else(e,k)}
theorem JB (aq:ck)(af:Env):relabel aq af=ly af.scope aq:=rfl
noncomputable def er (cells:List (Str×Addr)):List (Str×Lg)->List (Str×Addr)->List (Str×Addr)
 |[],N=>N
 |(e,k)::r,N=>if k==.free then er cells r ((e,(cells.lookup e).getD 0)::N) else er cells r N
theorem Qf (C:∀y∈aq.names,y.2=.free->(af.cells.lookup y.1).isSome=true):closureFor aq af=pure (er af.cells aq.names []):=by
 simp only[closureFor];have g:∀(names:List (Str×Lg)) (N:List (Str×Addr)),(∀y∈names,y.2=.free->(af.cells.lookup y.1).isSome=true)->
  (forIn names N (λ(x:Str×Lg) (cs:List (Str×Addr))=>if(x.2==.free)=true then(do let __do_lift<-cellOf af x.1;pure<|ForInStep.yield<|(x.1,__do_lift)::cs) else pure (ForInStep.yield cs)):Sem (List<|Str×Addr))=pure (er af.cells names N):=by
  intro names
  induction names with
  |nil=>intro N q;refine J ik ?_;rfl
  |cons y r D=>
   intro N G;obtain⟨m,k⟩:=y;refine J (Lf _ _ _ _) ?_;show _=(pure (if(k==t8)=true then er af.cells r ((m,(af.cells.lookup m).getD 0)::N) else er af.cells r N):Sem _);by_cases ap:(k==t8)=true
   ·obtain⟨a,aE⟩:=Ci.mp<|G (m,k) (.head _) (by simpa using ap);simp only[ap,if_true];have:cellOf af m=pure a:=by unfold cellOf;exact J aE rfl
    exact J this<|J aE<|D _ λy C=>G y<|.tail _ C
   ·simp only[ap,if_false];exact D _ λy C=>G y<|.tail _ C
 have:=g aq.names [] C;rw[bind_pure] at*;exact this
structure pq (sc aq:ck)(nm:List Str)(xs:List Str)(fr:List Str)(is:List Nat):Prop where
 kind:aq.kind=.function
 Wv:∀y∈aq.names,y.2≠.cell
 names:∀y∈aq.names,y.2=.local->aq.names.lookup y.1=kZ .local
 Ao:∀x∈xs,(ly sc aq).names.lookup x=kZ .local
 frees:∀y∈aq.names,y.2=.free->y.1∈fr
 cR:∀y∈fr,sc.names.lookup y=kZ .cell/\(y,t8)∈aq.names/\(ly sc aq).names.lookup y=kZ .cell
 x3:lG nm is fr
 nodup:(xs++fr).Nodup
 keys:(aq.names.map (·.1)).Nodup
variable{cells:List (Str×Addr)}
theorem Gf:∀{names:List (Str×Lg)} {N:List (Str×Addr)} {p:Str×Addr},p∈er cells names N->p∈N\/((p.1,t8)∈names/\p.2=(cells.lookup p.1).getD 0):=by
 intro h;induction h with
 |nil=>intro s l C;exact .inl C
 |cons i r D=>
  intro N p C;obtain⟨m,k⟩:=i;by_cases ap:(k==t8)=true
  ·have e:er cells ((m,k)::r) N=er cells r ((m,(cells.lookup m).getD 0)::N):=if_pos ap;replace C:=e▸C;have g:k=.free:=by simpa using ap
   rcases D C with C|⟨C,av⟩
   ·rcases Q8.mp C with rfl|C
    ·exact .inr ⟨by refine J g ?_;exact .head _,rfl⟩
    ·exact .inl C
   ·exact .inr ⟨.tail _ C,av⟩
  ·have e:er cells ((m,k)::r) N=er cells r N:=if_neg ap;replace C:=e▸C;rcases D C with C|⟨C,av⟩
   ·exact .inl C
   ·exact .inr ⟨.tail _ C,av⟩
theorem PZ:∀{names:List (Str×Lg)} {N:List (Str×Addr)},(names.map (·.1)++N.map (·.1)).Nodup->((er cells names N).map (·.1)).Nodup:=by
 intro h;induction h with
 |nil=>intro s C;exact C
 |cons i r D=>
  intro N C;obtain⟨m,k⟩:=i;by_cases ap:(k==t8)=true
  ·have e:er cells ((m,k)::r) N=er cells r ((m,(cells.lookup m).getD 0)::N):=if_pos ap;refine J e ?_;refine D ?_;rw[n8] at C⊢;exact(gX.nodup_iff).mpr C
  ·have e:er cells ((m,k)::r) N=er cells r N:=if_neg ap;refine J e ?_;refine D ?_;replace C:=(propext aaK)▸t3▸n8▸C;exact C.2
theorem PY:∀{names:List (Str×Lg)} {N:List (Str×Addr)},((w,t8)∈names\/∃a,(w,a)∈N)->∃a,(w,a)∈er cells names N:=by
 intro h;induction h with
 |nil=>
  intro s C;rcases C with C|C
  ·cases C
  ·exact C
 |cons i r D=>
  intro N C;obtain⟨m,k⟩:=i;refine J (by exact rfl:er cells ((m,k)::r) N=if k==.free then er cells r ((m,(cells.lookup m).getD 0)::N) else er cells r N) ?_;split
  ·rename_i ap;refine D ?_;rcases C with C|⟨a,C⟩
   ·rcases Q8.mp C with e|C
    ·cases e;exact .inr ⟨_,.head _⟩
    ·exact .inl C
   ·exact .inr ⟨a,.tail _ C⟩
  ·rename_i ap;refine D ?_;rcases C with C|C
   ·rcases Q8.mp C with e|C
    ·cases e;exact(ap rfl).elim
    ·exact .inl C
   ·exact .inr C
theorem FO:∀{xs:List Str} {j:Nat} {x:Str},lG nm a0 xs->xs[j]?=kZ x->∃i,a0[j]?=kZ i/\nm[i]?=kZ x:=by
 induction a0 with
 |nil=>intro xs j x C e;cases xs with
  |nil=>exact bY e
  |cons=>exact C.elim
 |cons i a0 D=>intro xs j x C e;cases xs with
  |nil=>exact C.elim
  |cons y xs=>cases j with
   |zero=>cases e;exact bb i rfl C.1
   |succ j=>exact D C.2 e
noncomputable def proj (is:List Nat)(am:List V):List V:=is.map λi=>(am[i]?).getD .aK
variable{e3:ck}
theorem yo (ok:pq e3 aq nm ch names a0)(h:e1 c af e3 nm)(H:∀a∈addrs af,a≠ae)(aA:c.base.get? ae=By): e1 c (compEnvC aq (er af.cells aq.names []) ae af) (ly e3 aq) (ch++names)/\closureFor aq af=pure (er af.cells aq.names [])/\(∀p∈er af.cells aq.names [],p∈af.cells):=by
 obtain⟨dc,ap,U,A,L,K,l,B,Q⟩:=h;have b:∀y∈names,(af.cells.lookup y).isSome=true:=λy G=>by
  obtain⟨j,bi,e⟩:=List.mem_iff_getElem.mp G;refine bg (FO ok.x3 (j:=j) (x:=y)<|J (Lw bi)<|J e rfl) λi q aL=>?_;have hm:y∈nm:=jI aL;rcases U y hm with C|C
  ·replace C:=(ok.cR y G).1▸C;cases C
  ·exact C.2
 have sub:∀p∈er af.cells aq.names [],p∈af.cells:=λp aP=>by
  rcases Gf aP with C|⟨C,av⟩
  ·cases C
  ·obtain⟨a,aE⟩:=Ci.mp<|b _<|ok.frees _ C rfl;replace av:=aE▸av;have:=mem_of_lookup aE;obtain⟨el,dg⟩:=p;cases(av:dg=a);exact this
 have keys:((er af.cells aq.names []).map (·.1)).Nodup:=PZ (by simpa using ok.keys);refine⟨⟨by refine(?_:relabel aq af=_);exact J (JB _ _)<|J dc rfl,ok.kind,λy G=>?_,ok.nodup,?_,λz k aj X=>?_,l,B,λa aE=>?_⟩,Qf λy G hf=>b _<|ok.frees y G hf,sub⟩
 ·rcases bc.mp G with G|G
  ·exact .inl<|ok.Ao y G
  ·refine .inr ⟨(ok.cR y G).2.2,?_⟩;obtain⟨a,aE⟩:=PY (cells:=af.cells) (N:=[])<|.inl (ok.cR y G).2.1;refine(?_:((er af.cells aq.names []).lookup y).isSome=true);refine J (Il keys aE) ?_;rfl
 ·refine(?_:(er af.cells aq.names []).Pairwise _);refine List.Pairwise.imp_of_mem (R:=λp X=>p.1≠X.1) (λ{p X} aP ad aX e=>?_)<|List.pairwise_map.mp keys;exact aX<|name_of_addr (n:=p.1) (n':=X.1) (c:=p.2) L (sub _ aP) (by have:=sub _ ad;refine J e ?_;exact this)
 ·exact H k (.tail _<|yB.mpr<|bb _ (sub _ aj) rfl) X.symm
 ·rcases Q8.mp aE with rfl|aE
  ·exact aA
  ·refine bg (yB.mp aE) λp aP O=>?_;refine a6 O ?_;exact Q _<|.tail _<|yB.mpr<|bb p (sub _ aP) rfl
variable{fL:Str->Option a3}
theorem Qr (ok:pq e3 aq nm ch names a0)(h:e1 c af e3 nm)(sub:∀p∈er af.cells aq.names [],p∈af.cells)(F:cm af nm am I C) (H:I ae=By)(aO:C.Ns ae fL)(f:aa.length=ch.length)(aV:∀(j:Nat) (x:Str) (u:V),ch[j]?=kZ x->aa[j]?=kZ u->∃v,fL x=kZ v/\u.is v):cm (compEnvC aq (er af.cells aq.names []) ae af) (ch++names) (aa++proj a0 am) I C:=by
 refine zj ?_;intro n;obtain⟨⟨o,d,m,aU,ba⟩,an,aw,aj⟩:=F;have keys:∀{y k},(er af.cells aq.names []).lookup y=kZ k->af.cells.lookup y=kZ k:=λ{y k} e=>by
  have ai:=mem_of_lookup e;rcases Gf ai with C|⟨C,av⟩
  ·cases C
  ·have ao:=sub _ ai;cases X:af.cells.lookup y with
   |some a=>replace av:=X▸av;cases(av:k=a);rfl
   |none=>
    have:∀{l:List (Str×Addr)},(y,k)∈l->l.lookup y≠By:=by
     intro l;induction l with
     |nil=>intro C;cases C
     |cons p r D=>
      intro C;refine J wQ ?_;split
      ·exact λe=>by exact g4 e
      ·rename_i X;rcases Q8.mp C with rfl|C
       ·simp at X
       ·exact D C
    exact(this ao X).elim
 refine⟨(dM fL d aO (λy k e=>aU y k<|keys e) λj y w bi a1=>?_),?_,λa aE=>?_,λp aP=>aj p<|sub p aP⟩
 ·refine fw ?_;intro N;have ax:(compEnvC aq (er af.cells aq.names []) ae af).scope=ly e3 aq:=by refine(?_:relabel aq af=_);exact J (JB _ _)<|J h.dc rfl
  by_cases X:j<ch.length
  ·replace bi:=(Bu X)▸bi;replace a1:=(Bu<|by refine J f ?_;exact X)▸a1;refine bg (aV j y w bi a1) λv hm aQ=> .inr<|bb v ?_ aQ;refine J ax<|J (if_pos<|ok.Ao y<|jI bi) ?_;exact hm
  ·have aS:=ep.mp X;replace bi:=(kU aS)▸bi;replace a1:=(kU<|by refine J f ?_;exact aS)▸a1;replace a1:=f▸a1;have G:y∈names:=jI bi;refine bg (FO ok.x3 bi) λi aL S=>?_;unfold proj at a1;replace a1:=aL▸qw▸a1;simp only[m9,kZ.injEq] at a1;cases g:am[i]? with
   |none=>replace a1:=g▸a1;exact .inl a1.symm
   |some T=>
    replace a1:=g▸a1;cases(a1:T=w);rcases ba i y T S g with e|aM
    ·exact .inl e
    ·refine bg aM λb e z=>?_;clear aM;refine .inr<|bb b ?_ z;rw[h.dc,if_neg<|by refine J (ok.cR y G).1 ?_;exact λe=>by cases e] at e;refine J ax<|J (if_neg<|by rw[(ok.cR y G).2.2];exact λe=>by cases e) ?_;exact e
 ·refine(?_:(aa++proj a0 am).length=(ch++names).length);refine J nb<|J nb<|J f ?_;unfold proj;exact J (aa0 _)<|J (sy ok.x3) rfl
 ·rcases Q8.mp aE with rfl|aE
  ·exact H
  ·refine bg (yB.mp aE) λp aP O=>?_;refine a6 O ?_;exact aw _<|.tail _<|yB.mpr<|bb p (sub _ aP) rfl
def xv (dx:Src)(aq:List V->(V->az->Prop)->(az->Prop)->az->Prop)(e7:List V)(fj:List V->az->Prop)(I:az):Prop:= ∃(a4:Nat->List V->az->Prop) (len:Nat),len<=gW/\a4 0 [] I/\∀k ag I,a4 k ag I->ag.length<=k/\k<=len/\(k=len->kK dx k I By/\fj ag I)/\ (k<len->∃aa,kK dx k I (kZ aa)/\aq (aa++e7) (λw Z=>a4 (k+1) (ag++[w]) Z) (λZ=>a4 (k+1) ag Z) I)
abbrev km (dx:Src)(ck:xr)(e7:List V)(fj:List V->az->Prop)(I:az):Prop:=xv dx (λam ab q I=>ck am ab I) e7 fj I
theorem vh (x:bG aF I s au aT)(C:aT.heap.get? a=By):s.heap.get? a=By:=by
 cases e:s.heap.get? a with
 |none=>rfl
 |some o=>obtain⟨q,aW⟩:=x.live _ _ e;replace aW:=C▸aW;exact bY aW
theorem tK (S:a9 c I s)(C:s.heap.get? a=By):I a=By:=by
 cases e:I a with
 |none=>rfl
 |some o=>obtain⟨b4,aW⟩:=(S.rep _ _ e).there;replace aW:=C▸aW;exact bY aW
abbrev ow (k:KK)(B:aI):xr:=λam ab I=>B ⟨k.c,k.d,ab,k.j.n,k.j.b⟩ am [] I
abbrev sm:=KK->List V->(V->az->Prop)->(az->Prop)->az->Prop
noncomputable abbrev Kq (K:List Expr)(af:Env):Sem Bool:=forIn K true λc r=>if r=true then do let ok<-isTrue c af (eval c af);pure (ForInStep.yield ok) else pure (ForInStep.yield r)
structure qL (c:cz)(n:Nat)(sc:ck)(nm:List Str)(K:List Expr)(aC:Expr)(aq:sm):Prop where
 r:∀(W:qJ) (af:Env) (am:List V) (I:az) (s:eN) (ab:V->az->Prop) (N:az->Prop) (j:jQ) (E:a3->eN->Prop),e9 W n->e1 c af sc nm->cm af nm am I s.heap->a9 c I s->aq ⟨c,n,j⟩ am ab N I->
  pn c.M W (Kq K af) (fun ok aO=>if ok=true then pn c.M W (eval aC af) (dF c I s ab) E aO else∃aM,a9 c aM aO/\bG cp I s aM aO/\N aM) E s
theorem R5 (he:bA c e aq nm aC cy):qL c e aq nm [] aC λk am ab q I=>ow k (cy bf) am ab I:= ⟨λW af am I s ab N j E L h F S ad=>wpAny_tests_nil<|by refine(if_pos rfl).mpr ?_;exact he.r W af am I s _ _ _ E L h F S ad⟩
abbrev yp (k:KK)(B:aI)(am:List V)(ab:V->az->Prop)(N:az->Prop)(I:az):Prop:=B ⟨k.c,k.d,ab,λq I=>N I,k.j.b⟩ am [] I
theorem R4 (bu:hE c i aq nm aP gj)(he:bA c i aq nm aC cy):qL c i aq nm [aP] aC λk am ab N I=>yp k (gj (cy bf) bv) am ab N I:=by
 refine⟨λW af am I s ab N j E L h F S ad=>wpAny_tests_one<|po (bu.r W af am I s _ _ _ _ E L h F S ad) (λb aT A=>eK A λau a0 U aI=>?_) λq q e=>e⟩;cases b with
 |true=>refine(if_pos rfl).mpr ?_;exact po (he.r W af am au aT _ _ _ E L h (F.bT U) a0 aI) (dF.trans U) λq q e=>e
 |false=>refine(if_neg<|by decide).mpr ?_;exact⟨au,a0,U,aI⟩
theorem Qs (a4:Nat->eN->Prop)
 (an:∀n s,a4 n s->pn c.M bo (pyNext<|.ref a) (tu c bo (notedBy c.M bo af λe ay=>R (.error e) ay) af aP a (λaT=>R (.ok .next) aT) λH=> pn c.M bo (Kq ah af) (λok aO=> if ok=true then pn c.M bo (eval aC af) (λx aY=> pn c.M bo (call (.builtin "list.append") [dD,x]) (λq ao=>∃m,m<n/\a4 m ao) (notedBy c.M bo af λe ay=>R (.error e) ay) aY) (notedBy c.M bo af λe ay=>R (.error e) ay) aO else∃m,m<n/\a4 m aO) (notedBy c.M bo af λe ay=>R (.error e) ay) H) (notedBy c.M bo af λe ay=>R (.error e) ay) s)
 (n:Nat)(C:a4 n s):br c.M bo (.compLoop (.ListComp aC [⟨aP,bW,ah,0⟩] aq pos) 0 (.ref a) dD af) R s:=by
 refine codeAny_loop rfl a4 (λn s bk=>?_) n C
 intros cd;refine(?_:pn _ bo ((compTurn (.ListComp aC [⟨aP,bW,ah,0⟩] aq pos) 0 (.ref a) dD af).onRaise λx=>do noteFrame x af;theTreesLotGoes x) _ _ s)
 refine wpAny_noted ?_
 rw[compTurn_list]
 refine sg<|nt<|sg<|po (an n s bk) (λr aT aI=>?_) λq q av=>av
 cases r with
 |none=>exact mB aI
 |some v=>
  refine sg<|po aI (λq b w=>?_) λq q av=>av;refine sg<|po w (λq H bd=>sg<|po bd (λok aO bn=>?_) λq q av=>av) λq q av=>av;cases ok with
  |false=>exact mB ⟨rfl,bn⟩
  |true=>exact sg<|sg<|po bn (λx aY a3=>sg<|po a3 (λq ao bE=>mB<|mB ⟨rfl,bE⟩) λq q av=>av) λq q av=>av
theorem ZL (ap:af.scope.kind=.function):∀{ag:List a3} {m:Str->Option a3} {s:eN} {ab:eN->Prop},(∀x∈nm,af.kindOf x=kZ .local)->nm.Nodup->ag.length=nm.length->s.heap.Ns af.locals m->
 (∀av t a,av.Ns af.locals a->(∀(j:Nat) (x:Str) (v:a3),nm[j]?=kZ x->ag[j]?=kZ v->a x=kZ v)->(∀y,y∉nm->a y=m y)->mC af.locals s.heap av->ab {s with heap:=av,toks:=t})->pw c bo E af nm ag ab s:=by
 induction nm with
 |nil=>
  intro ag m s ab an hd he aO C;cases ag with
  |cons=>cases he
  |nil=>exact C s.heap s.toks m aO (λj x v e=>bY e) (λq q=>rfl) λq q q e=>e
 |cons x nm D=>
  intro ag m s ab an hd he aO C;cases ag with
  |nil=>cases he
  |cons v ag=>
   replace hd:=aaK.mp hd;refine wpAny_storeName_local (an x<|.head _) aO (λaI g d=>?_) (by refine J ap ?_;rfl);refine D (s:={s with heap:=aI,toks:=s.toks+1}) (λy G=>an y<|.tail _ G) hd.2 (c6.inj he) g λav t a T aV G ex=>C av t a T (λj z w b acf=>?_) (λy X=>?_)<|d.extBut.trans ex
   ·cases j with
    |zero=>cases b;cases acf;exact(G x hd.1).trans<|if_pos rfl
    |succ j=>exact aV j z w b acf
   ·exact(G y λe=>X<|.tail _ e).trans<|if_neg λe=>X (by refine J e ?_;exact .head _)
variable{fj:List V->az->Prop}{el:sm}
theorem Gs {K:List Expr}{bL:a3->Addr->Result->eN->Prop} (bu:k5 aP ch)(ok:pq e3 aq nm ch names a0)(he:qL c i (ly e3 aq) (ch++names) K aC el)(L:e9 bo i)(h:e1 c af e3 nm)(g:cm af nm am au aT.heap)(ak:a9 c au aT)(ab:bG cp I s au aT)(n:∀a,aF a->s.heap.get? a=By)(aj:∀a,aF a->au a=By)(bk:lN c l aF co dx ch.length)(aU:co 0 aT.heap)(bv:∀a∈addrs af,¬ aF a)(cg:∀a,aF a->c.base.get? a=By) (ad:xv dx (el ⟨c,i,k0⟩) (proj a0 am) fj au) (P:∀D ae ay Z m ag bq,s.heap.get? D=By->s.heap.get? ae=By->D≠ae->D∉addrs af->ae∉addrs af->c.base.get? D=By->c.base.get? ae=By->cm af nm am Z ay.heap->a9 c Z ay->bG cp I s Z ay->Z D=By->Z ae=By->ay.heap.Ns ae m->ay.heap.PlainList D bq->bV ag bq.toList->ag.length<=gW->fj ag Z->bL (.ref D) ae (.ok .next) ay): pn c.M bo (newList []) (λN aO=>pn c.M bo (newFunctionEnv aq af.globals (er af.cells aq.names []) [] af.qual By .none<|kZ af) (λcf aY=> br c.M bo (.compStart (.ListComp aC [⟨aP,bW,K,0⟩] aq pos) 0 (.ref l) N {cf with scope:=relabel aq af}) (bL N cf.locals) aY) E aO) E aT:=by
 refine wpAny_newObj_type<|wpAny_newFunctionEnv ok.Wv (by intro y G;simp at G) (λaI b6 bR=>?_) ok.kind;dsimp only at b6 bR⊢;generalize bX:aT.heap.push {cls:=.type "list",dict:=By,data:=.seq ([]:List a3).toArray}=ce at b6 bR⊢;have bU:ce.objs.size=aT.heap.objs.size+1:=a6 bX<|J (d8 _ _) rfl;generalize H:ce.objs.size=ae at*;generalize O:aT.heap.objs.size=D at*;have aw:D≠ae:=by refine J bU ?_;exact eB<|BL _
 have V:aT.heap.get? D=By:=mP _<|r5 O;have W:aT.heap.get? ae=By:=mP _ (by refine J bU<|J O ?_;exact Bv _);have ax:∀b o,aT.heap.get? b=kZ o->aI.get? b=kZ o:=λb o e=>by
  have aA:=acg e;have a8:b≠ae:=by refine J bU<|a6 O ?_;exact eB<|Ly aA
  exact bR.extBut b o a8<|sh _<|bX▸sh _ e
 have R:aI.PlainList D #[]:=⟨_,bR.extBut _ _ aw<|sh _<|by refine a6 bX<|a6 O ?_;exact ph _ rfl⟩;have bO:D∉addrs af:=λX=>by obtain⟨o,e⟩:=g.live _ X;replace e:=V▸e;exact bY e
 have aJ:ae∉addrs af:=λX=>by obtain⟨o,e⟩:=g.live _ X;replace e:=W▸e;exact bY e
 have b3:¬ aF D:=λp=>by obtain⟨o,e⟩:=bk.live _ _ aU D p;replace e:=V▸e;exact bY e
 have b2:¬ aF ae:=λp=>by obtain⟨o,e⟩:=bk.live _ _ aU ae p;replace e:=W▸e;exact bY e
 have bI:=vh ab V;have bE:=vh ab W;have bp:=kq ak V;have aZ:=kq ak W;refine bP λbz aN=>hO (yo (ae:=ae) ok h (λa aE X=>aJ<|X▸aE) aZ) λcd bQ sub=>gG ad λa4 len bF b0 an=>?_;clear ad;refine aN ?_;have ck:∀aO:eN,aO={aT with heap:=aI,toks:=aT.toks+([]:List (Str×a3)).length}-> br c.M bo (.compLoop (.ListComp aC [⟨aP,bW,K,0⟩] aq pos) 0 (.ref l) (.ref D)<|compEnvC aq (er af.cells aq.names []) ae af) (bL (.ref D) ae) aO:=by
  rintro aO rfl;refine Qs (λm ay=>∃k ag bq Z fM,m=len -k/\cm af nm am Z ay.heap/\a9 c Z ay/\bG cp I s Z ay/\(∀a,aF a->Z a=By)/\Z ae=By/\Z D=By/\co k ay.heap/\ay.heap.Ns ae fM/\ay.heap.PlainList D bq/\bV ag bq.toList/\a4 k ag Z) ?_ len ⟨0,[],#[],au,_,rfl,g.bT<|.grow (t:=aT.toks) ax,ak.grow ax,ab.trans<|.grow ax,aj,tK ak W,tK ak V,bk.keep _ _ _ aU λa o p e=>ax _ o e,b6,R,trivial,b0⟩;intro m ay aM;intros cw;refine g1 aM λk ag bq Z fM aB=>WU aB λz ai ar U S C bj bA bf ci ba bs=>?_;clear aM;subst z;refine i7 (an k ag Z bs) λaH a5 b1 cc=>?_;by_cases ap:k<len
  ·refine bg (cc ap) λaa aQ T=>bk.next _ _ _ aP ch Z ay k (kZ aa) _ _ L.handled bu rfl ar bA S aQ λcz av t aD aW aX ca=>?_;have a2:a9 c Z {ay with heap:=av,toks:=t}:=ar.jW aX S cg;have a7:cm af nm am Z av:=ai.jW aX bv;have bH:bG cp I s Z {ay with heap:=av,toks:=t}:=U.jW aX n;have cr:av.Ns ae fM:=by refine bP λbz aN=>fg bf λo ah aR e r=>?_;clear bf;exact aN<|(i9 o ah aR (aX _ o b2 e) r)
   have ct:av.PlainList D bq:=ci.at λo e=>aX _ o b3 e;refine ZL (af:=compEnvC aq (er af.cells aq.names []) ae af) (s:={ay with heap:=av,toks:=t}) ok.kind (λx Q=>(md cd.dc _).trans<|ok.Ao x Q) (aaM.mp ok.nodup).1 (aD.length.symm.trans aW) cr λf F j bt cn q d=>bJ ?_;intro cG;have be:a9 c Z {ay with heap:=f,toks:=F}:=a2.ext (t:=F) d C aZ;have bZ:bG cp I s Z {ay with heap:=f,toks:=F}:=bH.ext (t:=F) d bE;have bK:cm af nm am Z f:=a7.ext d aJ;have cj:f.PlainList D bq:=ct.at λo e=>d _ o aw e;have cv:co (k+1) f:=bk.keep _ _ _ ca λa o p e=>d a o (λ(X:a=ae)=>b2<|X▸p) e;have cl:=Qr (aa:=aa) ok h sub bK C bt aW λk0 x u Q aQ=>by exact bg (aD.get aQ) λv aV aL=>⟨v,cn k0 x v Q aV,aL⟩
   obtain⟨cx,cs⟩:∃o,f.get? ae=kZ o:=by obtain⟨o,_,_,e,_⟩:=bt;exact⟨o,e⟩
   obtain⟨bd,b8⟩:∃o,f.get? D=kZ o:=by obtain⟨i,e⟩:=cj;exact⟨_,e⟩
   have go:∀ao bh,a9 c bh ao->bG cp Z {ay with heap:=f,toks:=F} bh ao->bh ae=By/\bh D=By/\(∀a,aF a->bh a=By)/\ao.heap.PlainList D bq/\ao.heap.Ns ae j/\co (k+1) ao.heap:=λao bh bi bD=>by obtain⟨bl,bm⟩:=y3 (s:={ay with heap:=f,toks:=F}) bk cv S bD λq q X=>X;refine⟨bD.fresh ae cx cs C,bD.fresh D bd b8 bj,bm,cj.at λo e=>bD.em D o id bj e,?_,bl⟩;refine bP λbz aN=>fg bt λo ah aR e r=>?_;clear bt;exact aN<|(i9 o ah aR (bD.em ae o id C e) r)
   refine po (he.r bo _ _ Z {ay with heap:=f,toks:=F} _ _ _ _ L cd cl be T) (λcy ao B=>?_) λq q e=>e;have aG:len -(k+1)<len -k:=bS 2528158226008121602 ap rfl rfl;cases cy with
   |false=>replace B:=(if_neg<|by decide).mp B;exact eK B λbh bi bD al=>rA (go ao bh bi bD) λb4 bb b5 b9 bN cb=>⟨len -(k+1),aG,k+1,ag,bq,bh,j,rfl,bK.bT bD,bi,bZ.trans bD,b5,b4,bb,cb,bN,b9,ba,al⟩
   |true=>
   replace B:=(if_pos rfl).mp B;refine(if_pos rfl).mpr<|po B (λy ao A=>cq A λw bh a1 bi bD al=>?_) λq q e=>e;refine rA (go ao bh bi bD) λb4 bb b5 b9 bN cb=>?_;have aK:bq.size<=gW:=by refine a6 aaU<|a6 ba.length ?_;exact nf aH<|nf a5 bF
   refine wpAny_list_append_plain (hsz:=aK) b9 λaz cu aS=>⟨len -(k+1),aG,k+1,ag++[w],bq.push y,bh,j,rfl,(bK.bT bD).ext aS.extBut bO,bi.own (t:=ao.toks) aS bb bp,(bZ.trans bD).ext (t:=ao.toks) aS.extBut bI,b5,b4,bb, bk.keep _ _ _ cb λa o p e=>aS.extBut a o (λX=>b3<|(X:a=D)▸p) e,?_,cu,HC ba a1,al⟩;refine bP λbz aN=>fg bN λo ah aR e r=>?_;clear bN;exact aN<|(i9 o ah aR (aS.extBut _ o (us aw) e) r)
  ·have bn:k=len:=by exact bC 4363129091 a5 ap
   obtain⟨b7,bM⟩:=b1 bn;refine bk.next _ _ _ aP ch Z ay k By _ _ L.handled bu rfl ar bA S b7 λav t aX=>P D ae {ay with heap:=av,toks:=t} Z fM ag bq bI bE aw bO aJ bp aZ (ai.jW aX bv) (ar.jW (t:=t) aX S cg) (U.jW (t:=t) aX n) bj C ?_ (ci.at λo e=>aX _ o b3 e) ba (nf aH<|nf a5 bF) bM;refine bP λbz aN=>fg bf λo ah aR e r=>?_;clear bf;exact aN<|(i9 o ah aR (aX _ o b2 e) r)
 refine codeAny_compStart_list (ck _ rfl)<|bk.self _ _ _ 0 _ (bk.keep _ _ _ aU λa o p e=>ax _ o e)<|ck _ rfl
abbrev q4 (is:List Nat)(aq:sm)(R:aI)(dx:Src):aI:=λk am S I=>xv dx (aq k) (proj is am) (λag aH=>∀a D,ei aH D a (.list ag)->R k am (.ref a::S) D) I
abbrev fV (is:List Nat)(B R:aI)(dx:Src):aI:=q4 is (λk am ab q I=>ow k B am ab I) R dx
abbrev S8 (is:List Nat)(B R:aI)(dx:Src):aI:=q4 is (λk am ab N I=>yp k B am ab N I) R dx
theorem plain_at (S:a9 c I s)(aO:c.base.get? a=By)(C:s.heap.PlainList a bq)(i:bV aa bq.toList):a9 c (I.set a<|.list aa) s:=by
 obtain⟨k,e⟩:=C;refine⟨S.keep,λb o X=>?_,λb o X=>?_,S.gens,S.os⟩
 ·by_cases z:b=a
  ·subst z;replace X:=(az.set_same _ _ _)▸X;cases X;exact e5 bq k e i
  ·replace X:=(az.g5 _ _ _ z)▸X;exact S.rep b o X
 ·by_cases z:b=a
  ·subst z;exact aO
  ·replace X:=(az.g5 _ _ _ z)▸X;exact S.new b o X
theorem bG.named (x:bG aF I s au aT)(o:O)(C:s.heap.get? a=By):bG aF I s (au.set a o) aT:= ⟨x.em,x.live,λb b4 g e=>by
  have:b≠a:=λX=>by replace g:=C▸X▸g;exact bY g
  refine J (az.g5 _ _ _ this) ?_;exact x.fresh b b4 g e⟩
theorem RK (is:List Nat)(bu:k5 aP ch)(ok:pq e3 aq nm ch names is)(aL:lJ c b e3 nm bW ch.length cW)(he:qL c b (ly e3 aq) (ch++names) ah aC el)(ax:∀af v,r4 bW af v=pure v): bA c b e3 nm (.ListComp aC [⟨aP,bW,ah,0⟩] aq pos) λR=>cW (q4 is el R):=by
 refine⟨λW af am I s R j T E L h F S ad=>?_⟩;intros bs;refine J (eval_ListComp _ _ _ _) ?_;have bQ:closureFor aq af=pure (er af.cells aq.names []):=(yo (c:={c with base:={c.base with objs:=#[]}}) (ae:=s.heap.objs.size) ok ⟨h.dc,h.kind,h.kinds,h.nodup,h.apart,h.above,h.glob,h.blt,λa q=>by simp[Lm]⟩ (λa aE X=>by obtain⟨o,e⟩:=F.live a aE;exact absurd (acg e)<|by refine J X ?_;exact ki _)<|by simp[Lm]).2.1;refine wpAny_comprehension_free (use:=By) rfl (ax af) bQ ok.kind ok.names<|po (aL.r W af am I s _ _ _ E L h F S ad) (λy aT aI=>po aI (λau H bd=>?_) λq q e=>e) λq q e=>e;intros bc;refine bP λbz aN=>?_;refine g1 bd λdx it P st aS aB=>wa aB λV bk aU n ak ab aj cj=>?_;clear bd;subst V;refine aN ?_;have bv:∀a∈addrs af,¬ P a:=λa X p=>by obtain⟨o,e⟩:=F.live _ X;replace e:=(n a p)▸e;exact bY e
 refine Gs (bL:=λN ae=>compPost c.M W E By (dF c I s<|o7 ⟨c,b,j⟩ R am T) N ae) bu ok he L h (F.bT ab) ak ab n aj bk aU bv (λa p=>kq S<|n a p) cj ?_;intro D ae ay Z m ag bq bI bE aw bO aJ bp aZ ai ar U bj C aA bg ba aK g;refine(bb m aA λav d=>?_);have a2:a9 c Z {ay with heap:=av}:=ar.own (t:=ay.toks) d C aZ;have bH:bG cp I s Z {ay with heap:=av}:=U.ext (t:=ay.toks) d.extBut bE;exact lC (plain_at a2 bp (bg.at λo e=>d.extBut _ o aw e) ba) (bH.named _ bI)<|g D _ ⟨bj,rfl⟩
variable{gU:Pos}
theorem Sx (i:Nat){K:List Expr}(is:List Nat)(G:nm[i]?=kZ w)(bu:k5 aP ch)(ok:pq e3 aq nm ch names is)(aL:lJ c b e3 nm bW ch.length cW)(he:qL c b (ly e3 aq) (ch++names) K aC el) (ax:∀af v,r4 bW af v=pure v)(a1:∀af,af.scope=e3->nr (.ListComp aC [⟨aP,bW,K,0⟩] aq pos) (kZ<|.Name w gU) cL.line af=pure true): fh c b e3 nm (.Assign [.Name w gU] (.ListComp aC [⟨aP,bW,K,0⟩] aq pos) cL) λR=>cW (q4 is el<|b3 i R):=by
 refine⟨λW af am I s R j E L bt h F S ad=>?_⟩;refine J (exec_Assign_Name_used _ _ _ _<|a1 af h.dc)<|sg<|nt<|sg ?_;intros bc;refine(?_:pn _ W (do let _<-comprehension (.ListComp aC [⟨aP,bW,K,0⟩] aq pos) aq af _ (newList []) false (eval bW af) (kZ<|assign (.Name w gU) af)) _ _ s);have bQ:closureFor aq af=pure (er af.cells aq.names []):=(yo (c:={c with base:={c.base with objs:=#[]}}) (ae:=s.heap.objs.size) ok ⟨h.dc,h.kind,h.kinds,h.nodup,h.apart,h.above,h.glob,h.blt,λa q=>by simp[Lm]⟩ (λa aE X=>by obtain⟨o,e⟩:=F.live a aE;exact absurd (acg e)<|by refine J X ?_;exact ki _)<|by simp[Lm]).2.1;refine sg<|po (wpAny_comprehension_free (use:=kZ<|assign (.Name w gU) af) (Q:=λq ay=>jO c af nm I s (mX ⟨c,b,j⟩ R []) .next ay) rfl (ax af) bQ ok.kind ok.names<|po (aL.r W af am I s _ _ [] E L h F S ad) (λy aT aI=>po aI (λau H bd=>?_) λq q e=>e) λq q e=>e) (λq ay ad=>mB<|mB ad) λq q e=>e;intros z;refine bP λbz aN=>?_;refine g1 bd λdx it P st aS aB=>wa aB λV bk aU n ak ab aj cj=>?_;clear bd;subst V;refine aN ?_;have bv:∀a∈addrs af,¬ P a:=λa X p=>by obtain⟨o,e⟩:=F.live _ X;replace e:=(n a p)▸e;exact bY e
 refine Gs (bL:=λN ae=>compPost c.M W E (kZ<|assign (.Name w gU) af) (λq ay=>jO c af nm I s (mX ⟨c,b,j⟩ R []) .next ay) N ae) bu ok he L h (F.bT ab) ak ab n aj bk aU bv (λa p=>kq S<|n a p) cj ?_;intro D ae ay Z m ag bq bI bE aw bO aJ bp aZ ai ar U bj C aA bg ba aK g;have a2:a9 c (Z.set D<|.list ag) ay:=plain_at ar bp bg ba;have bH:bG cp I s (Z.set D<|.list ag) ay:=U.named _ bI;have a7:cm af nm am (Z.set D<|.list ag) ay.heap:=F.bT bH;refine(?_:pn c.M W (assign (.Name w gU) af<|.ref D) _ E ay);intros A;refine qy<|wu (u:=.ref D) h a7 a2 G rfl λa5 bK be bf=>?_;have f:(Z.set D<|.list ag) ae=By:=by refine J (az.g5 _ _ _<|us aw) ?_;exact C
 have ln:∀o,ay.heap.get? ae=kZ o->a5.heap.get? ae=kZ o:=λo e=>bf.em ae o (λX=>aJ X) f e;refine bP λbz aN=>fg aA λl ah aR e r=>?_;clear aA;refine aN<|(bb m (i9 l ah aR (ln _ e) r) λav d=>?_);have x:=f;exact iv (k:=.next) (ay:={a5 with heap:=av}) rfl (bK.ext d.extBut aJ) (be.own (t:=a5.toks) d x aZ) ((bH.hT.trans bf).ext (t:=a5.toks) d.extBut bE)<|g D _ ⟨bj,rfl⟩
def F2 (aa:List V)(ab:V->az->Prop)(I:az):Prop:=x2 aa (λu w=>hh u λa=>hh w λb=>ab (.int<|min a b) I) λu w x=>hh u λa=>hh w λb=>hh x λd=>ab (.int<|min (min a b) d) I
theorem F5:eg c e (.builtin "min") F2:=by
 intro W I s ab E aa ag L S aX ad;intros a8;rcases FI ad with ad|ad
 ·refine j8 (Ku ad aX) λa b t u aB=>dp aB λV X=>?_;refine J V ?_;refine min_two_ints L.handled λav cr ap=>?_;split
  ·rename_i C;rw[xe<|jh C] at X;exact gn (S.grow ap) (.grow ap) X
  ·rename_i C;rw[nk<|aa1.mp C] at X;exact gn (S.grow ap) (.grow ap) X
 ·refine z3 (uD ad aX) λu w z x y k aB=>rA aB λj m aQ a1 aj h=>?_;subst j;refine J m ?_;refine bP λbz aN=>bg (h1 h) λa f g=>?_;replace aQ:=f▸aQ;refine bg (h1 g) λb f r=>?_;replace a1:=f▸a1;refine bg (h1 r) λd f X=>?_;replace aj:=f▸aj;obtain⟨t,rfl⟩:=aQ;obtain⟨F,rfl⟩:=a1;obtain⟨l,rfl⟩:=aj;refine aN<|min_three_ints L.handled λav cr ap=>?_;split
  ·rename_i C;rw[xe<|jh C] at X;split
   ·rename_i ai;rw[xe<|jh ai] at X;exact gn (S.grow ap) (.grow ap) X
   ·rename_i ai;rw[nk<|aa1.mp ai] at X;exact gn (S.grow ap) (.grow ap) X
  ·rename_i C;rw[nk<|aa1.mp C] at X;split
   ·rename_i ai;rw[xe<|jh ai] at X;exact gn (S.grow ap) (.grow ap) X
   ·rename_i ai;rw[nk<|aa1.mp ai] at X;exact gn (S.grow ap) (.grow ap) X
def k6 (u:V)(P:Str->Prop):Prop:=match u with|.str a=>P a|_=>False
variable{aW:Str->Prop}
theorem lU (C:k6 u aW):∃a,u=.str a/\aW a:=by cases u<;>first|exact(bb _ rfl C)|exact C.elim
def cStr (aa:List V)(ab:V->az->Prop)(I:az):Prop:=ko aa λu=>hh u λa=>a.natAbs.log2<1920/\ab (.str<|pi<|toString a) I
theorem NK:eg c e (.type "str") cStr:=by intro W I s ab E aa ag L S aX ad;refine bP λbz aN=>cq (lT ad aX) λo aF O a3 aw g=>?_;subst O;replace aN:=a3▸aN;refine eK (h1 g) λa f C X=>?_;replace aw:=f▸aw;obtain⟨t,rfl⟩:=aw;exact aN<|P.str_of_int C<|ig (S.tok _) (.tok _) X
noncomputable def tC (x:Str)(i:Int):Str:=if i<=x.length then x else kV x (i.toNat -x.length) 0 32
def sH (aa:List V)(ab:V->az->Prop)(I:az):Prop:=iq aa λu w=>k6 u λx=>hh w λi=>i<1000/\x.length<100000/\ -1000<i/\ab (.str<|tC x i) I
theorem NG:eg c e (.builtin "str.rjust") sH:=by
 intro W I s ab E aa ag L S aX ad;refine bP λbz aN=>nX (iV ad aX) λo w aF ih V z aw a1 g=>?_;subst V;replace aN:=z▸aN;refine bg (lU g) λx f r=>?_;replace aw:=f▸aw;refine tx (h1 r) λi f ai ao a7 X=>?_;replace a1:=f▸a1;obtain⟨t,rfl⟩:=aw;obtain⟨u,rfl⟩:=a1;refine aN<|call_gives PySem.F.slot_str_rjust (typeIs_str s x t) PySem.F.entry_str_rjust (PySem.F.args_str_rjust_2 _ _) (gives_str_rjust x i t u (by simp;exact⟨c4 7709158583 a7,c4 470313992 ai⟩)<|by simp[iL,gW];exact c4 470322183 ai) ?_;unfold tC at X;split
 ·rename_i C;rw[if_pos C] at X;exact ig S .refl X
 ·rename_i C;rw[if_neg C] at X;exact⟨fits_padL 32 (by simp[iL,gW];exact c4 470322183 ai) C,ig (S.tok _) (.tok _) X⟩
theorem VP:jo "str" "rjust" "str.rjust":=⟨BM,PySem.F.slot_str_rjust,F.type_str_rjust⟩
def tc:List Int->List Int->Prop:=λns out=>out.Perm ns/\out.Pairwise (· <= ·)
theorem Hz:∀{ns:List Int} {ag:List a3},bV (ns.map .int) ag->IntsAre ag ns:=by
 intro h;induction h with
 |nil=>
  intro f;cases f with
  |nil=>intro s;exact .nil
  |cons j n=>intro C;exact C.elim
 |cons a ns D=>
  intro f;cases f with
  |nil=>intro C;exact C.elim
  |cons v ag=>intro g;obtain⟨⟨t,e⟩,C⟩:=g;refine J e ?_;exact .cons a t<|D C
variable{A:List Int}
theorem FK (C:IntsAre bE A):bV (A.map .int) bE:=by
 induction C with
 |nil=>trivial
 |cons a t C D=>exact⟨⟨t,rfl⟩,D⟩
def Nf (aa:List V)(ab:V->az->Prop)(I:az):Prop:=ko aa λo=>gC o λl=>∃ns:List Int,I l=kZ (.list<|ns.map .int)/\ns.length<64/\∀out,tc ns out->∀a D,ei I D a (.list<|out.map .int)->ab (.ref a) D
theorem NI:eg c aD (.builtin "sorted") Nf:=by intro W I s ab E aa ag L S aX ad;refine bP λbz aN=>cq (lT ad aX) λo aF O a3 aw g=>?_;subst O;replace aN:=a3▸aN;refine kL (eP g) λl f ns C aj X=>?_;replace aw:=f▸aw;replace aN:=aw▸aN;refine dw (S.rep _ _ C) λh k e i=>aN ?_;have bk:=Hz i;have bF:h.toList.length=ns.length:=a6 i.length<|J (aa0 _) rfl;refine sorted_ints (vs:=h.toList) (by simpa using en e) bk (bC 72972448147967490 aj bF) λout j ai ao a7=>?_;obtain⟨aW,he⟩:=sortedAll_at s.heap h.toList out;have ap:∀b o,s.heap.get? b=kZ o->(sortedAll s.heap h.toList out).get? b=kZ o:=λb o x=>sortedAll_old x;have aO:s.heap.get? (s.heap.objs.size+1)=By:=mP _<|Bv _;have a0:a9 c I {s with heap:=sortedAll s.heap h.toList out}:=S.grow (t:=s.toks) ap;exact lC (plain_at a0 (kq S aO) ⟨_,he⟩<|FK ai) ((bG.grow (t:=s.toks) ap).named _ aO)<|X j ⟨ao,a7⟩ _ _ ⟨tK S aO,rfl⟩
def pF (T:String)(aa:List V)(ab:V->az->Prop)(I:az):Prop:=iq aa λu w=>w=.ext (.type T)/\match u with
 |.int _=>ab (.bool<|T=="int") I
 |.str _=>T="str"/\ab (.bool true) I
 |_=>False
theorem Nq:eg c e (.builtin "isinstance") (pF "int"):=by
 intro W I s ab E aa ag L S aX ad;refine bP λbz aN=>?_;obtain⟨o,w,aF,ih,rfl,rfl,aw,a1,rfl,g⟩:=iV ad aX;refine aN<|J a1 ?_;cases o<;>first|exact g.elim|skip
 ·exact fN (aw) λt aW=>J aW<|PyProof.Rows.call_isinstance_yes (Tx:="int") (typeIs_int s _ t) (by rfl) (by refine J (isSubtype_type _ _) ?_;ext)<|fD S .refl g
 ·exact absurd g.1 (by decide)
theorem Nr:eg c e (.builtin "isinstance") (pF "str"):=by
 intro W I s ab E aa ag L S aX ad;refine bP λbz aN=>?_;obtain⟨o,w,aF,ih,rfl,rfl,aw,a1,rfl,g⟩:=iV ad aX;refine aN<|J a1 ?_;cases o<;>first|exact g.elim|skip
 ·exact fN (aw) λt aW=>J aW<|call_isinstance (isinstance_false_int (by rfl) (by rfl)<|by refine J (isSubtype_type _ _) ?_;ext)<|fD (S.tok _) (.tok _) g
 ·exact fN (aw) λt aW=>J aW<|PyProof.Rows.call_isinstance_yes (Tx:="str") (typeIs_str s _ t) (by rfl) (by refine J (isSubtype_type _ _) ?_;ext)<|fD S .refl g.2
abbrev mV (R:aI):aI:=λk am S I=>∀a D,ei I D a (.cu [])->R k am (.ref a::S) D
theorem RP:bA c e aq nm (.Dict [] [] pos) mV:=by refine⟨λW af am I s R j T E L h F S ad=>?_⟩;exact wpAny_Dict_empty<|lC (S.alloc _ (.cu [])<|bb ([]) (.new _) trivial) (.alloc _ _)<|ad _ _ ⟨S.lA,rfl⟩
def xB:List (a3×a3)->List (Str×V)->Prop
 |[],[]=>True
 |(k,v)::ag,(x,u)::ah=>(∃t,k=.str x t)/\u.is v/\xB ag ah
 |_,_=>False
structure sl (c:cz)(n:Nat)(sc:ck)(nm:List Str)(xs:List Str)(keys:List (Option Expr))(a:List Expr)(ae:a5):Prop where
 r:∀(W:qJ) (af:Env) (pos:Pos) (am:List V) (I:az) (s:eN) (R:aI) (j:jQ) (T:List V) (E:a3->eN->Prop),e9 W n->e1 c af sc nm->cm af nm am I s.heap->a9 c I s->ae R ⟨c,n,j⟩ am T I->
  pn c.M W (evalPairs (pairTrees keys a af pos)) (fun ag ay=>∃aa Z,xB ag (xs.zip aa)/\a9 c Z ay/\bG cp I s Z ay/\aa.length=xs.length/\R ⟨c,n,j⟩ am (aa.reverse++T) Z) E s
theorem RC:sl c e aq nm [] [] [] λR=>R:=⟨λq q q q q q q q q q q q q S ad=>evalPairs_nil<|gA ([]) _ trivial S .refl ⟨rfl,ad⟩⟩
variable{keys:List (Option Expr)}
theorem RB (C:bA c i aq nm aC cy)(av:sl c i aq nm ch keys ah aZ):sl c i aq nm (w::ch) (kZ (.Constant (.str w) b cL)::keys) (aC::ah) λR=>cy (aZ R):=by refine⟨λW af pos am I s R j T E L h F S ad=>?_⟩;intros a8;refine(?_:pn c.M W (evalPairs<|(eval (.Constant (.str w) b cL) af,(do let w<-eval aC af;ach pos;pure w))::pairTrees keys ah af pos) _ E s);refine evalPairs_cons<|wpAny_Constant_str ?_;intros y;have d:=S.tok<|s.toks+1;have f:bG cp I s I {s with toks:=s.toks+1}:=.tok _;refine sg<|po (C.r W af am I _ _ _ _ E L h (F.bT f) d ad) (λv aT A=>cq A λu au aQ a0 U aI=>?_) λq q aC=>aC;refine sg<|nt<|mB ?_;refine po (av.r W af pos am au aT _ _ _ E L h ((F.bT f).bT U) a0 aI) (λag H A=>gi A λaa aS g ak aR an bd=>?_) λq q aC=>aC;exact(gA (u::aa) aS ⟨⟨_,rfl⟩,aQ,g⟩ ak ((f.trans U).trans aR) ⟨congrArg (· +1) an,by refine J ur<|J (aaG _ _ _) ?_;exact bd⟩)
theorem Xu:∀{ag:List (a3×a3)} {ah:List (Str×V)},xB ag ah->allStrKeys ag=true/\iT ah (strPairs ag)/\(strPairs ag).map (·.1)=ah.map (·.1):=by
 intro h;induction h with
 |nil=>
  intro f;cases f with
  |nil=>intro s;exact⟨rfl,trivial,rfl⟩
  |cons j n=>intro C;exact C.elim
 |cons i ag D=>
  intro f;obtain⟨_,v⟩:=i;cases f with
  |nil=>intro C;exact C.elim
  |cons l ah=>intro g;obtain⟨x,u⟩:=l;obtain⟨⟨t,e⟩,aQ,C⟩:=g;exact J e<|hO (D C) λa b d=>⟨a,⟨rfl,aQ,b⟩,by refine(?_:x::_=x::_);exact J d rfl⟩
abbrev yQ (xs:List Str)(m:hX)(R:aI):aI:=λk am S I=>m S λaa S=>xs.Nodup/\∀a D,ei I D a (.gD<|xs.zip aa)->R k am (.ref a::S) D
theorem RO (C:sl c i aq nm ch keys ah aZ)(m:keys.all (·.isSome)=true)(an:keys.length=ah.length)(h0:keys≠[])(bF:keys.length<=15):bA c i aq nm (.Dict keys ah pos) λR=>aZ (yQ ch (eL ch.length []) R):=by
 refine⟨λW af am I s R j T E L h F S ad=>?_⟩;refine wpAny_Dict_walk (knd:=PySem.strKind c.prog c.w) m an h0 bF<|bJ ?_;intro bs;have f:bG cp I s I {s with heap:=s.heap.push {cls:=.type "dict",data:=.dict #[]}}:=.push _;refine po (C.r W af pos am I _ _ _ _ E L h (F.bT f) (S.push _) ad) (λag aT A=>gi A λaa au g a0 U hm aI=>dp (m4 (P:=λaa S=>ch.Nodup/\∀a D,ei au D a (.gD<|ch.zip aa)->R ⟨c,i,j⟩ am (.ref a::S) D) hm aI) λaO aI=>?_) λq q e=>e;refine bP λbz aN=>hO (Xu g) λa b d=>?_;have V:(s.heap.push {cls:=.type "dict",data:=.dict #[]}).DictOf (PySem.strKind c.prog c.w) s.heap.objs.size []:=.new _;have O:=s.heap.objs.size;refine fg V λo os aR e r=>?_;clear V;refine aN ?_;have k:I s.heap.objs.size=By:=S.lA;have p:au s.heap.objs.size=By:=U.fresh _ o e k;have u:aT.heap.DictOf (PySem.strKind c.prog c.w) s.heap.objs.size []:=(i9 o os aR (U.em _ o id k e) r);refine display_done_str (P:=λav=>dF c I s (o7 ⟨c,i,j⟩ R am T) (.ref s.heap.objs.size) {aT with heap:=av,toks:=aT.toks+ag.length}) a (by refine J d<|J (List.map_fst_zip<|r5 hm.symm) ?_;exact aO) u λav hm ax=>?_;refine fw ?_;intro v;have n:s.heap.get? s.heap.objs.size=By:=mP _<|nu _;have l:=kq S n;have ak:a9 c au {aT with heap:=av,toks:=aT.toks+ag.length}:=a0.own (t:=aT.toks+ag.length) ax p l;have ab:bG cp I s au {aT with heap:=av,toks:=aT.toks+ag.length}:=(f.trans U).ext (t:=aT.toks+ag.length) ax.extBut n;refine lC (Z:=au.set s.heap.objs.size<|.gD<|ch.zip aa) ⟨ak.keep,λy q X=>?_,λy q X=>?_,ak.gens,ak.os⟩ (ab.named _ n)<|aI _ _ ⟨p,rfl⟩
 ·by_cases z:y=s.heap.objs.size
  ·subst z;replace X:=(az.set_same _ _ _)▸X;cases X;exact bb _ hm b
  ·replace X:=(az.g5 _ _ _ z)▸X;exact ak.rep y q X
 ·by_cases z:y=s.heap.objs.size
  ·refine J z ?_;exact l
  ·replace X:=(az.g5 _ _ _ z)▸X;exact ak.new y q X
def yc (aa:List V)(ab:V->az->Prop)(I:az):Prop:=ko aa λo=>gC o λl=>∃ns:List Int,I l=kZ (.list<|ns.map .int)/\ab (.int ns.sum) I
theorem NL:eg c b (.builtin "sum") yc:=by
 intro W I s ab E aa ag L S aX ad;refine bP λbz aN=>cq (lT ad aX) λo aF O a3 aw g=>?_;replace aX:=O▸aX;replace ad:=O▸ad;replace aN:=a3▸aN;replace aX:=a3▸aX;refine p9 (eP g) λl f ns C X=>?_;clear g ad aX;replace aw:=f▸aw;replace aN:=aw▸aN;refine dw (S.rep _ _ C) λh k e i=>?_;have bk:=Hz i;obtain⟨xs,Q⟩:=bk.allInts.items;refine aN ?_;have m:h=intItems xs:=by simpa using Q
 clear i Q;replace e:=m▸e;replace bk:=m▸bk;refine PySem.sum_intListG L.handled (en e) λav cr F ap=>?_;have aO:=bk.numsOf;rw[nums_intItems] at aO;exact J (preSum_eq _ _)<|J (pj<|by simp)<|J aO<|gn (S.grow (t:=cr) ap) (.grow (t:=cr) ap) X
variable{bq:List (Int×a3)}
theorem Qp {f:List a3->eN->Prop}(B:bo.handled=By)(d:(a==sysModules)=false)(hm:s.heap.DictAt (intKind c.prog c.w) a bq e)(aO:bq.length<=gW) (g:∀ay N,ay.gens=s.gens->ay.os=s.os->(∀b o,s.heap.get? b=kZ o->ay.heap.get? b=kZ o)->ItemsOf (λi v=>∃k x,bq[i]?=kZ (k,x)/\(intKind c.prog c.w).is k v=true) N bq.length->f N.toList ay): pn c.M bo (collect<|.ref a) f E s:= kdu_collect (kdl_dict d) B hm aO λav cr N ap R=>g {s with heap:=av,toks:=cr} N rfl rfl ap R
theorem TZ:∀{N:Array a3},ItemsOf (λi v=>∃k x,bq[i]?=kZ (k,x)/\(intKind c.prog c.w).is k v=true) N bq.length->IntsAre N.toList (bq.map (·.1)):=λ{N} C=>by
 obtain⟨ai,ao⟩:=C;have g:∀(ag:List a3) (bq:List (Int×a3)),ag.length=bq.length->(∀(j:Nat) (v:a3),ag[j]?=kZ v->∃k x,bq[j]?=kZ (k,x)/\(intKind c.prog c.w).is k v=true)->IntsAre ag (bq.map (·.1)):=by
  intro ag;induction ag with
  |nil=>intro bq an q;cases bq with
   |nil=>exact .nil
   |cons _ _=>cases an
  |cons v ag D=>intro bq an bi;cases bq with
   |nil=>cases an
   |cons p bq=>refine dw (bi 0 v rfl) λk x e X=>?_;simp at e;exact J e<|fN (Value.isInt_shape (X:g8 k v=true)) λt aW=>J aW<|.cons k t (D bq (by simpa using an) λj b aV=>by simpa using bi (j+1) b (by simpa using aV))
 exact g N.toList bq (by simpa using ai) λj v aV=>ao j v (by simpa using aV)
def sI (aa:List V)(ab:V->az->Prop)(I:az):Prop:=ko aa λo=>gC o λl=>∃ns:List Int,(I l=kZ (.list<|ns.map .int)\/∃ah,I l=kZ (.cu ah)/\ns=ah.map (·.1))/\ns.length<64/\∀out,tc ns out->∀a D,ei I D a (.list<|out.map .int)->ab (.ref a) D
theorem T3:∀{ah:List (aR×V)} {U:List (aR×a3)},iT ah U->ah.map (·.1)=U.map (·.1):=by
 intro h;induction h with
 |nil=>
  intro f;cases f with
  |nil=>intro s;exact rfl
  |cons j n=>intro C;exact C.elim
 |cons e i D=>
  intro f;cases f with
  |nil=>intro C;exact C.elim
  |cons j n=>intro C;exact J n8<|J n8<|J C.1<|J (D C.2.2) rfl
theorem NH (aU:c.Ok):eg c i (.builtin "sorted") sI:=by
 intro W I s ab E aa ag L S aX ad;refine cq (lT ad aX) λo aF O a3 aw g=>?_;clear aX ad;subst O;refine J a3 ?_;refine kL (eP g) λl f ns C aj X=>?_;replace aw:=f▸aw;refine J aw ?_;rcases C with C|aM
 ·exact NI W I s ab E [.ref l] _ L S ⟨rfl,trivial⟩<|c7 ns C aj X
 ·refine bg aM λah C O=>?_;clear aM;replace aj:=O▸aj;replace X:=O▸X;refine bg (S.rep _ _ C) λU D n=>?_;obtain⟨aR,hm⟩:=D.dictAt;rw[T3 n] at aj X;replace aj:=(aa0 _)▸aj;refine Calls.call_function_entry kind_sorted plain_sorted entry_sorted (args_sorted1 _) ?_;unfold Builtin.«sorted»;refine sg (m:=PySem.checkCount "sorted" 1 1 _)<|mB ?_;refine sg<|Qp L.handled (oZ aU S C) hm (by refine J wT ?_;exact bM 275112954881 aj) λay N bt aw ap R=>?_;have bk:=TZ R;have bF:N.toList.length=U.length:=by simpa using R.1
  have a0:a9 c I ay:=⟨λb o e=>ap b o<|S.keep b o e,λb o e=>(S.rep b o e).mono λb4 X=>ap b b4 X,S.new,bt.trans S.gens,aw.trans S.os⟩;have a:bG cp I s I ay:=⟨λb o q q e=>ap b o e,λb o e=>⟨o,ap b o e⟩,λq q q e=>e⟩;have aO:ay.heap.get? ay.heap.objs.size=By:=mP _<|nu _;refine sg<|wpAny_newList ?_;have d:(ay.heap.push<|seqObj "list" N.toList.toArray 0).get? ay.heap.objs.size=kZ (seqObj "list" N.toList.toArray 0):=ph _ rfl;refine(?_:pn _ _ _ _ _ {ay with heap:=ay.heap.push (seqObj "list" N.toList.toArray 0)});refine sg<|pp<|wpAny_call_entry slot_list_sort (bb _ d rfl) entry_list_sort (list_sort_tree d bk (bC 72972448147967490 aj bF) λout j aJ a4 bx=>(bb _ rfl ?_))<|args_list_sort _;refine mB<|bb _ rfl ?_;have bn:∀b o,ay.heap.get? b=kZ o->(sortedHeap (ay.heap.push<|seqObj "list" N.toList.toArray 0) ay.heap.objs.size N.toList out).get? b=kZ o:=λb o e=>by have aA:=acg e;exact J (sortedHeap_old (eB aA)<|by rw[size_push'];exact Ly aA)<|sh _ e
  obtain⟨aW,he⟩:=sortedHeap_at (out:=out) d;have ak:a9 c I {ay with heap:=sortedHeap (ay.heap.push<|seqObj "list" N.toList.toArray 0) ay.heap.objs.size N.toList out}:=a0.grow (t:=ay.toks) bn;exact lC (plain_at ak (kq a0 aO) ⟨_,he⟩<|FK aJ) ((a.trans<|bG.grow (t:=ay.toks) bn).named _<|vh a aO)<|X j ⟨a4,bx⟩ _ _ ⟨tK a0 aO,rfl⟩
def x9 (c:cz)(aa:List V)(ab:V->az->Prop)(I:az):Prop:=iq aa λu w=>hh u λq=>gC w λae=>zN c.K ae=true/\ab (.bool false) I
theorem Np (aU:c.Ok):eg c b (.builtin "isinstance") (x9 c):=by intro W I s ab E aa ag L S aX ad;refine bP λbz aN=>nX (iV ad aX) λo w aF ih V z aw a1 g=>?_;replace aX:=V▸aX;replace ad:=V▸ad;replace aN:=z▸aN;replace aX:=z▸aX;refine bg (h1 g) λa f r=>?_;clear g ad aX;replace aw:=f▸aw;refine eK (eP r) λae f C X=>?_;replace a1:=f▸a1;obtain⟨t,rfl⟩:=aw;replace aN:=a1▸aN;exact aN<|isn_call (P:=λq=>True) (aU.gE.keeps S.keep) (λq=>Lc rfl) C (λe=>by cases e) trivial int_cls<|fD (S.tok _) (.tok _) X
abbrev jJ (m n:Nat):Addr->Prop:=λa=>m<=a/\a<m+n
theorem Hn {g:a3}(B:bo.handled=By)(bu:k5 aP nm)(an:nm.length=2)(D:s.heap.get? ae=kZ {cls:=.type "tuple",data:=.seq #[dD,g]})
 (C:∀av,(∀g o,s.heap.get? g=kZ o->av.get? g=kZ o)->pw c bo E af nm [dD,g] bl {s with heap:=av}):pn c.M bo (assign aP af<|.ref ae) (λq aO=>bl aO) E s:=by
 cases bu with
 |one=>cases an
 |two x y p X F fD=>refine(?_:pn c.M bo (do ach fD;unpack (.ref ae) [(false,assign (.Name x p) af),(false,assign (.Name y X) af)]) _ _ s);refine sg<|nt<|unpack_tuple (items:=#[dD,g]) B (jF _ D rfl (0) rfl) rfl rfl λav he=>?_;have a:∀(x:Str) (p:Pos) (bo:qJ) (E:a3->eN->Prop) (s:eN) (v:a3) (P:Unit->eN->Prop),pn c.M bo (storeName af x v) P E s->pn c.M bo (assign (.Name x p) af v) P E s:=λx p bo E s v P C=>assign_Name C;exact Kb (xs:=[x,y]) (ag:=[dD,g]) ⟨a x p,a y X,trivial⟩ rfl<|C av<|pL he
theorem J3 (bk:lN c ae (jJ e i) co dx 2)(h0:co 0 C)(S:a9 c au aT)(x:bG cp I s au aT)(hm:aT.heap.objs.size=e)(ap:∀b o,aT.heap.get? b=kZ o->C.get? b=kZ o)(X:lH dx au):uA c 2 I s lH (.ref ae) {aT with heap:=C}:= ⟨dx,ae,_,co,au,rfl,bk,h0,λa aE=>vh x<|mP _<|hm▸aE.1,S.grow (t:=aT.toks) ap,x.trans<|.grow (t:=aT.toks) ap,λa aE=>tK S<|mP _<|hm▸aE.1,X⟩
theorem zd (i:bV aa ag.toList)(C:aa[e]?=By):ag[e]?=By:=by exact a6 nc<|fO.mpr (by refine a6 i.length ?_;exact fO.mp C)
theorem lS (C:gg i j=false):b+i≠b+j:=λe=>by replace C:=(Nat.add_left_cancel e)▸C;rw[BN] at C;cases C
theorem nC (C:wO i b=true):jJ e b (e+i):=⟨w2 e i,Nat.add_lt_add_left (r6 C) e⟩
theorem WV (e:mC (b+i) C av)(aL:wO i aD=true):nx (jJ b aD) C av:=λa o X=>e a o λw=>X<|w▸nC aL
theorem TE:lN c (ae+1) (jJ ae 2) (λk C=>(∃ax,IsEnum C (ae+1) ae ((k:Nat):Int) ax)/\C.IsListIter ae l k) (.u6 l) 2:=by
 intros L;have K:jJ ae 2 ae:=nC (i:=0) rfl;have t:jJ ae 2 (ae+1):=nC rfl;refine⟨t,λk C av A X=>⟨cO A.1 λax e=>⟨ax,X _ _ t e⟩,bg A.2 λo e x=>⟨o,X _ _ K e,x⟩⟩,λk C A a aE=>?_,λW E s k ab A X=>cO A.1 λax e=>wpAny_pyIter_enum e X,λW E af aP xs I s k o N bl B bu an S aU aO A bI=>bg A λaa aB aw=>?_⟩
 ·refine bg A.2 λo e q=>cO A.1 λax a8=>?_;by_cases z:a=ae
  ·exact⟨o,z▸e⟩
  ·have:a=ae+1:=t9 (Nat.le_of_lt_succ aE.2)<|BO aE.1<|us z;exact⟨_,this▸a8⟩
 ·refine dp aU λe g=>cO e λax d=>dw (oQ S aB) λh bq bt n=>?_;replace bI:=aw▸bI;cases Q:aa[k]? with
  |none=>replace bI:=Q▸bI;exact wpAny_pyNext_enum_end B d g (en bt) (zd n Q) λav aX=>bI av s.toks<|WV (i:=0) aX rfl
  |some u=>
   replace bI:=Q▸bI;refine bg (n.get Q) λv aV aD=>?_;have aF:h[k]?=kZ v:=by refine a6 nc ?_;exact aV
   refine wpAny_pyNext_enum_item d g (en bt) aF (lS (i:=1) (j:=0) rfl) λbn D H V O G=>fw ?_;intro P;have aG:ae+1<s.heap.objs.size:=acg d;have Z:∃ah k p,aP=.Tuple ah k p:=by cases bu with|one=>cases an|two=>exact⟨_,_,_,rfl⟩
   obtain⟨ah,F,fD,c2⟩:=Z;refine(?_:pn c.M W (letOwnedTupleGo aP (.ref<|ae+1)<|.ref s.heap.objs.size) _ E _);rw[c2];refine wpAny_letOwnedTupleGo_enum D λa3 y f=>?_;replace f:L8 (ae+1) bn a3:=f;rw[<-c2];refine Hn (s:={s with heap:=a3,toks:=s.toks+1}) B bu an ((f.2 _<|aa3 aG).trans V) λbE m=>bI [.int k s.toks,v] bE (s.toks+1) ⟨⟨_,rfl⟩,aD,trivial⟩ rfl (λb o X e=>m b o<|f.extBut b o (λw=>X<|w▸t)<|G b o (λw=>X<|w▸t) (λw=>X<|w▸K) e) ⟨⟨v,m _ _ ?_⟩,?_⟩
   ·have r:((k+1:Nat):Int)=(k:Int)+1:=by exact dG 56011589801
    rw[r];exact y
   ·exact bg H λJ aQ a7=>⟨J,m _ _<|f.extBut _ _ (eB<|BL ae) aQ,a7⟩
theorem Vj {P:Nat->Prop}(h0:P 0)(ai:P 1)(ao:P 2)(a7:P 3)(bR:P 4)(i:Nat)(C:i<5):P i:=by
 rcases i with _|_|_|_|_|i
 ·exact h0
 ·exact ai
 ·exact ao
 ·exact a7
 ·exact bR
 ·exact absurd C<|ep.mpr<|w4 5 i
theorem TJ:lN c (ae+4) (jJ ae 5) (λk C=>IsZip C (ae+4) (ae+2) (ae+3) .none/\IsPair C (ae+2) (.ref ae) (.ref<|ae+1)/\(∃a b,IsPair C (ae+3) a b)/\C.IsListIter ae l k/\C.IsListIter (ae+1) cl k) (.zip l cl) 2:=by
 have K:jJ ae 5 ae:=nC (i:=0) rfl;have t:jJ ae 5 (ae+1):=nC rfl;have q:jJ ae 5 (ae+2):=nC rfl;have R:jJ ae 5 (ae+3):=nC rfl;have L:jJ ae 5 (ae+4):=nC rfl;refine⟨L,λk C av A X=>⟨X _ _ L A.1,X _ _ q A.2.1,fz A.2.2.1 λa b e=>⟨a,b,X _ _ R e⟩,bg A.2.2.2.1 λo e x=>⟨o,X _ _ K e,x⟩,bg A.2.2.2.2 λo e x=>⟨o,X _ _ t e,x⟩⟩,λk C A a aE=>?_,λW E s k ab A X=>wpAny_pyIter_zip A.1 X,λW E af aP xs I s k o N bl B bu an S aU aO A bI=>gG A λaa d aB g aw=>?_⟩
 ·obtain⟨aQ,bo,⟨x,y,c2⟩,⟨o,aI,-⟩,⟨J,a8,-⟩⟩:=A;obtain⟨i,rfl⟩:=Nat.le.dest aE.1;have aL:=Nat.lt_of_add_lt_add_left aE.2;exact Vj (P:=λi=>∃o,C.get? (ae+i)=kZ o) ⟨_,aI⟩ ⟨_,a8⟩ ⟨_,bo⟩ ⟨_,c2⟩ ⟨_,aQ⟩ i aL
 ·obtain⟨aj,ao,⟨x,y,a7⟩,h0,ai⟩:=aU;have off:∀{a:Addr} {o:O} {i:Nat},I a=kZ o->wO i 5=true->a≠ae+i:=λe aL X=>by replace e:=(aO _<|nC aL)▸X▸e;exact bY e
  have D:ZipApart (ae+4) (ae+2) (ae+3) ae (ae+1) l cl:=⟨lS rfl,lS rfl,lS (i:=0) rfl,lS rfl,lS rfl,lS (j:=0) rfl,lS rfl,lS (j:=0) rfl,lS rfl,lS (i:=0) rfl,off aB rfl,off aB rfl,off (i:=0) aB rfl,off aB rfl,off g rfl,off g rfl,off (i:=0) g rfl,off g rfl⟩;refine dw (oQ S aB) λh bq bt n=>dw (oQ S g) λH U z T=>?_;replace bI:=aw▸bI;have out:∀{av:Heap},(∀c o,c≠ae+4->c≠ae+3->c≠ae->c≠ae+1->s.heap.get? c=kZ o->av.get? c=kZ o)->nx (jJ ae 5) s.heap av:=λap b o X e=>ap b o (λw=>X<|w▸L) (λw=>X<|w▸R) (λw=>X<|w▸K) (λw=>X<|w▸t) e;have fin:h[k]?=By\/H[k]?=By->(∀av cl,nx (jJ ae 5) s.heap av->N {s with heap:=av,toks:=cl})->pn c.M W (pyNext<|.ref<|ae+4) (tu c W E af aP (ae+4) N bl) E s:=λX bI=> wpAny_pyNext_zip_end B D aj ao a7 h0 ai (en bt) (en z) X λav ap=>bI av s.toks<|out ap;cases Q:aa[k]? with
  |none=>replace bI:=Q▸bI;exact fin (.inl<|zd n Q) bI
  |some u=>
  cases G:d[k]? with
  |none=>replace bI:=Q▸bI;replace bI:=G▸bI;exact fin (.inr<|zd T G) bI
  |some w=>
   replace bI:=Q▸bI;replace bI:=G▸bI;refine bg (n.get Q) λv aV aD=>?_;have aF:h[k]?=kZ v:=by refine a6 nc ?_;exact aV
   refine bg (T.get G) λad a1 ak=>?_;have bd:H[k]?=kZ ad:=by refine a6 nc ?_;exact a1
   refine wpAny_pyNext_zip_item D aj ao a7 h0 ai (en bt) (en z) aF bd λbn am ag ar au V aK ap=>?_;have aG:ae+4<s.heap.objs.size:=acg aj;have Z:∃ah k p,aP=.Tuple ah k p:=by cases bu with|one=>cases an|two=>exact⟨_,_,_,rfl⟩
   obtain⟨ah,F,fD,c2⟩:=Z;refine(?_:pn c.M W (letOwnedTupleGo aP (.ref<|ae+4)<|.ref s.heap.objs.size) _ E _);rw[c2];refine wpAny_letOwnedTupleGo_zip am λa3 aq f=>?_;replace f:L8 (ae+4) bn a3:=f;rw[<-c2];refine Hn (s:={s with heap:=a3}) B bu an ((f.2 _<|aa3 aG).trans V) λbE m=>?_;have r:∀{a:Addr} {o:Obj},a≠ae+4->bn.get? a=kZ o->bE.get? a=kZ o:=λX e=>m _ _<|f.extBut _ _ X e;refine bI [v,ad] bE s.toks ⟨aD,ak,trivial⟩ rfl (λb o X e=>r (λw=>X<|w▸L)<|out ap b o X e) ⟨m _ _ aq,r D.TIz<|ap _ _ D.TIz D.TITO D.TIi1 D.TIi2 ao,⟨v,ad,r D.TOz ag⟩,bg ar λo e x=>⟨o,r D.i1z e,x⟩,bg au λo e x=>⟨o,r D.i2z e,x⟩⟩
abbrev oO (I:az)(r:Addr):Prop:=∃aa,I r=kZ (.list aa)
abbrev yR (m:hX)(R:Src->aI):aI:=λk am S I=>m S λaa S=>ko aa λu=>gC u λr=>oO I r/\R (.u6 r) k am S I
abbrev q7 (m:hX)(R:Src->aI):aI:=λk am S I=>m S λaa S=>iq aa λu w=>gC u λr=>gC w λt=>oO I r/\oO I t/\R (.zip r t) k am S I
theorem GX {G:List V->(Src->az->Prop)->az->Prop}(hf:bA c i aq nm (.Name w fb) (aM<|.ext<|.type h3))(aE:gY c i aq nm ah aZ)(aP:jC ah) (bt:∀{W:qJ} {E:a3->eN->Prop} {I au:az} {s aT:eN} {aa:List V} {ag:List a3} {ab:Src->az->Prop},a9 c au aT->bG cp I s au aT->bV aa ag->G aa ab au->pn c.M W (call (.type h3) ag) (λx H=>pn c.M W (pyIter x) (uA c 2 I s ab) E H) E aT): lJ c i aq nm (.Call (.Name w fb) ah [] cL) 2 λR=>aZ λk am S I=>eL ah.length [] S λaa S=>G aa (λdx Z=>R dx k am S Z) I:=by refine⟨λW af am I s R j T E L h F S ad=>?_⟩;refine pg<|yD hf L h F S λm d aN=>?_;have f:=F.bT aN;exact callWith_of (P:=λq=>True) (by rw[aP];rfl) (λC q=>vV λq e=>by cases e)<|sS (aP _ _)<|po (aE.r W af am I m _ _ _ E _ L h f d ad) (λag aT A=>gi A λaa au aX a0 U an aI=>⟨trivial,bt a0 (aN.trans U) aX<|m4 (P:=λaa S=>G aa (λdx Z=>R dx ⟨c,i,j⟩ am S Z) au) an aI⟩) λq q e=>e
theorem RX (hf:bA c e aq nm (.Name w fb) (aM<|.ext<|.type "enumerate"))(aE:gY c e aq nm ah aZ)(aP:jC ah):lJ c e aq nm (.Call (.Name w fb) ah [] cL) 2 λR=>aZ (yR (eL ah.length []) R):=by refine GX (G:=λaa ab I=>ko aa λu=>gC u λr=>oO I r/\ab (.u6 r) I) hf aE aP λa0 x i C=>bJ ?_;intro a8;obtain⟨u,v,rfl,rfl,aQ,C⟩:=lT C i;obtain⟨r,rfl,⟨aa,aB⟩,ad⟩:=eP C;cases aQ;exact dw (oQ a0 aB) λh bq bt n=>call_enumerate_list (en bt) λbd d g aK ap=>wpAny_pyIter_enum d<|J3 TE ⟨⟨_,d⟩,g⟩ a0 x rfl ap ad
theorem R0 (hf:bA c e aq nm (.Name w fb) (aM<|.ext<|.type "zip"))(aE:gY c e aq nm ah aZ)(aP:jC ah):lJ c e aq nm (.Call (.Name w fb) ah [] cL) 2 λR=>aZ (q7 (eL ah.length []) R):=by refine GX (G:=λaa ab I=>iq aa λu w=>gC u λr=>gC w λt=>oO I r/\oO I t/\ab (.zip r t) I) hf aE aP λa0 x i C=>bJ ?_;intro a8;obtain⟨u,w,v,b,rfl,rfl,aQ,a1,C⟩:=iV C i;obtain⟨r,rfl,C⟩:=eP C;obtain⟨t,rfl,⟨aa,aB⟩,⟨d,bu⟩,ad⟩:=eP C;cases aQ;cases a1;exact dw (oQ a0 aB) λh bq bt n=>dw (oQ a0 bu) λH U z T=>call_zip_2 (en bt) (en z) λbd aj ao a7 h0 ai aK ap=>wpAny_pyIter_zip aj<|J3 TJ ⟨aj,ao,⟨_,_,a7⟩,h0,ai⟩ a0 x rfl ap ad
def oo (c:cz)(x:Str)(u:V):Prop:=∃v,nsIn c.K iO x=kZ (kZ v)/\u.is v
def qN (c:cz)(x:Str):Prop:=nsIn c.K iO x=kZ By
theorem JY (aU:c.Ok)(C:oo c w u)(Q:aq.names.lookup w=kZ .globalImplicit)(hd:(w==("__debug__":Str))=false):bA c e aq nm (.Name w pos) (aM u):=by refine bg C λv ai ao=>?_;clear C;exact Zi aU ai ao Q hd
theorem Zf (aU:c.Ok)(C:qN c w)(aV:dS w=kZ v)(aO:w≠"__name__")(Q:aq.names.lookup w=kZ .globalImplicit)(hd:(w==("__debug__":Str))=false): bA c e aq nm (.Name w pos) (aM<|.ext v):=Zg aU C aV aO Q hd
theorem Zj:bA c b aq nm (.UnaryOp .USub (.Constant (.int 1) e cL) pos) (aM<|.int (-1)):=⟨(GW JZ).r⟩
noncomputable def oy (sc:ck):Env:={scope:=sc,locals:=0,globals:=0,cells:=[]}
theorem Ha (i:Nat)(aL:nm[i]?=kZ w)(C:bA c b aq nm aC cy)(ax:∀af,af.scope=aq->nr aC (kZ<|.Name w cL) pos.line af=pure false):fh c b aq nm (.Assign [.Name w cL] aC pos) λR=>cy (b3 i R):=by refine⟨λW af am I s R j E L bt h F S ad=>?_⟩;refine wpAny_Assign_Name (po (C.r W af am I s _ _ [] E L h F S ad) (λv aT A=>cq A λu au aQ a0 U aI=>?_) λq q aC=>aC)<|ax af h.dc;exact wu h (F.bT U) a0 aL aQ λay ai ar O=>iv (k:=.next) rfl ai ar (U.hT.trans O) aI
variable{iT:Option (List Str)}
theorem ZN (C:af.scope=aq)(aA:BJ ah aC (oy aq)=pure iT):BJ ah aC af=pure iT:=by replace aA:=(g7 C)▸aA;exact(rfl:BJ ah aC af=BJ ah aC (oy af.scope)).trans aA
noncomputable def uF (nm:List Str):List Nat->List Str->Bool
 |[],[]=>true
 |i::is,x::xs=>decide (nm[i]?=kZ x)&&uF nm is xs
 |_,_=>false
theorem MJ:∀{is:List Nat} {xs:List Str},uF nm is xs=true->lG nm is xs:=by
 intro h;induction h with
 |nil=>
  intro f;cases f with
  |nil=>intro s;exact trivial
  |cons j n=>intro C;exact lf C
 |cons i is D=>
  intro f;cases f with
  |nil=>intro C;exact lf C
  |cons x xs=>intro C;replace C:=(abR _ _)▸(C:(decide (nm[i]?=kZ x)&&uF nm is xs)=true);exact⟨of_decide_eq_true C.1,D C.2⟩
def yn (sc aq:ck)(nm xs fr:List Str)(is:List Nat):Bool:= decide (aq.kind=.function)&&decide (∀y∈aq.names,y.2≠.cell)&&decide (∀y∈aq.names,y.2=.local->aq.names.lookup y.1=kZ .local)&& decide (∀x∈xs,(ly sc aq).names.lookup x=kZ .local)&&decide (∀y∈aq.names,y.2=.free->y.1∈fr)&&decide (∀y∈fr,sc.names.lookup y=kZ .cell/\(y,t8)∈aq.names/\(ly sc aq).names.lookup y=kZ .cell)&& uF nm is fr&&decide ((xs++fr).Nodup)&&decide ((aq.names.map (·.1)).Nodup)
theorem Qt (C:yn e3 aq nm ch names a0=true):pq e3 aq nm ch names a0:=by unfold yn at C;simp only[abR,decide_eq_true_eq] at C;refine bP λbz aN=>?_;obtain⟨⟨⟨⟨⟨⟨⟨⟨a,b⟩,d⟩,f⟩,g⟩,i⟩,j⟩,k⟩,l⟩:=C;exact aN<|⟨a,b,d,f,g,i,MJ j,k,l⟩
noncomputable def wo (sc:ck)(names nm:List Str):Bool:= decide (sc.kind=.function)&& !sc.isCoroutine&& !sc.isGenerator&&decide ((sc.names.map (·.1)).Nodup)&&decide nm.Nodup&&decide (names<+:nm)&&decide (∀x∈nm,sc.names.lookup x=kZ .local\/sc.names.lookup x=kZ .cell)
theorem tJ (C:wo aq names nm=true):nz aq names nm:=by unfold wo at C;simp only[abR,decide_eq_true_eq,Lz] at C;refine bP λbz aN=>?_;obtain⟨⟨⟨⟨⟨⟨a,b⟩,d⟩,e⟩,f⟩,g⟩,i⟩:=C;exact aN<|⟨a,b,d,e,f,g,i⟩
def yb (aa:List V)(ab:V->az->Prop)(I:az):Prop:=iq aa λo u=>gC o λl=>hh u λk=>∃ns:List Int,I l=kZ (.list<|(k::ns).map .int)/\ns.length<1000/\∀D,Upd I D l (.list<|ns.map .int)->ab .none D
theorem ints_get:∀{ns:List Int} {ag:List a3},bV (ns.map .int) ag->∀v∈ag,∃i t,v=.int i t:=by
 intro h;induction h with
 |nil=>
  intro f;cases f with
  |nil=>intro s v C;cases C
  |cons j n=>intro C l d;exact C.elim
 |cons a ns D=>
  intro f;cases f with
  |nil=>intro c k b;first|exact c.elim|exact k.elim|exact b.elim|cases c|cases k|cases b
  |cons x ag=>
   intro g v aV;obtain⟨⟨t,e⟩,C⟩:=g;rcases Q8.mp aV with rfl|aV
   ·exact pd a t e
   ·exact D C v aV
theorem NE:eg c aD (.builtin "list.remove") yb:=by
 intro W I s ab E aa ag L S aX ad;refine bP λbz aN=>nX (iV ad aX) λo u aF N V z aw aQ g=>?_;replace aX:=V▸aX;replace ad:=V▸ad;replace aN:=z▸aN;replace aX:=z▸aX;refine bg (eP g) λl f r=>?_;clear g ad aX;replace aw:=f▸aw;refine kL (h1 r) λk f ns C aj X=>?_;replace aQ:=f▸aQ;replace aN:=aw▸aN;obtain⟨t,rfl⟩:=aQ;refine dw (S.rep _ _ C) λh bq e i=>?_;have an:h.size=ns.length+1:=by refine a6 aaU<|a6 i.length ?_;simp
 obtain⟨⟨D,M⟩,n⟩:∃p:a3×List a3,h.toList=p.1::p.2:=by
  cases B:h.toList with
  |nil=>rw[B] at i;exact i.elim
  |cons a b=>exact⟨(a,b),rfl⟩
 have T:=i;rw[n] at T;obtain⟨⟨A,aI⟩,w⟩:=T;refine aN ?_;let d:a3->Bool:=λv=>match v with|.int a _=>a==k|_=>false
 dsimp only at n w aI;have he:∀y,y∈h->PySem.MeetsSeq.EqGives y (.int k t) (d y):=λy G=>by refine fz (ints_get i y<|by simpa using G) λa u O=>?_;refine J O ?_;exact PySem.MeetsSeq.EqGives.int a k u t
 have x:h[0]'(bC 3514839282 an)=D:=by
  have:h.toList[0]?=kZ D:=by refine J n ?_;rfl
  rw[nc] at this;exact(BA.mp this).2
 refine Lp PySem.F.slot_list_remove (bb _ e rfl) PySem.F.entry_list_remove (PySem.F.args_list_remove_2 _ _) (PySem.MeetsSeq.list_remove l h bq (.int k t) d he 0 (bC 3514839282 an) (by refine J x<|J (aI:D=ua k A) ?_;simp[d]) (λm q hm=>absurd hm<|Nat.not_lt_zero _)<|by refine J an<|J wT ?_;exact bM 120301867137 aj) ⟨e,wG S .refl C e ?_ X⟩;have:(h.eraseIdxIfInBounds 0).toList=M:=by simp[aa4,show 0<h.size by exact bC 3514839282 an,n]
 refine J this ?_;exact w
theorem VN:jo "list" "remove" "list.remove":=⟨BH,PySem.F.slot_list_remove,F.type_list_remove⟩
noncomputable def we (x:Str)(i:Int):Str:=if i<=x.length then x else kV x 0 (i.toNat -x.length) 32
def pG (aa:List V)(ab:V->az->Prop)(I:az):Prop:=iq aa λu w=>k6 u λx=>hh w λi=>i<1000/\x.length<100000/\ -1000<i/\ab (.str<|we x i) I
theorem Nw:eg c e (.builtin "str.ljust") pG:=by
 intro W I s ab E aa ag L S aX ad;refine bP λbz aN=>nX (iV ad aX) λo w aF ih V z aw a1 g=>?_;subst V;replace aN:=z▸aN;refine bg (lU g) λx f r=>?_;replace aw:=f▸aw;refine tx (h1 r) λi f ai ao a7 X=>?_;replace a1:=f▸a1;obtain⟨t,rfl⟩:=aw;obtain⟨u,rfl⟩:=a1;refine aN<|call_gives PySem.F.slot_str_ljust (typeIs_str s x t) PySem.F.entry_str_ljust (PySem.F.args_str_ljust_2 _ _) (gives_str_ljust x i t u (by simp;exact⟨c4 7709158583 a7,c4 470313992 ai⟩)<|by simp[iL,gW];exact c4 470322183 ai) ?_;unfold we at X;split
 ·rename_i C;rw[if_pos C] at X;exact ig S .refl X
 ·rename_i C;rw[if_neg C] at X;exact⟨fits_padR 32 (by simp[iL,gW];exact c4 470322183 ai) C,ig (S.tok _) (.tok _) X⟩
theorem VK:jo "str" "ljust" "str.ljust":=⟨BM,PySem.F.slot_str_ljust,F.type_str_ljust⟩
noncomputable def s8 (len:Nat)(i:Int):Nat:=min (max 0 (if i<0 then i+len else i)).toNat len
def tF (x y:Str)(i j:Int):Int:=match ng x y (fromIndex x.length i) (s8 x.length j) with|some i=>(i:Int)|none=> -1
theorem SX (x y:Str)(i j:Int)(t u v w:Tok):Gives (Builtin.«str.rfind» ⟨[.str x t,.str y u,.int i v,.int j w],[]⟩) (.int<|tF x y i j):=by
 show Gives (match ng x y (fromIndex x.length i) (s8 x.length j) with|some k=>PySem.retInt k|none=>(do rule "str.rfind.not-found";PySem.retInt (-1))) _;unfold tF;cases ng x y (fromIndex x.length i) (s8 x.length j) with
 |none=>exact .rule<|.of_eq rfl
 |some k=>exact .of_eq rfl
def FJ (aa:List V)(P:V->V->V->V->Prop):Prop:=match aa with|[a,b,d,e]=>P a b d e|_=>False
theorem MD {P:V->V->V->V->Prop}(C:FJ aa P)(i:bV aa bE):∃a b d e x y z w,aa=[a,b,d,e]/\bE=[x,y,z,w]/\a.is x/\b.is y/\d.is z/\e.is w/\P a b d e:=by
 rcases aa with _|⟨a,_|⟨b,_|⟨d,_|⟨e,_|_⟩⟩⟩⟩<;>first|exact C.elim|skip
 refine fw ?_;intro f;obtain⟨x,r,rfl,dP,i⟩:=oN i;obtain⟨y,r,rfl,bt,i⟩:=oN i;obtain⟨z,r,rfl,Z,i⟩:=oN i;obtain⟨w,rfl,an⟩:=tb i;exact⟨a,b,d,e,x,y,z,w,rfl,rfl,dP,bt,Z,an,C⟩
def sG (aa:List V)(ab:V->az->Prop)(I:az):Prop:=FJ aa λu w a b=>k6 u λx=>k6 w λy=>hh a λi=>hh b λj=>ab (.int<|tF x y i j) I
theorem NF:eg c e (.builtin "str.rfind") sG:=by intro W I s ab E aa ag L S aX ad;intros a8;obtain⟨o,w,a,b,aF,ih,aG,ah,rfl,rfl,aw,a1,aE,aA,g⟩:=MD ad aX;obtain⟨x,rfl,r⟩:=lU g;obtain⟨y,rfl,d⟩:=lU r;obtain⟨i,rfl,f⟩:=h1 d;obtain⟨j,rfl,X⟩:=h1 f;obtain⟨t,rfl⟩:=aw;obtain⟨u,rfl⟩:=a1;obtain⟨v,rfl⟩:=aE;obtain⟨z,rfl⟩:=aA;exact call_gives PySem.F.slot_str_rfind (typeIs_str s x t) PySem.F.entry_str_rfind (PySem.F.args_str_rfind_4 _ _ _ _) (SX x y i j t u v z)<|gn (S.tok _) (.tok _) X
theorem VO:jo "str" "rfind" "str.rfind":=⟨BM,PySem.F.slot_str_rfind,F.type_str_rfind⟩
noncomputable def u9 (x y:Str)(i:Int):Int:=match aa5 x y (fromIndex x.length i) x.length 1 with|k::_=>(k:Int)|[]=> -1
def uL (aa:List V)(ab:V->az->Prop)(I:az):Prop:=uC aa λu w a=>k6 u λx=>k6 w λy=>hh a λi=>ab (.int<|u9 x y i) I
theorem Nl:eg c e (.builtin "str.find") uL:=by intro W I s ab E aa ag L S aX ad;intros a8;obtain⟨o,w,a,aF,ih,aG,rfl,rfl,aw,a1,aE,g⟩:=uD ad aX;obtain⟨x,rfl,r⟩:=lU g;obtain⟨y,rfl,d⟩:=lU r;obtain⟨i,rfl,X⟩:=h1 d;obtain⟨t,rfl⟩:=aw;obtain⟨u,rfl⟩:=a1;obtain⟨v,rfl⟩:=aE;exact call_gives PySem.F.slot_str_find (typeIs_str s x t) PySem.F.entry_str_find (PySem.F.args_str_find_3 _ _ _) (gives_str_find_from x y i t u v)<|gn (S.tok _) (.tok _) X
theorem VG:jo "str" "find" "str.find":=⟨BM,PySem.F.slot_str_find,F.type_str_find⟩
noncomputable def vW (x y:Str):Str:=if stripSame y.cps.contains true false x=true then x else PySem.stripped y.cps.contains true false x
def sF (aa:List V)(ab:V->az->Prop)(I:az):Prop:=iq aa λu w=>k6 u λx=>k6 w λy=>x.length<100000/\ab (.str<|vW x y) I
theorem Nx:eg c e (.builtin "str.lstrip") sF:=by
 intro W I s ab E aa ag L S aX ad;intros a8;obtain⟨o,w,aF,ih,rfl,rfl,aw,a1,g⟩:=iV ad aX;obtain⟨x,rfl,r⟩:=lU g;obtain⟨y,rfl,Q,X⟩:=lU r;obtain⟨t,rfl⟩:=aw;obtain⟨u,rfl⟩:=a1;refine call_gives PySem.F.slot_str_lstrip (typeIs_str s x t) PySem.F.entry_str_lstrip (PySem.F.args_str_lstrip_2 _ _) (gives_str_lstrip_chars x y t u) ?_;unfold vW at X;split
 ·rename_i C;rw[if_pos C] at X;exact ig S .refl X
 ·rename_i C;rw[if_neg C] at X;exact⟨fits_stripped _ _ _<|nf (rW Q)<|by refine J wT ?_;decide,ig (S.tok _) (.tok _) X⟩
theorem VL:jo "str" "lstrip" "str.lstrip":=⟨BM,PySem.F.slot_str_lstrip,F.type_str_lstrip⟩
theorem ZG:∀{ag:List a3},bV (nm.map .str) ag->∃l:List (Str×Tok),ag=strValues l/\l.map (·.1)=nm:=by
 induction nm with
 |nil=>intro ag C;cases ag with
  |nil=>exact(bb ([]) rfl rfl)
  |cons v ag=>exact C.elim
 |cons t nm D=>intro ag C;cases ag with
  |nil=>exact C.elim
  |cons v ag=>obtain⟨⟨k,rfl⟩,C⟩:=C;obtain⟨l,rfl,e⟩:=D C;exact(bb ((t,k)::l) rfl (congrArg (t:: ·) e))
def sE (aa:List V)(ab:V->az->Prop)(I:az):Prop:=iq aa λu w=>k6 u λx=>gC w λl=>∃bV:List Str,I l=kZ (.list<|bV.map .str)/\JoinOk x bV=true/\ab (.str<|LA x bV) I
theorem Nt:eg c b (.builtin "str.join") sE:=by intro W I s ab E aa ag L S aX ad;intros a8;obtain⟨o,w,aF,ih,rfl,rfl,aw,a1,g⟩:=iV ad aX;obtain⟨x,rfl,r⟩:=lU g;obtain⟨l,rfl,bV,an,j,X⟩:=eP r;obtain⟨t,rfl⟩:=aw;refine J a1 ?_;obtain⟨h,k,e,i⟩:=S.rep _ _ an;obtain⟨dQ,ai,ao⟩:=ZG i;have aL:h=(strValues dQ).toArray:=a6 ai rfl;exact SC.join (l:=dQ) (texts:=bV) (by refine a6 aL ?_;exact en e) ao j λF k=>ig (S.tok _) (.tok _) X
theorem VJ:jo "str" "join" "str.join":=⟨BM,PySem.F.slot_str_join,F.type_str_join⟩
theorem ME:∀{l:List (Str×Tok)},bV ((l.map (·.1)).map .str) (strValues l):=by
 intro l;induction l with
 |nil=>trivial
 |cons p l D=>exact⟨⟨p.2,rfl⟩,D⟩
def sJ (aa:List V)(ab:V->az->Prop)(I:az):Prop:=iq aa λu w=>k6 u λx=>k6 w λy=>(y.length==0)=false/\x.length<=gW/\(LB x (aa5 x y 0 x.length<|x.length+1) y.length).length<=gW/\ ∀a D,ei I D a (.list<|(LC x y).map .str)->ab (.ref a) D
theorem NJ:eg c b (.builtin "str.split") sJ:=by
 intro W I s ab E aa ag L S aX ad;intros a8;obtain⟨o,w,aF,ih,rfl,rfl,aw,a1,g⟩:=iV ad aX;refine jA ?_;intro d;obtain⟨x,rfl,r⟩:=lU g;obtain⟨y,rfl,G,Q,aj,X⟩:=lU r;obtain⟨t,rfl⟩:=aw;obtain⟨u,rfl⟩:=a1;have fin:∀(dQ:List (Str×Tok)) (k:Nat),dQ.map (·.1)=LC x y->dF c I s ab (.ref s.heap.objs.size) {s with heap:=s.heap.push {cls:=.type "list",data:=.seq (strValues dQ).toArray},toks:=k}:=λdQ k e=>by refine lC ((S.alloc _ (.list<|(LC x y).map .str)<|e5 (strValues dQ).toArray (0) (ph _ rfl)<|by refine a6 e ?_;simpa using ME).tok k) ((bG.alloc _ _).trans<|.tok k)<|X _ _ ⟨S.lA,rfl⟩
 cases ai:(decide (x.length<y.length)||decide (aa6 x<aa6 y))
 ·cases hf:(aa5 x y 0 x.length<|x.length+1).isEmpty
  ·exact Lp qz (typeIs_str _ _ _) oc (ub _ _) (meets_str_split_sep x y t u ai G hf Q aj)<|J (strsFrom_eq _ _)<|fin (numbered s.toks _) _<|(numbered_texts _ _).trans ((if_neg<|ne_true_of_eq_false ai).trans<|if_neg<|ne_true_of_eq_false hf).symm
  ·exact Lp qz (typeIs_str _ _ _) oc (ub _ _) (meets_str_split_not_found x y t u ai G hf)<|fin [(x,t)] _ ((if_neg<|ne_true_of_eq_false ai).trans<|if_pos hf).symm
 ·exact Lp qz (typeIs_str _ _ _) oc (ub _ _) (meets_str_split_cannot_occur x y t u ai)<|fin [(x,t)] _ (if_pos ai).symm
theorem VQ:jo "str" "split" "str.split":=⟨BM,PySem.F.slot_str_split,F.type_str_split⟩
def ya (aa:List V)(ab:V->az->Prop)(I:az):Prop:=iq aa λo w=>gC o λl=>w=.int 0/\∃u d,I l=kZ (.list<|u::d)/\d.length<1000/\∀D,Upd I D l (.list d)->ab u D
theorem ND:eg c aD (.builtin "list.pop") ya:=by
 intro W I s ab E aa ag L S aX ad;intros a8;obtain⟨o,w,aF,ih,rfl,rfl,aw,a1,g⟩:=iV ad aX;obtain⟨l,rfl,rfl,u,d,an,aj,X⟩:=eP g;refine J aw ?_;obtain⟨t,rfl⟩:=a1;obtain⟨h,k,e,i⟩:=S.rep _ _ an;have aK:h.size=d.length+1:=by refine a6 aaU<|a6 i.length ?_;rfl
 obtain⟨y,G,aQ⟩:∃y,h[0]?=kZ y/\u.is y:=by obtain⟨v,ai,ao⟩:=i.get (i:=0) (u:=u) rfl;exact(bb v (by refine a6 nc ?_;exact ai) ao)
 refine Lp PySem.F.slot_list_pop (bb _ e rfl) PySem.F.entry_list_pop (PySem.F.args_list_pop_2 _ _) (PySem.MeetsSeq.list_pop_at l h k 0 t 0 y (by decide) (by simp[seqIndex?,aK]) G<|by refine J aK<|J wT ?_;exact bM 120301867137 aj) ⟨e,?_⟩;have C:h.toList=y::(h.eraseIdxIfInBounds 0).toList:=by
  cases B:h.toList with
  |nil=>replace aK:=B▸(g7 aaU)▸aK;cases aK
  |cons a b=>
   have h0:h.toList[0]?=kZ y:=by refine J nc ?_;exact G
   replace h0:=B▸h0;cases h0;simp[aa4,aK,B]
 have T:=i;replace T:=C▸T;obtain⟨aN,aW⟩:=vY e λxs=>xs.eraseIdxIfInBounds 0;exact jE aQ (S.upd (t:=s.toks) (q:=.list d) (Lv ..) an<|e5 _ aN aW T.2) (.upd (Lv ..) an ⟨_,aW⟩)<|X _ rfl
theorem VM:jo "list" "pop" "list.pop":=⟨BH,PySem.F.slot_list_pop,F.type_list_pop⟩
def F3 (aa:List V)(ab:V->az->Prop)(I:az):Prop:=ko aa λo=>gC o λl=>∃a b,I l=kZ (.list [.int a,.int b])/\ab (.int<|min a b) I
def F1 (aa:List V)(ab:V->az->Prop)(I:az):Prop:=ko aa λo=>gC o λl=>∃a b,I l=kZ (.list [.int a,.int b])/\ab (.int<|max a b) I
noncomputable def n2 (a b:Int)(i:Nat):Int:=if i=0 then a else b
theorem Z5 (i:bV [.int pt,.int last] ag.toList):ag.size=2/\∀(j:Nat) (v:a3),ag[j]?=kZ v->∃t,v=ua (n2 pt last j) t:=by
 obtain⟨l⟩:=ag;rcases l with _|⟨x,_|⟨y,_|_⟩⟩
 ·exact i.elim
 ·exact i.2.elim
 ·obtain⟨⟨t,rfl⟩,⟨u,rfl⟩,-⟩:=i;refine⟨rfl,λj v C=>?_⟩;match j with
  |0=>cases C;exact⟨t,rfl⟩
  |1=>cases C;exact⟨u,rfl⟩
  |k+2=>simp at C
 ·exact i.2.2.elim
theorem walk2 {fR:Nat->Nat->Bool}(B:bo.in1.handled=By)(S:a9 c I s)(C:I l=kZ (.list [.int pt,.int last]))(X:ab (.int cnt) I)(aB:n2 pt last (argBest fR 1)=cnt) (aU:∀P:Nat->a3->Prop,(∀i v,P i v->∃t,v=ua (n2 pt last i) t)->CmpOf c.prog c.w bo.in1 ar P fR): pn c.M bo.in1 (pyIter<|.ref l) (λit H=>∃a4 fb q aD P St a,it=.ref a4/\Walks c.prog c.w bo.in1 a4 fb q aD P St/\St 0 H.heap/\(∀last∈fb,last<H.heap.objs.size)/\0<aD/\CmpOf c.prog c.w bo.in1 ar P a/\ ∀v av cr,P (argBest a<|aD -1) v->(∀last o,last∉q->H.heap.get? last=kZ o->av.get? last=kZ o)->dF c I s ab v {H with heap:=av,toks:=cr}) E s:=by
 intros y;obtain⟨h,k,e,i⟩:=S.rep _ _ C;obtain⟨aj,aV⟩:=Z5 i;have an:=acg e;refine wpAny_pyIter_list (en e)<|⟨s.heap.objs.size,_,_,_,_,_,fR,rfl,Walks.list B s.heap.objs.size l (eB an) h,⟨(c7 _ (ph _ rfl) rfl rfl),(en e).push _⟩,?_,by refine J aj ?_;decide,aU _ aV,λv av cr aP ap=>?_⟩
 ·intro last aA;simp only[Q8,wP,or_false] at aA;show last<(s.heap.push _).objs.size;refine J (d8 _ _) ?_;rcases aA with rfl|rfl
  ·exact BL _
  ·exact Ly an
 ·replace aP:=aj▸aP;obtain⟨t,rfl⟩:=aV _ _ aP;refine J aB ?_;have Q:∀last o,s.heap.get? last=kZ o->av.get? last=kZ o:=λlast o aW=>ap last o (by simp;exact eB<|acg aW)<|sh _ aW;exact gn (S.grow (t:=cr) Q) (.grow (t:=cr) Q) X
theorem NB:eg c e (.builtin "min") F3:=by intro W I s ab E aa ag L S aX ad;obtain⟨o,aF,rfl,rfl,aw,g⟩:=lT ad aX;obtain⟨l,rfl,a,b,C,X⟩:=eP g;exact J aw<|call_min_walk<|walk2 (fR:=λi j=>decide<|n2 a b i<n2 a b j) L.handled S C X (by show n2 a b (if decide (b<a)=true then 1 else 0)=min a b;by_cases C:b<a;exact(J (if_pos<|decide_eq_true C) (xe<|jh C).symm);exact(J (if_neg λm=>C<|of_decide_eq_true m) (nk<|aa1.mp C).symm)) λP bI=> .ints_lt _ bI
theorem Nz:eg c e (.builtin "max") F1:=by intro W I s ab E aa ag L S aX ad;obtain⟨o,aF,rfl,rfl,aw,g⟩:=lT ad aX;obtain⟨l,rfl,a,b,C,X⟩:=eP g;exact J aw<|call_max_walk<|walk2 (fR:=λi j=>decide<|n2 a b i>n2 a b j) L.handled S C X (by show n2 a b (if decide (b>a)=true then 1 else 0)=max a b;by_cases C:b>a;exact(J (if_pos<|decide_eq_true C) (LU<|jh C).symm);exact(J (if_neg λm=>C<|of_decide_eq_true m) (LZ<|aa1.mp C).symm)) λP bI=> .ints_gt _ bI
theorem FM (C:pn c.M bo (eval aC af) (λc2 H=>pn c.M bo (eval aP af) (λa aO=>pn c.M bo (setItem c2 a v) fc E aO) E H) E s):pn c.M bo (assign (.Subscript aC aP pos) af v) fc E s:=by exact J (assign_Subscript _ _ _ _)<|sg<|pp<|po C (λc2 H bd=>sg<|pp<|po bd (λa aO bn=>sg<|nt<|sg<|pp<|po bn (λq aY a3=>wpAny_release a3) λq q e=>e) λq q e=>e) λq q e=>e
abbrev yT (R:aI):aI:=λk am S I=>dq S λu S=>hi u λt=>∃a b,I t=kZ (.tup [a,b])/\R k am (a::b::S) I
variable{el fD:Pos}
theorem Sy {bt eq:Expr}{z:a5}(C:bA c ey aq nm eq cy)(e:bA c ey aq nm aC aZ)(f:bA c ey aq nm aP Cl)(l:bA c ey aq nm bW iP)(d:bA c ey aq nm bt z) (ax:∀af,hB [.Tuple [.Subscript aC aP el,.Subscript bW bt cL] aD fD] eq pos.line af=pure false)(a1:∀af,af.scope=aq->BJ [.Tuple [.Subscript aC aP el,.Subscript bW bt cL] aD fD] eq af=pure By) (hf:∀af,cJ [.Subscript aC aP el,.Subscript bW bt cL] af=[(false,assign (.Subscript aC aP el) af),(false,assign (.Subscript bW bt cL) af)]): fh c ey aq nm (.Assign [.Tuple [.Subscript aC aP el,.Subscript bW bt cL] aD fD] eq pos) λR=>cy (yT<|aZ<|Cl<|gu<|iP<|z<|gu R):=by
 refine⟨λW af am I s R j E L q h F S ad=>?_⟩;refine Assign_Tuple (po (C.r W af am I s _ _ [] E L h F S ad) (λv aT A=>cq A λu au aQ a0 U m=>?_) λ_ _ eq=>eq) (ax af)<|a1 af h.dc;intros bc;obtain⟨t,rfl,a,b,bu,aI⟩:=eP m;refine J aQ ?_;obtain⟨ag,bq,aW,i⟩:=a0.rep _ _ bu;refine(?_:pn c.M W (do ach fD;unpack (.ref t)<|cJ _ af) _ E aT);refine J (hf af) ?_;have bF:(2:Nat)=ag.size:=by refine a6 aaU<|a6 i.length ?_;rfl
 refine sg<|nt<|unpack_tuple L.handled (jF _ aW rfl bq rfl) bF rfl λav he=>?_;refine fw ?_;intro n;have aH:bG cp au aT au {aT with heap:=av}:=.grow (t:=aT.toks)<|pL he;have ak:a9 c au {aT with heap:=av}:=a0.grow (t:=aT.toks)<|pL he;have g:cm af nm am au av:=(F.bT U).bT aH;obtain⟨aG,ah,ba,aE,aA⟩:∃aG ah,ag.toList=[aG,ah]/\a.is aG/\b.is ah:=by refine fw ?_;intro p;obtain⟨x,r,a8,aP,bt⟩:=oN i;obtain⟨y,bo,Z⟩:=tb bt;exact(dM x y (a8.trans<|congrArg _ bo) aP Z)
 refine J ba<|(?_:pn c.M W (do io [ah] (assign (.Subscript aC aP el) af aG);assignInOrder [assign (.Subscript bW bt cL) af] [ah]) _ E _);refine sg<|pp<|FM ?_;refine po (e.r W af am au _ _ _ _ E L h g ak aI) (λaF aO A=>cq A λo aM aw a2 bj bn=>?_) λ_ _ eq=>eq;have a7:=g.bT bj;refine po (f.r W af am aM aO _ _ _ E L h a7 a2 bn) (λkQ aY A=>cq A λi ay aL be bf a3=>?_) λ_ _ eq=>eq;have bK:=a7.bT bf;refine AJ be aw aL aE a3 λbh ao bi bD bE=>?_;have K:=bK.bT<|bD cp;refine(?_:pn c.M W (do io [] (assign (.Subscript bW bt cL) af ah);assignInOrder [] []) _ E _);refine sg<|pp<|FM ?_;refine po (l.r W af am bh ao _ _ _ E L h K bi bE) (λaF bQ A=>cq A λq bv aw bI bL az=>?_) λ_ _ eq=>eq;have aJ:=K.bT bL;refine po (d.r W af am bv bQ _ _ _ E L h aJ bI az) (λkQ bm A=>cq A λT bO aL bg bw B=>?_) λ_ _ eq=>eq;have Q:=aJ.bT bw;exact AJ bg aw aL aA B λbz ab Y aN bk=>mB<|iv (k:=.next) rfl (Q.bT<|aN cp) Y (((((((U.trans aH).trans bj).trans bf).trans<|bD cp).trans bL).trans bw).hT.trans<|aN _) bk
noncomputable abbrev cR (l:List Env):List Addr:=l.filterMap (·.frame)
structure Ent (S:List Addr)(e:Addr)(c:Obj)(ag:Array a3)(T:Addr)(C av:Heap):Prop where
 exc:av.get? e=kZ {c with data:=.fields (ag.setIfInBounds 1 (.ref T))}
 Ko:∃aa bV,av.get? T=kZ aa/\aa.data=.fields bV/\bV[3]?=kZ .none
 new:C.get? T=By
 same:∀b o,b≠e->b∉S->C.get? b=kZ o->av.get? b=kZ o
 slots:∀b o,b≠e->C.get? b=kZ o->∃cw,av.get? b=kZ {o with slots:=cw}
theorem GN {W:qJ}{E:a3->eN->Prop}{M:Model}{s:eN}{base:Heap}{af:Env}{bq:List Env}{L e:Addr}{c:Obj}{ag:Array a3}{head:a3}{t:Bool}{ab:Unit->eN->Prop} (aF:W.frames=kZ (af::bq))(an:s.heap.FunFrames base (af::bq))(hf:af.frame=kZ L)(he:s.heap.get? e=kZ c)(hd:c.data=.fields ag)(aK:1<ag.size) (C:∀av T,Ent (cR<|af::bq) e c ag T s.heap av->ab () {s with heap:=av}): pn M W (do let a<-frameOf af;let dE<-entryPlaceOf L t;let b<-nh head a .none (rawInt L) .none dE;setField (.ref e) 1 b) (λq ay=>pn M W (r7 (.ref e) By) ab E ay) E s:=by
 have y:e∉cR (af::bq):=λhm=>by refine dp (an.mem hm) λq aB=>cO aB λo az=>dp az λaw p=>?_;replace aw:=he▸aw;injection aw with aw;subst aw;exact p ag hd
 refine sg<|wpAny_frameOf_fun aF an hf λaI d=>?_;refine sg<|wpAny_entryPlaceOf λdE bg=>?_;unfold nh newFields;refine sg<|wpAny_newObj_type ?_<|bg.sizeOk5 _ _ _ _ _;have r:aI.get? e=kZ c:=(d.2.1 e y).trans he;have u:s.heap.get? aI.objs.size=By:=by
  cases X:s.heap.get? aI.objs.size with
  |none=>rfl
  |some o=>obtain⟨cw,e⟩:=d.2.2 _ o X;replace e:=(mP _<|nu _)▸e;exact bY e
 generalize i:({cls:=.type "traceback",dict:=By,data:=.fields ([head,.ref L,.none,rawInt L,.none]++(if dE.isEmpty then dr 6 BP else dE)).toArray}:Obj)=b4;have g:b4.data=.fields ([head,.ref L,.none,rawInt L,.none]++(if dE.isEmpty then dr 6 BP else dE)).toArray:=a6 i rfl;have z:b4.isFreed=false:=by refine a6 i ?_;rfl
 have bO:=sh (h:=aI) b4 r;refine wpAny_setField bO hd aK ?_;have ak:aI.objs.size≠e:=aa3<|acg r;have n:=BQ hd (·.setIfInBounds 1 (im aI.objs.size));have b9:=aaS (ni (·.setIfInBounds 1 (im aI.objs.size))) bO<|mu n;have k:=(aa8 (aI.push b4) (ni (·.setIfInBounds 1 (im aI.objs.size)))<|us ak).trans<|ph aI z;unfold r7;refine sg<|je b9 n (x:=.ref aI.objs.size) (by simp[aK]) ?_;refine J (if_pos (by simp:(im aI.objs.size !=BP)=true)) ?_;refine wpAny_setField k g (by simp only[wS,nb,hC,uc]<;>omega)<|C _ aI.objs.size ?_;have keep:∀b o,b≠e->aI.get? b=kZ o-> (((aI.push b4).update e (ni (·.setIfInBounds 1 (im aI.objs.size)))).update aI.objs.size (ni (·.setIfInBounds 3 ((By:Option Addr).elim BP λf=>rawInt f)))).get? b=kZ o:=λb o w aA=>by have v:aI.objs.size≠b:=aa3<|acg aA;exact J (aa8 _ _ v)<|J (aa8 _ _<|us w)<|sh _ aA
 refine⟨?_,?_,u,λb o aA aa ad=>keep b o aA<|(d.2.1 b aa).trans ad,λb o aA ad=>?_⟩
 ·refine J (aa8 _ _ ak)<|J b9 ?_;obtain⟨l,j,m,B⟩:=c;change m=_ at hd;refine J hd ?_;rfl
 ·exact(dM _ _ (aaS _ k<|mu<|BQ g _) (BQ g _)<|by first|(simp;done)|(rcases bg with rfl|⟨_,_,_,_,_,_,_,rfl⟩<;>simp))
 ·obtain⟨cw,e⟩:=d.2.2 b o ad;exact⟨cw,keep b _ aA e⟩
theorem Wy {W:qJ}{E:a3->eN->Prop}{M:Model}{s:eN}{base:Heap}{af:Env}{bq:List Env}{L e:Addr}{c:Obj}{ag:Array a3}{ab:Unit->eN->Prop} (aF:W.frames=kZ (af::bq))(an:s.heap.FunFrames base (af::bq))(hf:af.frame=kZ L)(he:s.heap.get? e=kZ c)(hd:c.data=.fields ag)(ai:ag[1]?=kZ .none) (C:∀av T,Ent (cR<|af::bq) e c ag T s.heap av->ab () {s with heap:=av}):pn M W (noteFrame (.ref e) af) (λq ay=>pn M W (r7 (.ref e) By) ab E ay) E s:=by unfold noteFrame;simp only[hf];refine sg<|je he hd ai ?_;exact J (if_neg<|by decide)<|GN aF an hf he hd (BA.mp ai).1 C
theorem Wz {W:qJ}{E:a3->eN->Prop}{M:Model}{s:eN}{base:Heap}{af:Env}{bq:List Env}{L e T:Addr}{c aa:Obj}{ag bV:Array a3}{ab:Unit->eN->Prop} (aF:W.frames=kZ (af::bq))(an:s.heap.FunFrames base (af::bq))(hf:af.frame=kZ L)(he:s.heap.get? e=kZ c)(hd:c.data=.fields ag)(ai:ag[1]?=kZ (.ref T)) (ak:T≠e)(D:s.heap.get? T=kZ aa)(h:aa.data=.fields bV)(a7:bV[3]?=kZ .none) (C:∀R av aZ,L8 T s.heap R->(∃b4,R.get? T=kZ b4)->Ent (cR<|af::bq) e c ag aZ R av->ab () {s with heap:=av}):pn M W (noteFrame (.ref e) af) (λq ay=>pn M W (r7 (.ref e) By) ab E ay) E s:=by unfold noteFrame;simp only[hf];refine sg<|je he hd ai ?_;refine J (if_pos (by simp:(im T !=BP)=true)) ?_;refine sg<|je D h a7 ?_;refine J (if_neg (by simp[rawInt]:¬ ((BP==rawInt L)=true))) ?_;refine sg<|wpAny_setField D h (BA.mp a7).1 ?_;have i:L8 T s.heap (s.heap.update T (ni (·.setIfInBounds 3 BP))):=⟨Lk _ _ _,λb aA=>Bw _ _ _ _ aA⟩;refine GN aF (an.of_keeps λb o aA p=>(bb o ((i.2 b λX=>?_).trans aA) rfl)) hf ((i.2 e<|us ak).trans he) hd (BA.mp ai).1 λav aZ aH=>C _ av aZ i ⟨_,aaS _ D<|mu<|BQ h _⟩ aH;replace aA:=D▸X▸aA;injection aA with aA;subst aA;exact p bV h
theorem UA (C:pn ld bo (noteFrame v af) (λq ay=>pn ld bo (r7 v By) fc E ay) E s):pn ld bo (leaving af v) fc E s:=by unfold leaving;exact sg C
structure Frs (c:cz)(bq:List Env)(I:az)(C:Heap):Prop where
 nP:C.FunFrames c.base bq
 off:∀a∈cR bq,I a=By
def Ck (as:List (Str×V))(m:Str->Option a3):Prop:=∀x u,as.lookup x=kZ u->∃v,m x=kZ v/\u.is v
structure Exc (c:cz)(ae:Addr)(C:Heap)(I:az)(e d:Addr)(as:List (Str×V)):Prop where
 exc:∃ag cw,C.get? e=kZ ⟨.ref ae,kZ d,.fields ag,cw⟩/\
  (ag[1]?=kZ .none\/∃T aa bV,ag[1]?=kZ (.ref T)/\T≠e/\C.get? T=kZ aa/\aa.data=.fields bV/\bV[3]?=kZ .none/\I T=By/\c.base.get? T=By)
 dict:∃m,C.Ns1 d m/\Ck as m
 lv:I e=By
 mi:I d=By
 lW:c.base.get? e=By
 based:c.base.get? d=By
structure fE (own:Addr->Prop)(S:List Addr)(ar:az)(m:eN)(I:az)(s:eN):Prop where
 em:∀a o,¬ own a->a∉S->ar a=By->m.heap.get? a=kZ o->s.heap.get? a=kZ o
 slots:∀a o,a∈S->m.heap.get? a=kZ o->∃cw,s.heap.get? a=kZ {o with slots:=cw}
 live:∀a o,m.heap.get? a=kZ o->∃q,s.heap.get? a=kZ q
 fresh:∀a o,m.heap.get? a=kZ o->ar a=By->I a=By
structure jm (c:cz)(ae:Addr)(bq:List Env)(ex:Addr->Prop)(ar:az)(m:eN)(I:az)(s:eN)(e d:Addr)(as:List (Str×V)):Prop where
 sim:a9 c I s
 exc:Exc c ae s.heap I e d as
 cR:Frs c bq I s.heap
 rr:m.heap.get? e=By
 p3:m.heap.get? d=By
 rq:∀ag o T,s.heap.get? e=kZ o->o.data=.fields ag->ag[1]?=kZ (.ref T)->m.heap.get? T=By
 bT:fE ex (Mine.cR bq) ar m I s
abbrev uB:=List (Str×V)->az->Prop
def Mf (c:cz)(ae:Addr)(bq:List Env)(I:az)(s:eN)(aH:uB):a3->eN->Prop:=λv ay=>∃e d as Z,v=.ref e/\jm c ae bq cp I s Z ay e d as/\aH as Z
abbrev fq:=List (Str×V)->List V->az->Prop
def mE (c:cz)(ae:Addr)(af:Env)(nm:List Str)(bq:List Env)(I:az)(s:eN)(aH:fq):a3->eN->Prop:=λv ay=>∃e d as B Z,v=.ref e/\jm c ae bq (Own af) I s Z ay e d as/\cm af nm B Z ay.heap/\aH as B Z
def Mp (c:cz)(bq:List Env)(I:az)(s:eN)(ab:V->az->Prop):a3->eN->Prop:=λv ay=>∃u Z,u.is v/\a9 c Z ay/\fE cp (cR bq) I s Z ay/\ab u Z
def lK (c:cz)(af:Env)(nm:List Str)(bq:List Env)(I:az)(s:eN)(ab:jK->List V->az->Prop):Flow->eN->Prop:= λf ay=>∃k B Z,k.is f/\cm af nm B Z ay.heap/\a9 c Z ay/\fE (Own af) (cR bq) I s Z ay/\ab k B Z
abbrev ji:=fq->a5
def jj (c:cz)(ae:Addr)(n:Nat)(f:V)(args:List V)(ab:V->az->Prop)(aH:uB)(I:az):Prop:= ∀(W:qJ) (bq:List Env) (s:eN) (dD:a3) (ag:List a3) (R:Result->eN->Prop),e9 W n->W.frames=kZ bq->Frs c bq I s.heap->a9 c I s->f.is dD->bV args ag->(∀v ay,Mp c bq I s ab v ay->R (.ok<|.ret v) ay)-> (∀v ay,Mf c ae bq I s aH v ay->R (.error v) ay)->br c.M W (.call dD ⟨ag,[]⟩) R s
structure kk (af:Env)(bq:List Env):Prop where
 own:af.frame=kZ af.locals
 apart:∀a∈cR bq,¬ Own af a
structure jl (c:cz)(ae:Addr)(n:Nat)(sc:ck)(nm:List Str)(st:Stmt)(K:ji):Prop where
 r:∀(W:qJ) (af:Env) (bq:List Env) (am:List V) (I:az) (s:eN) (R:aI) (j:jQ) (aH:fq),e9 W n->kk af bq->W.frames=kZ (af::bq)->Frs c bq I s.heap->e1 c af sc nm->cm af nm am I s.heap->a9 c I s->K aH R ⟨c,n,j⟩ am [] I->
  pn c.M W (exec st af) (lK c af nm bq I s (mX ⟨c,n,j⟩ R [])) (mE c ae af nm bq I s aH) s
structure mF (c:cz)(ae:Addr)(n:Nat)(sc:ck)(nm:List Str)(st:List Stmt)(K:ji):Prop where
 r:∀(W:qJ) (af:Env) (bq:List Env) (am:List V) (I:az) (s:eN) (R:aI) (j:jQ) (aH:fq),e9 W n->kk af bq->W.frames=kZ (af::bq)->Frs c bq I s.heap->e1 c af sc nm->cm af nm am I s.heap->a9 c I s->K aH R ⟨c,n,j⟩ am [] I->
  pn c.M W (execs st af) (lK c af nm bq I s (mX ⟨c,n,j⟩ R [])) (mE c ae af nm bq I s aH) s
variable{bq:List Env}
theorem Frs.mem (F:Frs c bq I C)(aE:a∈cR bq):c.base.get? a=By/\∃o,C.get? a=kZ o/\∀ag,o.data≠.fields ag:=F.nP.mem aE
theorem Frs.keep:∀{C av:Heap},C.FunFrames c.base bq->(∀a o,a∈cR bq->C.get? a=kZ o->∃cw,av.get? a=kZ {o with slots:=cw})->av.FunFrames c.base bq:=by
 induction bq with
 |nil=>intro C av q q;trivial
 |cons af eP D=>
  rintro C av ⟨ap,⟨L,o,hf,aO,aw,hd⟩,aB⟩ k;have e:cR (af::eP)=L::cR eP:=by unfold cR;exact J Le<|J hf rfl
  obtain⟨cw,ax⟩:=k L o (by refine J e ?_;exact .head _) aw;exact⟨ap,(gA L _ hf aO ax hd),D aB λa o aE=>k a o<|by refine J e ?_;exact .tail _ aE⟩
theorem Frs.bT (F:Frs c bq I s.heap)(aO:∀a∈cR bq,¬ aF a)(x:bG aF I s Z ay):Frs c bq Z ay.heap:=by refine⟨Frs.keep F.nP λa o aE e=>⟨o.slots,x.em a o (aO a aE) (F.off a aE) e⟩,λa aE=>?_⟩;exact dp (F.mem aE) λq aB=>cO aB λo az=>dp az λe q=>x.fresh a o e<|F.off a aE
theorem fE.of (x:bG aF I s Z ay)(F:Frs c bq I s.heap)(aO:∀a∈cR bq,¬ aF a):fE aF (cR bq) I s Z ay:= ⟨λa o C q z e=>x.em a o C z e,λa o C e=>⟨o.slots,x.em a o (aO a C) (F.off a C) e⟩,x.live,x.fresh⟩
theorem fE.trans {S:List Addr}(x:fE aF S Z ay au aT)(y:fE aF S au aT I s):fE aF S Z ay I s:= ⟨λa o C av z e=>y.em a o C av (x.fresh a o e z)<|x.em a o C av z e,λa o C e=>cO (x.slots a o C e) λcw aW=>cO (y.slots a _ C aW) λd w=>⟨d,w⟩,λa o e=>cO (x.live a o e) λq aW=>y.live a q aW,λa o e z=>cO (x.live a o e) λq aW=>y.fresh a q aW<|x.fresh a o e z⟩
theorem Frs.rI (F:Frs c bq I s.heap)(x:fE aF (cR bq) I s Z ay):Frs c bq Z ay.heap:= ⟨Frs.keep F.nP x.slots,λa aE=>by exact dp (F.mem aE) λq aB=>cO aB λo az=>dp az λe q=>x.fresh a o e<|F.off a aE⟩
theorem jm.trans (x:fE aF (Mine.cR bq) Z ay au aT)(y:jm c ae bq aF au aT I s l cl a1):jm c ae bq aF Z ay I s l cl a1:=by
 obtain⟨bl,bm,aJ,am,d,f,e⟩:=y;have r:∀a,aT.heap.get? a=By->ay.heap.get? a=By:=λa C=>by
  cases X:ay.heap.get? a with
  |none=>rfl
  |some o=>obtain⟨q,aW⟩:=x.live a o X;replace aW:=C▸aW;exact bY aW
 exact⟨bl,bm,aJ,r _ am,r _ d,λag o T a b cl=>r _<|f ag o T a b cl,x.trans e⟩
theorem mE.trans {ae:Addr}{c:cz}{nm:List Str}{af:Env}{bq:List Env}{ar au:az}{m aT:eN}{aH:fq}(x:fE (Own af) (cR bq) ar m au aT):∀v ay,mE c ae af nm bq au aT aH v ay->mE c ae af nm bq ar m aH v ay:= λq q A=>g1 A λe d as B Z aB=>i7 aB λa b f X=>(⟨e,d,as,B,Z,a,b.trans x,f,X⟩)
theorem lK.trans (x:fE (Own af) (cR bq) I s au aT):∀f ay,lK c af nm bq au aT dk f ay->lK c af nm bq I s dk f ay:= λq q A=>mh A λk B Z a b d e X=>⟨k,B,Z,a,b,d,x.trans e,X⟩
theorem pP {k:jK}(C:k.is ob)(F:cm af nm aa Z ay.heap)(S:a9 c Z ay)(x:fE (Own af) (cR bq) I s Z ay)(X:dk k aa Z):lK c af nm bq I s dk ob ay:=⟨k,aa,Z,C,F,S,x,X⟩
theorem Frs.push (G:Frs c bq I s.heap)(ok:kk af bq)(h:e1 c af aq nm)(F:cm af nm am I s.heap):Frs c (af::bq) I s.heap:=by
 obtain⟨m,d,⟨o,ah,aR,aw,hd,_⟩,_⟩:=F.ex;refine⟨⟨by refine J h.dc<|J h.kind ?_;exact(λX=>by cases X),(gA af.locals o ok.own (h.new _<|.head _) aw λag=>by refine J hd ?_;exact(λX=>by cases X)),G.nP⟩,λa aE=>?_⟩;unfold cR at aE;replace aE:=ok.own▸Le▸aE;rcases Q8.mp aE with rfl|aE
 ·exact F.off _<|.head _
 ·exact G.off a aE
theorem pQ (ok:kk af bq):cR (af::bq)=af.locals::cR bq:=by unfold cR;exact J Le<|J ok.own rfl
theorem cm.rI (ok:kk af bq)(h:e1 c af aq nm)(F:cm af nm am I s.heap)(y:fE cp (cR<|af::bq) I s Z ay):cm af nm am Z ay.heap:=by
 have aG:=F.live;obtain⟨⟨m,d,aO,aU,aV⟩,an,aw,aj⟩:=F;have aF:=pQ ok;refine⟨(dM m d ?_ (λz k e=>?_) aV),an,λa aE=>cO (aG a aE) λo e=>y.fresh a o e<|aw a aE,λp aP=>cO (aj p aP) λo e=>y.live _ o e⟩
 ·refine fg aO λo ah aR e r=>?_;clear aO;obtain⟨cw,ax⟩:=y.slots _ o (by refine J aF ?_;exact .head _) e;exact i9 _ ah aR ax r
 ·refine bg (aU z k e) λo aW r=>?_;have hm:k∈addrs af:=.tail _<|yB.mpr<|bb ((z,k)) (mem_of_lookup e) rfl;refine(bb o (y.em k o id (λX=>?_) (aw k hm) aW) r);replace X:=aF▸X;rcases Q8.mp X with X|X
  ·exact h.above z k (mem_of_lookup e) X.symm
  ·exact ok.apart k X hm
theorem fE.inner (ok:kk af bq)(y:fE cp (cR<|af::bq) Z ay I s):fE (Own af) (cR bq) Z ay I s:=by
 have aF:=pQ ok;refine⟨λa o C av=>y.em a o id λX=>?_,λa o C=>y.slots a o<|by refine J aF ?_;exact .tail _ C,y.live,y.fresh⟩;replace X:=aF▸X;rcases Q8.mp X with rfl|X
 ·exact C<|.head _
 ·exact av X
theorem jm.inner (ok:kk af bq)(y:jm c ae (af::bq) cp Z ay I s l cl a1):jm c ae bq (Own af) Z ay I s l cl a1:= {y with cR:=⟨y.cR.nP.2.2,λa aE=>y.cR.off a<|by refine J (pQ ok) ?_;exact .tail _ aE⟩,bT:=y.bT.inner ok}
theorem Sm (G:Frs c bq I s.heap)(ok:kk af bq):∀f ay,jO c af nm I s dk f ay->lK c af nm bq I s dk f ay:= λq q A=>mh A λk B Z a b d e X=>⟨k,B,Z,a,b,d,.of e G ok.apart,X⟩
theorem pS (C:fh c b aq nm jY aZ):jl c ae b aq nm jY λq R=>aZ R:= ⟨λW af bq am I s R j aH L ok q G h F S ad=>po (C.r W af am I s _ _ _ L trivial h F S ad) (Sm G ok) λq q e=>e⟩
variable{iq h1:ji}
theorem yH (C:jl c ae i aq nm jY iq)(av:mF c ae i aq nm body h1):mF c ae i aq nm (jY::body) λaH R=>iq aH (h1 aH R):=by
 refine⟨λW af bq am I s R j aH L ok aF G h F S ad=>?_⟩;refine lF<|po (C.r W af bq am I s _ _ aH L ok aF G h F S ad) (λf aT A=>mh A λk aR au a ba a0 U l=>?_) λq q e=>e;cases k with
 |next=>refine J a ?_;exact po (av.r W af bq aR au aT R j aH L ok aF (G.rI U) h ba a0 l) (lK.trans U)<|mE.trans U
 |brk=>exact l.elim
 |cont=>exact l.elim
 |ret u=>obtain⟨v,rfl,aV⟩:=a;exact pP (k:=.ret u) (bb v rfl aV) ba a0 U l
theorem SL:mF c ae e aq nm [] λq R=>R:=⟨λW af bq am I s R j aH L ok q G h F S ad=>mA<|pP (k:=.next) rfl F S (.of .refl G ok.apart) ad⟩
theorem SJ (bu:hE c i aq nm aC gj)(aA:mF c ae i aq nm body h1)(aw:mF c ae i aq nm lc iq):jl c ae i aq nm (.If aC body lc pos) λaH R=>gj (h1 aH R) (iq aH R):=by
 refine⟨λW af bq am I s R j aH L ok aF G h F S ad=>?_⟩;refine wpAny_If<|po (bu.r W af am I s _ _ _ [] _ L h F S ad) (λv aT A=>eK A λau a0 U aI=>?_) λq q e=>e;have f:=G.bT (λq q=>id) U;have a:fE (Own af) (cR bq) I s au aT:=.of U.hT G ok.apart;clear A;cases v with
 |true=>refine J (if_pos rfl) ?_;exact po (aA.r W af bq am au aT R j aH L ok aF f h (F.bT U) a0 aI) (lK.trans a)<|mE.trans a
 |false=>refine J (if_neg<|by decide) ?_;exact po (aw.r W af bq am au aT R j aH L ok aF f h (F.bT U) a0 aI) (lK.trans a)<|mE.trans a
abbrev oI (ae:Addr)(aH:fq)(m:hX)(R:aI):aI:=λk am S I=>m S λaa S=>dq S λu S=>hi u λf=>jj k.c ae k.d (.ref f) aa (λu Z=>R k am (u::S) Z) (λas Z=>aH as am Z) I
variable{ig:fq}
theorem yd (aU:c.Ok)(hf:bA c b aq nm (.Name w pos) cy)(aE:gY c b aq nm ah aZ)(aP:jC ah) (L:e9 bo b)(ok:kk af bq)(aF:bo.frames=kZ (af::bq))(G:Frs c bq I s.heap)(h:e1 c af aq nm)(F:cm af nm am I s.heap)(S:a9 c I s)(ad:cy (cf<|aZ<|oI ae ig (eL ah.length []) k9) ⟨c,b,k0⟩ am e7 I): pn c.M bo (eval (.Call (.Name w pos) ah [] cL) af) (λv ay=>∃u Z,u.is v/\cm af nm am Z ay.heap/\a9 c Z ay/\fE (Own af) (cR bq) I s Z ay/\k9 ⟨c,b,k0⟩ am (u::e7) Z) (mE c ae af nm bq I s ig) s:=by refine hr ?_;intro D;intros bs;refine pg<|po (hf.r bo af am I s _ _ _ _ L h F S ad) (λv aT A=>cq A λu au aQ a0 U m=>?_) λq q e=>e;refine eK (eP m) λf p ap aI=>?_;clear m;replace aQ:=p▸aQ;refine J aQ<|callWith_of (P:=λC=>c.K.In C) (by refine J (aP _ _) ?_;rfl) (keeps_K ap)<|sS (aP _ _)<|po (aE.r bo af am au aT _ _ _ _ cL L h (F.bT U) a0 aI) (λag ay A=>gi A λaa Z aX ar O an av=>⟨aU.gE.keeps ar.keep,?_⟩) λq q e=>e;replace av:=m4 (P:=λaa S=>dq S λu S=>hi u λf=>jj c ae b (.ref f) aa (λu Z=>k9 ⟨c,b,k0⟩ am (u::S) Z) (λas Z=>ig as am Z) Z) an av;have aR:=U.trans O;have g:=F.bT aR;have ab:fE (Own af) (cR bq) I s Z ay:=.of aR.hT G ok.apart;refine wpAny_call<|av bo (af::bq) ay (.ref f) ag _ L aF ((G.bT (λq q=>id) aR).push ok h g) ar rfl aX (λv H A=>cq A λu aS aQ ak y X=>⟨u,aS,aQ,g.rI ok h y,ak,ab.trans<|y.inner ok,X⟩) λv H A=>j8 A λe d as aS aB=>hO aB λev y bb=>?_;exact(⟨e,d,as,am,aS,ev,(y.inner ok).trans ab,g.rI ok h y.bT,bb⟩)
abbrev vA (ae:Addr)(aH:fq)(m:hX)(R:aI):aI:=oI ae aH m<|b0 R
theorem SI (aU:c.Ok)(hf:bA c b aq nm (.Name w fb) cy)(aE:gY c b aq nm ah aZ)(aP:jC ah)(ax:∀af,nr (.Call (.Name w fb) ah [] cL) By pos.line af=pure false): jl c ae b aq nm (.Expr (.Call (.Name w fb) ah [] cL) pos) λaH R=>cy (cf<|aZ<|vA ae aH (eL ah.length []) R):=by
 refine⟨λW af bq am I s R j aH L ok aF G h F S ad=>?_⟩;have aL:interactive af=false:=by obtain⟨dc,ap,-,-,-,-,-,-,-⟩:=h;unfold interactive;refine J dc<|J ap ?_;rfl
 refine J (exec_Expr af _ pos aL<|ax af)<|sg<|nt<|sg<|po (yd aU hf aE aP L ok aF G h F S ad) (λv aT A=>gi A λu au aQ ba a0 U aI=>?_) λq q e=>e;exact wpAny_dropValue<|pP (k:=.next) rfl ba a0 U aI
theorem SN (aU:c.Ok)(hf:bA c b aq nm (.Name w fb) cy)(aE:gY c b aq nm ah aZ)(aP:jC ah):jl c ae b aq nm (.Return (kZ<|.Call (.Name w fb) ah [] cL) pos) λaH q=>cy (cf<|aZ<|oI ae aH (eL ah.length []) bf):=by refine⟨λW af bq am I s R j aH L ok aF G h F S ad=>?_⟩;exact wpAny_Return_some<|po (yd aU hf aE aP L ok aF G h F S ad) (λv aT A=>gi A λu au aQ ba a0 U aI=>pP (k:=.ret u) (bb v rfl aQ) ba a0 U aI) λq q e=>e
def kn (C:Heap)(e T:Addr):Prop:=∃ag o,C.get? e=kZ o/\o.data=.fields ag/\ag[1]?=kZ (.ref T)
structure xz (c:cz)(ae:Addr)(fr:List Addr)(I:az)(e d:Addr)(as:List (Str×V))(C av:Heap):Prop where
 exc:Exc c ae av I e d as
 same:∀b o,b≠e->b∉fr->¬ kn C e b->C.get? b=kZ o->av.get? b=kZ o
 slots:∀b o,b∈fr->C.get? b=kZ o->∃cw,av.get? b=kZ {o with slots:=cw}
 live:∀b o,C.get? b=kZ o->∃q,av.get? b=kZ q
 rq:∀T,kn av e T->C.get? T=By
theorem GR (aF:bo.frames=kZ (af::bq))(F:Frs c (af::bq) I s.heap)(S:a9 c I s)(hf:af.frame=kZ a)(aH:Exc c ae s.heap I l cl a1)(hd:cl∉cR (af::bq)) (C:∀av,xz c ae (cR<|af::bq) I l cl a1 s.heap av->fc () {s with heap:=av}):pn c.M bo (noteFrame (.ref l) af) (λq ay=>pn c.M bo (r7 (.ref l) By) fc E ay) E s:=by
 refine bP λbz aN=>?_;obtain⟨⟨ag,cw,he,D⟩,⟨m,⟨j,ah,aR,g,e,v⟩,has⟩,lv,mi,lW,based⟩:=aH;refine aN ?_;have b0:cl≠l:=λX=>by replace g:=he▸X▸g;cases g;cases e
 have r:∀T,s.heap.get? T=By->I T=By/\c.base.get? T=By:=λT D=>by
  constructor
  ·cases X:I T with
   |none=>rfl
   |some o=>obtain⟨b4,aW⟩:=(S.rep T o X).there;replace aW:=D▸aW;exact bY aW
  ·cases X:c.base.get? T with
   |none=>rfl
   |some o=>replace D:=(S.keep T o X)▸D;exact g4 D
 have L:∀b∈cR (af::bq),b≠l/\∀ag o,s.heap.get? b=kZ o->o.data≠.fields ag:=λb aA=>by refine dp (F.mem aA) λq aB=>cO aB λo az=>dp az λaw aO=>⟨λX=>?_,λag q bt=>by replace bt:=aw▸bt;cases bt;exact aO ag⟩;replace aw:=he▸X▸aw;cases aw;exact aO ag rfl
 rcases D with ai|aM
 ·refine Wy aF F.nP hf he rfl ai λav T E=>C av<|bP λbz aN=>?_;obtain⟨d,⟨aa,bV,aC,am,P⟩,ap,u,p⟩:=E;refine aN ?_;have aK:=(BA.mp ai).1;have ak:T≠l:=λX=>by replace ap:=he▸X▸ap;exact g4 ap
  refine⟨⟨(e5 _ _ d<|.inr<|AZ T aa bV (by simp[aK]) ak aC am P (r T ap).1 (r T ap).2),(bb m (g6 j ah aR (u _ _ b0 hd g) e v) has),lv,mi,lW,based⟩,λb o x y q z=>u b o x y z,λb o x z=>p b o (L b x).1 z,λb o z=>?_,λaZ A=>gG A λbc q aJ a4 bx=>?_⟩
  ·by_cases X:b=l
   ·refine J X ?_;exact⟨_,d⟩
   ·obtain⟨cw,ax⟩:=p b o X z;exact⟨_,ax⟩
  ·replace aJ:=d▸aJ;cases aJ;cases a4;simp[aK] at bx;refine a6 bx ?_;exact ap
 ·refine rB aM λT aa bV ai ak k h a7 N G=>?_;clear aM;refine Wz aF F.nP hf he rfl ai ak k h a7 λR av aZ B A E=>cO A λb4 i=>C av<|bP λbz aN=>?_;obtain⟨d,⟨Q,U,aC,am,P⟩,ap,u,p⟩:=E;refine aN ?_;have aK:=(BA.mp ai).1;have t:s.heap.get? aZ=By:=by
   by_cases X:aZ=T
   ·replace ap:=i▸X▸ap;exact g4 ap
   ·refine a6 (B.2 aZ X) ?_;exact ap
  have O:aZ≠l:=λX=>by replace t:=he▸X▸t;exact g4 t
  have f:∀b o,b≠T->s.heap.get? b=kZ o->R.get? b=kZ o:=λb o aA z=>(B.2 b aA).trans z;have H:cl≠T:=λX=>by replace g:=k▸X▸g;cases g;replace e:=h▸e;cases e
  refine⟨⟨⟨_,_,d,.inr ⟨aZ,Q,U,by simp[aK],O,aC,am,P,(r aZ t).1,(r aZ t).2⟩⟩,⟨m,⟨j,ah,aR,u _ _ b0 hd<|f _ _ H g,e,v⟩,has⟩,lv,mi,lW,based⟩,λb o x y z w=>u b o x y<|f _ _ (λX=>z ⟨ag,_,he,rfl,by refine J X ?_;exact ai⟩) w,λb o x z=>p b o (L b x).1<|f _ _ (λX=>(L b x).2 bV aa (by refine J X ?_;exact k) h) z,λb o z=>?_,λV A=>gG A λbc q aJ a4 bx=>?_⟩
  ·by_cases X:b=l
   ·refine J X ?_;exact⟨_,d⟩
   ·by_cases aS:b=T
    ·obtain⟨cw,ax⟩:=p T b4 ak i;refine J aS ?_;exact⟨_,ax⟩
    ·obtain⟨cw,ax⟩:=p b o X<|f _ _ aS z;exact⟨_,ax⟩
  ·replace aJ:=d▸aJ;cases aJ;cases a4;simp[aK] at bx;refine a6 bx ?_;exact t
theorem jm.note (ok:kk af bq)(y:jm c ae bq (Own af) I s Z ay l cl a1)(G:Frs c (af::bq) Z ay.heap)(N:xz c ae (Mine.cR<|af::bq) Z l cl a1 ay.heap av): jm c ae bq (Own af) I s Z {ay with heap:=av} l cl a1:=by
 refine jA ?_;intro h;have aI:=pQ ok;refine dw (y.exc.exc) λag cw he D=>?_;have Ko:∀T,kn ay.heap l T->s.heap.get? T=By:=λT A=>gG A λag o a b cl=>y.rq ag o T a b cl;have kK:∀b o,b≠l->b∉Mine.cR (af::bq)->(kn ay.heap l b->False)->ay.heap.get? b=kZ o->av.get? b=kZ o:=N.same;have e:∀T,kn ay.heap l T->Z T=By/\c.base.get? T=By:=λT A=>gG A λbc o a b cl=>by
  replace a:=he▸a;cases a;cases b;rcases D with C|aM
  ·replace cl:=C▸cl;cases cl
  ·refine rB aM λaZ q q C q q q q ai ao=>?_;clear aM;replace cl:=C▸cl;cases cl;exact⟨ai,ao⟩
 refine⟨⟨λb o aA=>kK b o (λX=>?_) (λX=>?_) (λX=>?_)<|y.sim.keep b o aA,λb o aA=>(y.sim.rep b o aA).mono λb4 i=>kK b b4 (λX=>?_) (λX=>?_) (λX=>?_) i,y.sim.new,y.sim.gens,y.sim.os⟩,N.exc,⟨(Frs.keep G.nP N.slots).2.2,y.cR.off⟩,y.rr,y.p3,λag o T a b cl=>?_,⟨λa o ai ao a7 bR=>kK a o (λX=>?_) (λX=>?_) (λX=>?_)<|y.bT.em a o ai ao a7 bR,λa o aE bR=>?_,λa o bR=>?_,y.bT.fresh⟩⟩
 ·replace aA:=y.exc.lW▸X▸aA;exact bY aA
 ·replace aA:=(G.mem X).1▸aA;exact bY aA
 ·replace aA:=(e b X).2▸aA;exact bY aA
 ·replace aA:=y.exc.lv▸X▸aA;exact bY aA
 ·replace aA:=(G.off b X)▸aA;exact bY aA
 ·replace aA:=(e b X).1▸aA;exact bY aA
 ·have:=N.rq T<|dM ag o a b cl;cases X:s.heap.get? T with
  |none=>rfl
  |some o=>obtain⟨q,aW⟩:=y.bT.live T o X;replace aW:=this▸aW;exact bY aW
 ·replace bR:=y.rr▸X▸bR;exact bY bR
 ·replace X:=aI▸X;rcases Q8.mp X with X|X
  ·exact ai (by refine J X ?_;exact .head _)
  ·exact ao X
 ·replace bR:=(Ko a X)▸bR;exact bY bR
 ·obtain⟨cw,dy⟩:=y.bT.slots a o aE bR;obtain⟨d,eS⟩:=N.slots a _ (by refine J aI ?_;exact .tail _ aE) dy;exact⟨d,eS⟩
 ·obtain⟨q,dy⟩:=y.bT.live a o bR;exact N.live a q dy
variable{iv:List Addr}
theorem fE.pop (ad:∀a∈addrs af,s.heap.get? a=By)(H:∀b o,s.heap.get? b=kZ o->aT.heap.get? b=kZ o)(y:fE (Own af) iv I aT Z ay):fE cp iv I s Z ay:= ⟨λa o q C z g=>y.em a o (λX=>by replace g:=(ad a X)▸g;exact bY g) C z<|H a o g,λa o C g=>y.slots a o C<|H a o g,λa o g=>y.live a o<|H a o g,λa o g z=>y.fresh a o (H a o g) z⟩
theorem jm.pop (ad:∀a∈addrs af,s.heap.get? a=By)(H:∀b o,s.heap.get? b=kZ o->aT.heap.get? b=kZ o)(y:jm c ae bq (Own af) I aT Z ay l cl a1):jm c ae bq cp I s Z ay l cl a1:=by
 have r:∀a,aT.heap.get? a=By->s.heap.get? a=By:=λa C=>by
  cases X:s.heap.get? a with
  |none=>rfl
  |some o=>replace C:=(H a o X)▸C;exact g4 C
 exact⟨y.sim,y.exc,y.cR,r _ y.rr,r _ y.p3,λag o T a b cl=>r _<|y.rq ag o T a b cl,y.bT.pop ad H⟩
variable{er:uB}
theorem Gb {gq:List V}(aU:c.Ok)(hf:k4 c l names c1 body aq)(ax:nz aq names nm)(aA:mF c ae b aq nm body h1) (ah:bV gq c1)(an:aa.length+gq.length=names.length)(T:h1 (λas q Z=>er as Z) bv (dI c b ab) (aa++gq++dr (nm.length -names.length) .aK) [] I):jj c ae (b+1) (.ref l) aa ab er I:=by
 intro W bq s dD ag R L aF G S m aX P bb;refine uQ aU hf ax ah an L S m aX λaf aI cr h F a0 am ad H p=>codeAny_func<|fw ?_;intro j;refine hr ?_;intro g;have ok:kk af bq:=⟨am,λa aE X=>by obtain⟨_,o,e,_⟩:=G.mem aE;replace e:=(ad a X)▸e;exact bY e⟩;have i:(W.deeper af).frames=kZ (af::bq):=by refine(?_:W.frames.map (af:: ·)=_);refine J aF ?_;rfl
 have f:Frs c bq I aI:=⟨Frs.keep G.nP λa o q e=>⟨o.slots,H a o e⟩,G.off⟩;refine po (aA.r (W.deeper af) af bq _ I _ _ _ _ p ok i f h F a0 T) (λkv ay A=>mh A λk B Z ap ai ar O X=>?_) λv ay A=>g1 A λe d as B Z aB=>i7 aB λaV y ai X=>?_
 ·have U:=O.pop ad H;cases k with
  |next=>refine J ap ?_;exact P _ _ ⟨.none,Z,rfl,ar,U,X⟩
  |brk=>exact X.elim
  |cont=>exact X.elim
  |ret u=>obtain⟨v,rfl,aV⟩:=ap;exact P _ _ ⟨u,Z,aV,ar,U,X⟩
 ·refine J aV ?_;have bN:=y.cR.push ok h ai;have hd:d∉cR (af::bq):=λhm=>by
   replace hm:=(pQ ok)▸hm;rcases Q8.mp hm with hm|hm
   ·obtain⟨o,e⟩:=F.live _<|.head _;have:=y.p3;rw[hm] at this;rw[show(({s with heap:=aI,toks:=cr}:eN).heap.get? af.locals)=kZ o from e] at this;exact g4 this
   ·obtain⟨_,o,e,_⟩:=f.mem hm;have:=y.p3;rw[show(({s with heap:=aI,toks:=cr}:eN).heap.get? d)=kZ o from e] at this;exact g4 this
  exact UA<|GR i bN y.sim ok.own y.exc hd λav N=>bb _ _ ⟨e,d,as,Z,rfl,(y.note ok bN N).pop ad H,X⟩
noncomputable abbrev hl:List a3:=[.type "Exception",.type "BaseException",.type "object"]
variable{eP:List a3}{N:Addr}{dq co cW en ev:Option a3}{os:OsState}{prog:Program}{hX:Fin->eN->Prop}{hi:Option Bool}{U:Drawn}{bW:Option Addr}{a4:Array GenState}{gC:Str}{gn:World}
theorem Rc (H:C.get? ae=kZ (aa9 name gC ae N bE hl true ch c1 cD hi bW dq co cW en ev "Exception.__new__"))(aO:C.Ns N fL)(S:fL "__init__"=kZ (.ref a))
 (aA:∀self,Looks (model prog gn) C (bindSpecial (.ref a) self) (.ref a,[self]))(c:eP.length<=gW)
 (ad:br (model prog gn) bo (.call (.ref a) ⟨.ref (C.objs.size+1)::eP,[]⟩) (λr ay=>match r with
  |.ok (.ret v)=>v=.none/\hX (.done<|.ret<|.ref<|C.objs.size+1) ay
  |.ok _=>False
  |.error e=>E e ay) ⟨((C.push {cls:=.type "tuple",data:=.seq eP.toArray}).push {cls:=.ref ae,data:=.fields #[.ref C.objs.size,.none,.none,.none,.bool false,.none]}),a4,U,i,os⟩):pn (model prog gn) bo (Builtin.«type.__call__» ⟨.ref ae::eP,[]⟩) hX E ⟨C,a4,U,i,os⟩:=by
 have jP:=PySem.F.excBase_Exception
 repeat(first|with_reducible refine aba H ?_|with_reducible refine wpAny_madeBy_exc H ?_|wp_step)
 refine codeAny_call_builtin_code (abb _ jP.quiet)<|wpAny_check_new_sub jP H ?_
 refine codeAny_exc_new_sub jP H ?_ c
 refine(?_:pn _ _ _ _ _ _)
 have f:∀b o,C.get? b=kZ o->((C.push {cls:=.type "tuple",data:=.seq eP.toArray}).push {cls:=.ref ae,data:=.fields #[.ref C.objs.size,.none,.none,.none,.bool false,.none]}).get? b=kZ o:=λb o e=>sh _<|sh _ e
 have d:=f _ _ H
 have g:((C.push {cls:=.type "tuple",data:=.seq eP.toArray}).push {cls:=.ref ae,data:=.fields #[.ref C.objs.size,.none,.none,.none,.bool false,.none]}).Ns N fL:=fg aO λo ah aR e r=>⟨o,ah,aR,f _ _ e,r⟩
 have j:((C.push {cls:=.type "tuple",data:=.seq eP.toArray}).push {cls:=.ref ae,data:=.fields #[.ref C.objs.size,.none,.none,.none,.bool false,.none]}).get? (C.objs.size+1)=kZ {cls:=.ref ae,data:=.fields #[.ref C.objs.size,.none,.none,.none,.bool false,.none]}:=by heap_get
 have h:(im ae::hl).contains (.ref ae)=true:=by simp
 unfold isInstance
 repeat(first|with_reducible refine aba j ?_|(with_reducible refine wpAny_isSubtype_exc d ?_;refine J h ?_)|wp_step)
 refine(?_:pn _ _ (wX (.ref ae) _) _ _ _)
 refine LD d g jP.mroIs jP.init.lookup<|J S ?_
 have t:=(aA<|.ref<|C.objs.size+1).keeps f
 repeat(first|with_reducible refine wpAny_call ?_|lk|wp_step)
 refine codeAny_mono ad λr ay z=>?_
 rcases r with e|(v|_|_|_)<;>first|exact z|exact z.elim|skip
 obtain⟨rfl,z⟩:=z
 exact mB<|mB z
theorem Rf (H:C.get? ae=kZ (aa9 name gC ae N bE hl true ch c1 cD hi bW dq co cW en ev "Exception.__new__"))(aO:C.Ns N fL)(S:fL "__init__"=kZ (.ref a)) (aA:∀self,Looks (model prog gn) C (bindSpecial (.ref a) self) (.ref a,[self]))(c:eP.length<=gW) (ad:br (model prog gn) (bo.under<|.builtin "type.__call__" ⟨.ref ae::eP,[]⟩) (.call (.ref a) ⟨.ref (C.objs.size+1)::eP,[]⟩) (InitBack (C.objs.size+1) R) ⟨((C.push {cls:=.type "tuple",data:=.seq eP.toArray}).push {cls:=.ref ae,data:=.fields #[.ref C.objs.size,.none,.none,.none,.bool false,.none]}),a4,U,b,os⟩):br (model prog gn) bo (.call (.ref ae) ⟨eP,[]⟩) R ⟨C,a4,U,b,os⟩:=by
 have i:=tc_lookup;have f:=tc_bind<|.ref ae;have D:(⟨C,a4,U,b,os⟩:eN).TypeIs (.ref ae) "type":=(bb _ H rfl);refine codeAny_of_tree<|(?_:pn _ _ (callAny (.ref ae) _) _ _ _);repeat(any_goals(first|assumption|with_reducible refine aba H ?_|wp_step))
 refine⟨rfl,?_⟩;refine codeAny_call_builtin_at (abb _<|by decide+kernel) entry_typeCall<|wpAny_check_type_call_sub H<|Rc H aO S aA c<|codeAny_mono ad λr ay z=>?_;rcases r with e|(v|_|_|_)<;>first|exact z|exact z.elim|skip
structure pr (c:cz)(ae N bo:Addr):Prop where
 obj:∃nm X bE ch sub hg aD bk dq co cW en ev,c.K.lookup ae=kZ (aa9 nm X ae N bE hl true ch sub hg aD bk dq co cW en ev "Exception.__new__")
 ns:∃m,c.base.Ns N m/\m "__init__"=kZ (.ref bo)/\m "__setattr__"=By/\m "__getattribute__"=By/\m "__getattr__"=By/\m "symbol"=By/\m "data"=By
 typ:typeIn c.K (.ref bo)=kZ (.type "function")
 keep:mz c.K (.ref ae)=true
theorem cm.but (F:cm af nm am I C)(ap:∀a∈addrs af,∀o,C.get? a=kZ o->av.get? a=kZ o):cm af nm am I av:=by
 refine bP λbz aN=>?_;obtain⟨⟨m,d,aO,aU,aV⟩,an,aw,aj⟩:=F;refine aN<|⟨(dM m d ?_ (λz k e=>?_) aV),an,aw,λp aP=>?_⟩
 ·refine fg aO λo ah aR e r=>?_;clear aO;exact(i9 o ah aR (ap _ (.head _) o e) r)
 ·exact bg (aU z k e) λo aW r=>(bb o (ap k (.tail _<|yB.mpr<|bb ((z,k)) (mem_of_lookup e) rfl) o aW) r)
 ·obtain⟨o,e⟩:=aj p aP;exact⟨o,ap _ (.tail _<|yB.mpr<|bb p aP rfl) o e⟩
theorem a9.but {P:Addr->Prop}(S:a9 c I s)(ap:∀a o,¬ P a->s.heap.get? a=kZ o->ay.heap.get? a=kZ o)(b:∀a,P a->I a=By)(aA:∀a,P a->c.base.get? a=By)(bt:ay.gens=s.gens)(aw:ay.os=s.os):a9 c I ay:= ⟨λa o e=>ap a o (λX=>by replace e:=(aA a X)▸e;exact bY e)<|S.keep a o e,λa o e=>(S.rep a o e).mono λb4 X=>ap a b4 (λp=>by replace e:=(b a p)▸e;exact bY e) X,S.new,bt.trans S.gens,aw.trans S.os⟩
theorem vU (L:e9 bo b)(h:e1 c af aq nm)(F:cm af nm am I s.heap)(S:a9 c I s)(aL:nm[i]?=kZ name)(hd:(name==("__debug__":Str))=false)(aQ:fX am i=u)(bg:u=.aK->False) (C:∀v aT,u.is v->a9 c I aT->bG cp I s I aT->f2 v aT):pn c.M bo (eval (.Name name pos) af) f2 E s:= po ((GV i aL hd).r bo af am I s (λq q ar Z=>ar=[u]/\Z=I) ⟨λq q=>True,λq q=>True,λq q=>True⟩ [] E L h F S<|WH (by refine J aQ ?_;exact bg) ⟨congrArg (λname=>[name]) aQ,rfl⟩) (λv aT A=>gi A λw Z a1 ar O e aW=>by replace e:=(BF.inj e).1;replace C:=(g7 e)▸C;replace O:=(g7 aW)▸O;replace C:=(g7 aW)▸C;exact C v aT a1 ar O) λq q e=>e
variable{hh:Str->Option a3}
theorem Rn {ns:List Str}(aU:c.Ok)(aC:pr c ae N a)(S:a9 c I s)(Q:∀m:Str->Option a3,m "symbol"=By->m "data"=By->m w=By)(x:wX (.type "Exception") w=pure By) (he:I l=By)(aA:c.base.get? l=By)(a4:s.heap.Inst l ae hh)(a1:Within hh ns)(aK:ns.length<=gW) (C:∀ay,ay.heap.Inst l ae (λy=>if y=w then kZ v else hh y)->(∀b o,b≠l->(∀bl U,s.heap.get? l=kZ bl->bl.dict=kZ U->b≠U)->s.heap.get? b=kZ o->ay.heap.get? b=kZ o)-> (∀bl,s.heap.get? l=kZ bl->∃J,ay.heap.get? l=kZ J/\J.cls=bl.cls/\J.data=bl.data/\J.slots=bl.slots/\∀U,bl.dict=kZ U->J.dict=kZ U)->ay.gens=s.gens->ay.os=s.os->fc () ay):pn c.M bo (setAttr (.ref l) w v) fc E s:=by refine bP λbz aN=>?_;obtain⟨⟨fJ,X,bE,ch,sub,hg,aD,bk,dq,co,cW,en,ev,aw⟩,⟨m,G,dP,bt,Z,an,ar,aL⟩,bu,-⟩:=aC;have H:=aU.gE.keeps S.keep _ _ aw;have aj:s.heap.Ns N m:=G.keeps S.keep;obtain⟨B,g,d,t,os⟩:=s;refine aN<|store_attr PySem.F.store_Exception H aj bt (Q m ar aL) x (λX=>?_) a4 (λav f e ap P=>C ⟨av,g,d,f,os⟩ e ap P rfl rfl) a1 aK;replace aA:=(aU.gE _ _ aw)▸X▸aA;exact g4 aA
def xV (C:Heap)(x:Addr)(o:Obj)(name:Str)(v:a3)(av:Heap):Prop:=∃D,C.get? D=By/\av.get? x=kZ {o with dict:=kZ D}/\av.Ns1 D (λy=>if y=name then kZ v else By)/\(∀b b4,b≠x->C.get? b=kZ b4->av.get? b=kZ b4)
variable{o:Obj}{aW:String}
theorem Rg {h:Str}(c:StoreFacts "Exception" hl aW l0)(H:C.get? ae=kZ (aa9 gC h ae N bE hl true ch c1 cD hi bW dq co cW en ev h3))(aO:C.Ns N fL)(a6:fL name=By)(x:wX (.type "Exception") name=pure By) (Q:C.get? a=kZ o)(aU:o.cls=.ref ae)(d:o.dict=By)(bs:o.data=.fields ag) (ad:∀av f,xV C a o name v av->hX (.done<|.ret .none) ⟨av,a4,U,f,os⟩): pn (model prog gn) bo (Builtin.«object.__setattr__» ⟨[.ref a,.str name ku,v],[]⟩) hX E ⟨C,a4,U,i,os⟩:=by
 have n:=c.passes<|.ref a;unfold Builtin.«object.__setattr__»;repeat(first|rw[refuse_eq]|(rw[refuseLoop_ref,n])|(with_reducible refine aba Q ?_;refine J aU ?_)|with_reducible refine wpAny_mroOf_exc H ?_|(with_reducible refine LD H aO c.mro x ?_;refine J a6 ?_)|wp_step)
 intros V;refine J d<|J (if_neg<|by simp[typeHasDict]) ?_;split
 ·rename_i D;exact bY D
 split
 ·rename_i k D;rw[bs] at D;cases D
 have g:(C.push {cls:=.type "dict",data:=.dict #[]}).get? a=kZ o:=sh _ Q;have p:a≠C.objs.size:=eB<|acg Q;refine sg<|wpAny_alloc' ?_;refine sg<|wpAny_update' g ?_;refine fw ?_;intro r;refine mB ?_;have A:((C.push {cls:=.type "dict",data:=.dict #[]}).update a λo=>{cls:=o.cls,dict:=kZ C.objs.size,data:=o.data,slots:=o.slots}).Ns C.objs.size (λq=>By):= (⟨_,(#[]),_,((Bw _ _ _ _ p.symm).trans<|Heap.get?_push_at rfl rfl),rfl,(λe he=>absurd he<|by simp),(λq=>rfl)⟩);refine(?_:pn _ _ (w5 C.objs.size (.str name ku) name v) _ _ _);unfold w5 Builtin.ObjectAttr.newKeyGuard;refine sg<|mB<|sg<|wpAny_nsSet1 (Heap.Ns1.of_empty A) λav T ax=>?_;refine bP λbz aN=>tz (T.count<|nj name v abc) λbd y w b8 u t=>aN<|sg<|wpAny_lookBehind b8 (by refine J u ?_;exact pastItsLine_dict<|nf t<|by refine J hC<|J uc<|J wT ?_;exact j5 3637043073) ?_;have aF:=(Heap.get?_some_iff.mp Q).2;have fin:av.get? a=kZ {o with dict:=kZ C.objs.size}:=by refine(ax.2 a p).trans<|aaS _ g ?_;clear ad n;obtain⟨l,j,m,B⟩:=o;clear Q aU d bs g;cases m<;>first|rfl|exact aF
 wp_walk;exact ad av _<|kR C.objs.size (Heap.get?_none_of_le<|nu _) fin T λb b4 s aA=>(ax.2 b<|eB<|acg aA).trans<|(Bw _ _ _ _ s).trans<|sh _ aA
theorem Rd {h:Str}(c:StoreFacts "Exception" hl aW l0)(H:C.get? ae=kZ (aa9 gC h ae N bE hl true ch c1 cD hi bW dq co cW en ev h3))(aO:C.Ns N fL)(a6:fL name=By)(x:wX (.type "Exception") name=pure By) (Q:C.get? a=kZ o)(aU:o.cls=.ref ae)(d:o.dict=By)(bs:o.data=.fields ag) (ad:∀av f,xV C a o name v av->R (.ok<|.ret .none) ⟨av,a4,U,f,os⟩): br (model prog gn) bo (.call (.builtin aW) ⟨[.ref a,.str name ku,v],[]⟩) R ⟨C,a4,U,e,os⟩:= codeAny_call_builtin c.slot.plain c.entry<|wpAny_check_sa c H Q aU<|Rg c H aO a6 x Q aU d bs ad
theorem Ro {h:Str}(c:StoreFacts "Exception" hl aW l0)(H:C.get? ae=kZ (aa9 gC h ae N bE hl true ch c1 cD hi bW dq co cW en ev h3))(aO:C.Ns N fL)(aA:fL "__setattr__"=By)(a6:fL name=By)(x:wX (.type "Exception") name=pure By) (Q:C.get? a=kZ o)(aU:o.cls=.ref ae)(d:o.dict=By)(bs:o.data=.fields ag) (ad:∀av f,xV C a o name v av->fc () ⟨av,a4,U,f,os⟩): pn (model prog gn) bo (setAttr (.ref a) name v) fc E ⟨C,a4,U,e,os⟩:=by
 have g:=c.slot.bind<|.ref a;unfold setAttr callSpecial? specialOf;repeat(any_goals(first|assumption|(with_reducible refine aba Q ?_;refine J aU ?_)|(with_reducible refine LD H aO c.mro c.slot.lookup ?_;refine J aA ?_)|wp_step))
 refine Rd c H aO a6 x Q aU d bs λav f ap=>?_;repeat(any_goals(first|assumption|wp_step))
 exact ad av f ap
structure xy (c:cz)(ae:Addr)(I:az)(s ay:eN)(e d:Addr)(as:List (Str×V)):Prop where
 sim:a9 c I ay
 bT:bG cp I s I ay
 exc:∃t cw,ay.heap.get? e=kZ ⟨.ref ae,kZ d,.fields #[t,.none,.none,.none,.bool false,.none],cw⟩
 dict:∃m,ay.heap.Ns1 d m/\Ck as m
 rr:s.heap.get? e=By
 p3:s.heap.get? d=By
noncomputable abbrev n3:List Str:=["self","symbol","data"]
theorem wr (S:a9 c I s)(C:s.heap.get? a=By):I a=By:=by
 cases X:I a with
 |none=>rfl
 |some o=>obtain⟨b4,e⟩:=(S.rep a o X).there;rw[C] at e;exact bY e
variable{aW:V}
theorem Rl (aU:c.Ok)(aC:pr c ae N l)(hf:k4 c l n3 [] body aq)(ax:nz aq n3 n3) (aA:body=[.Assign [.Attribute (.Name "self" el) "symbol" pos] (.Name "symbol" cL) fb,.Assign [.Attribute (.Name "self" h4) "data" gU] (.Name "data" fD) lx]) (bp:∀af,nr (.Name "symbol" cL) (kZ<|.Attribute (.Name "self" el) "symbol" pos) fb.line af=pure false)(bM:∀af,nr (.Name "data" fD) (kZ<|.Attribute (.Name "self" h4) "data" gU) lx.line af=pure false) (L:e9 bo (j+2))(S:a9 c I s)(aX:bV [ak,aW] c1) (C:∀e d ay,xy c ae I s ay e d [("symbol",ak),("data",aW)]->R (.ok<|.ret<|.ref e) ay):br c.M bo (.call (.ref ae) ⟨c1,[]⟩) R s:=by
 obtain⟨B,g,k,t,os⟩:=s;refine fw ?_;intro cd;have b7:=aC;obtain⟨⟨fJ,X,bE,ch,sub,hg,aD,bk,dq,co,cW,en,ev,aw⟩,⟨fL,G,dP,bt,Z,an,ar,aL⟩,bu,cs⟩:=aC;have bZ:=aU.gE.keeps S.keep;have b4:ak≠.aK:=λe=>by replace aX:=e▸aX;replace C:=e▸C;cases c1 with|nil=>exact aX|cons _ _=>exact aX.1
 have b5:aW≠.aK:=λe=>by replace aX:=e▸aX;replace C:=e▸C;refine gG (oN aX) λx r O q ao=>?_;replace aX:=O▸aX;cases r with|nil=>exact ao|cons _ _=>exact ao.1
 have bF:c1.length=2:=aX.length.symm;obtain⟨au,az,aG⟩:=L;have aj:B.Ns N fL:=G.keeps S.keep;refine Rf (bZ _ _ aw) aj dP (λself=>bind_fn bZ self bu) (by refine J bF<|J wT ?_;decide) ?_;refine jA ?_;intro ct;have aP:=S.push {cls:=.type "tuple",data:=.seq c1.toArray};have aB:=aP.push {cls:=.ref ae,data:=.fields #[.ref B.objs.size,.none,.none,.none,.bool false,.none]};have av:bG cp I ⟨B,g,k,t,os⟩ I ⟨B.push {cls:=.type "tuple",data:=.seq c1.toArray},g,k,t,os⟩:=bG.push _;have bq:bG cp I ⟨B,g,k,t,os⟩ I ⟨(B.push {cls:=.type "tuple",data:=.seq c1.toArray}).push {cls:=.ref ae,data:=.fields #[.ref B.objs.size,.none,.none,.none,.bool false,.none]},g,k,t,os⟩:=av.trans<|bG.push _;generalize b8:(B.push {cls:=.type "tuple",data:=.seq c1.toArray}).push {cls:=.ref ae,data:=.fields #[.ref B.objs.size,.none,.none,.none,.bool false,.none]}=ao at aB bq⊢;have ge:ao.get? (B.objs.size+1)=kZ {cls:=.ref ae,data:=.fields #[.ref B.objs.size,.none,.none,.none,.bool false,.none]}:=by refine a6 b8 ?_;heap_get
 have ne:B.get? (B.objs.size+1)=By:=mP _<|Bv _;generalize B.objs.size+1=e at ge ne⊢;generalize B.objs.size=bO at ge⊢;have V:I e=By:=wr S ne;have a3:c.base.get? e=By:=kq S ne;refine uQ (n:=j) (aa:=[.ref e,ak,aW]) (gq:=[]) aU hf ax trivial rfl ⟨?_,?_,aG⟩ aB rfl ⟨rfl,aX⟩ λaf aI cr h F a0 am ad H p=>codeAny_func ?_
 ·have:rZ (.builtin "type.__call__" ⟨.ref ae::c1,[]⟩)=1:=by ext
  refine(?_:bo.depth+rZ _+2*(j+1)+4<=_);exact bS 4665367893410231335373887190310268380159969409 au this
 ·have:Bz (.builtin "type.__call__" ⟨.ref ae::c1,[]⟩)=1:=by ext
  refine(?_:bo.units+Bz _+20*(j+1)+100<=_);exact bS 4665329781785136279397662112831165359918712961 az this
 refine fw ?_;intro cu;refine hr ?_;intro cv;intros cw;change cm af n3 [.ref e,ak,aW] I aI at F;have b2:=H _ _ ge;have ap:∀ak∈addrs af,ak≠e:=λak aE X=>by have:=ad ak aE;rw[X] at this;rw[show ao.get? e=By from this] at ge;exact bY ge
 refine J aA<|lF<|aco (vU (i:=1) p h F a0 rfl (by decide) rfl b4 λv aO aV a2 bj=>vU (i:=0) p h (F.bT bj) a2 rfl (by decide) rfl (λX=>by cases X) λb aY aF be bf=>?_)<|bp af;intros bz;refine J aF ?_;have bK:=(F.bT bj).bT bf;have aT:bG cp I ⟨B,g,k,t,os⟩ I aY:=by refine bq.trans<|(⟨λaW o q q X=>H aW o X,λaW o X=>⟨o,H aW o X⟩,λq q q X=>X⟩:bG cp I _ I ⟨aI,g,k,cr,os⟩).trans<|bj.trans bf
 have ba:aY.heap.get? e=kZ {cls:=.ref ae,data:=.fields #[.ref bO,.none,.none,.none,.bool false,.none]}:=bf.em e _ id V<|bj.em e _ id V b2;obtain⟨bR,a7,yt,cC,cj⟩:=aY;refine Ro PySem.F.store_Exception (aU.gE.keeps be.keep _ _ aw) (G.keeps be.keep) bt ar (by ext) ba rfl rfl rfl λdy ck A=>nW A λD f bv bD aH=>fw ?_;intro cx;have b3:D≠e:=λX=>by rw[X] at f;rw[f] at ba;exact bY ba
 have bi:a9 c I ⟨dy,a7,yt,ck,cj⟩:=be.but (P:=λx=>x=e) (λaW o aA X=>aH aW o aA X) (λq X=>X▸V) (λq X=>X▸a3) rfl rfl;have K:cm af n3 [.ref e,ak,aW] I dy:=bK.but λx Q o X=>aH x o (ap x Q) X;refine lF<|aco (vU (i:=2) p h K bi rfl (by decide) rfl b5 λw bQ a1 bI bL=>vU (i:=0) p h (K.bT bL) bI rfl (by decide) rfl (λX=>by cases X) λb bm aF bg bw=>?_)<|bM af;intros cc;refine J aF ?_;have aM:=bL.trans bw;have bB:I D=By:=wr be f;have bc:=aM.em e _ id V bv;have ce:bm.heap.Ns1 D (λy=>if y="symbol" then kZ v else By):=by refine tz bD λbd ah aR aJ a4 bx=>?_;clear bD;exact(g6 bd ah aR (aM.em D _ id bB aJ) a4 bx)
 refine Rn (hh:=λy=>if y="symbol" then kZ v else By) (ns:=["symbol"]) aU b7 bg (λm q z=>z) (by ext) V a3 (kR _ bc rfl (λq X=>by cases X)<|.inr<|c7 D rfl b3 ce) (nj _ _ abc) (by refine J wT ?_;decide) λab aN ca ci b6 b9=>?_;refine tx (ci _ bc) λbH a8 bX b0 cA b1=>?_;have a5:=b1 D rfl;refine nW aN λcz bs q q aN=>?_;rw[a8] at bs;cases bs;rcases aN with⟨X,_⟩|⟨T,X,_,bC⟩
 ·rw[a5] at X;exact g4 X
 rw[a5] at X;cases X;have aZ:∀x o,bm.heap.get? x=kZ o->x≠e->x≠D->ab.heap.get? x=kZ o:=λx o X a E=>ca x o a (λbl U bN bP=>by rw[bc] at bN;cases bN;cases bP;exact E) X;have bA:B.get? D=By:=by
  cases X:B.get? D with
  |none=>rfl
  |some o=>obtain⟨q,aS⟩:=aT.live D o X;rw[show bR.get? D=kZ q from aS] at f;exact g4 f
 have bW:c.base.get? D=By:=kq S bA;have cb:∀x o,bm.heap.get? x=kZ o->∃q,ab.heap.get? x=kZ q:=λx o X=>by
  by_cases a:x=e
  ·refine J a ?_;exact⟨_,a8⟩
  ·by_cases E:x=D
   ·obtain⟨bd,_,_,aJ,_⟩:=bC;refine J E ?_;exact⟨bd,aJ⟩
   ·exact⟨o,aZ x o X a E⟩
 have Y:a9 c I ab:=bg.but (P:=λx=>x=e\/x=D) (λaW o aA X=>aZ aW o X (λz=>aA<|.inl z) λz=>aA<|.inr z) (λq X=>X.elim (λX=>X▸V) λX=>X▸bB) (λq X=>X.elim (λX=>X▸a3) λX=>X▸bW) b6 b9;have bU:bG cp I ⟨B,g,k,t,os⟩ I ab:=by
  refine⟨λx o q z X=>?_,λx o X=>?_,λq q q z=>z⟩
  ·have W:=aT.em x o id z X;have a:x≠e:=λw=>by rw[w] at X;rw[show B.get? e=kZ o from X] at ne;exact g4 ne
   have E:x≠D:=λw=>by rw[w] at W;rw[show bR.get? D=kZ o from W] at f;exact g4 f
   exact aZ x o (aM.em x o id z<|aH x o a W) a E
  ·refine fw ?_;intro cy;obtain⟨cf,W⟩:=aT.live x o X;obtain⟨bh,ag⟩:∃bh,dy.get? x=kZ bh:=by
    by_cases a:x=e
    ·refine J a ?_;exact⟨_,bv⟩
    ·exact⟨_,aH x _ a W⟩
   obtain⟨cg,bn⟩:=aM.live x bh ag;exact cb x cg bn
 refine mA ⟨rfl,C e D ab ⟨Y,bU,(pd (.ref bO) bH.slots ?_),(bb _ bC λx u aQ=>?_),ne,bA⟩⟩
 ·refine J a8 ?_;obtain⟨cl,cn,cq,cB⟩:=bH;cases bX;cases a5;cases b0;rfl
 ·rw[wQ] at aQ;by_cases ai:x="symbol"
  ·subst ai;simp at aQ;subst aQ;exact(bb v (J (if_neg<|by decide)<|J (if_pos rfl) rfl) aV)
  ·rw[show(x=="symbol")=false by simpa using ai] at aQ;dsimp only at aQ;rw[wQ] at aQ;by_cases ao:x="data"
   ·clear ai;subst ao;simp at aQ;subst aQ;exact(bb w (J (if_pos rfl) rfl) a1)
   ·rw[show(x=="data")=false by simpa using ao] at aQ;exact bY aQ
set_option tactic.hygienic true
theorem Rk {h:Str}(H:C.get? ae=kZ (aa9 gC h ae N bE hl true ch c1 cD hi bW dq co cW en ev h3))(aO:C.Ns N fL)(a6:fL name=By) (x:wX (.type "Exception") name=pure By)(Q:C.get? l=kZ o)(aU:o.cls=.ref ae)(hd:o.data=.fields ag)(b:o.dict=kZ a)(aA:C.Ns1 a hh)(aV:hh name=kZ v)(ad:hX (.done<|.ret v) ⟨C,a4,U,e,os⟩): pn (model prog gn) bo (Builtin.«object.__getattribute__» ⟨[.ref l,.str name ku],[]⟩) hX E ⟨C,a4,U,e,os⟩:=by
 have c:=PySem.F.attrBase_Exception.mro;unfold Builtin.«object.__getattribute__»;repeat(first|(with_reducible refine aba Q ?_;rw[aU])|(with_reducible refine LD H aO c x ?_;refine J a6 ?_)|wp_step)
 intros bc;split
 ·rename_i d D;rw[hd] at D;cases D
 unfold instanceDict;repeat(first|(with_reducible refine aba Q ?_;refine J aU ?_)|with_reducible refine aba H ?_|wp_step)
 refine J b ?_;repeat(first|(with_reducible refine wpAny_nsGet aA.ns ?_;refine J aV ?_)|wp_step)
 exact ad
theorem Re (H:C.get? ae=kZ (aa9 w name ae N bE hl true ch c1 cD hi bW dq co cW en ev h3))(Q:C.get? a=kZ o)(aU:o.cls=.ref ae)(ad:fc () ⟨C,a4,U,e,os⟩): pn ld bo (checkBuiltinCall "BaseException.__getattribute__" ⟨[.ref a,v],[]⟩) fc E ⟨C,a4,U,e,os⟩:=by
 have ap:builtinKind "BaseException.__getattribute__"=kZ .slot:=by decide+kernel
 have c:splitId "BaseException.__getattribute__"=kZ ("BaseException","__getattribute__"):=by decide+kernel
 have b:(im ae::hl).contains (.type "BaseException")=true:=by refine J qA ?_;simp[hl]
 have aE:=PySem.F.args_bexc_ga (.ref a) v;simp only[checkBuiltinCall,ap,c];refine sg ?_
 ·unfold isInstance;repeat(first|(with_reducible refine aba Q ?_;refine J aU ?_)|(with_reducible refine wpAny_isSubtype_exc H ?_;refine J b ?_)|wp_step)
  exact ad
theorem Rj {h:Str}(FB:ExcAttrFacts "Exception")(H:C.get? ae=kZ (aa9 gC h ae N bE hl true ch c1 cD hi bW dq co cW en ev h3))(aO:C.Ns N fL)(a6:fL name=By) (x:wX (.type "Exception") name=pure By)(Q:C.get? l=kZ o)(aU:o.cls=.ref ae)(hd:o.data=.fields ag)(b:o.dict=kZ a)(aA:C.Ns1 a hh)(aV:hh name=kZ v)(ad:R (.ok<|.ret v) ⟨C,a4,U,e,os⟩): br (model prog gn) bo (.call (.builtin "BaseException.__getattribute__") ⟨[.ref l,.str name ku],[]⟩) R ⟨C,a4,U,e,os⟩:= codeAny_call_builtin FB.ga.plain PySem.F.entry_bexc_ga<|Re H Q aU<|Rk H aO a6 x Q aU hd b aA aV ad
theorem Ri {h:Str}(H:C.get? ae=kZ (aa9 gC h ae N bE hl true ch c1 g3 hi bW dq co cW en ev h3))(aO:C.Ns N fL)(c:fL "__getattribute__"=By)(d:fL "__getattr__"=By)(a6:fL name=By) (x:wX (.type "Exception") name=pure By)(Q:C.get? l=kZ o)(aU:o.cls=.ref ae)(hd:o.data=.fields ag)(b:o.dict=kZ a)(aA:C.Ns1 a hh)(aV:hh name=kZ v)(B:handedOut v=pure v)(ad:f2 v ⟨C,a4,U,e+1,os⟩): pn (model prog gn) bo (Lh (.ref l) name cD) f2 E ⟨C,a4,U,e,os⟩:=by
 have FB:=PySem.F.attrBase_Exception;have g:=FB.ga.bind<|.ref l;have f:(cD&&onTheHeap (jG "BaseException.__getattribute__"))=false:=by cases cD<;>rfl
 have aR:(jG "BaseException.__getattribute__"==jG "object.__getattribute__")=false:=by decide+kernel
 have a3:(onTheHeap (im ae)&&jG "BaseException.__getattribute__"==jG "object.__getattribute__")=false:=by refine J aR ?_;rfl
 unfold Lh getAttrBy;repeat(any_goals(first|assumption|(with_reducible refine aba Q ?_;refine J aU ?_)|(with_reducible refine LD H aO FB.mro FB.ga.lookup ?_;refine J c ?_)|(with_reducible refine LD H aO FB.mro FB.noGetattr ?_;refine J d ?_)|wp_step))
 refine Rj FB.toExcAttrFacts H aO a6 x Q aU hd b aA aV ?_;repeat(any_goals(first|assumption|wp_step))
set_option tactic.hygienic false
theorem xy.Sb (aO:∀a∈Mine.cR bq,¬ aF a)(G:Frs c bq I s.heap)(ak:a9 c Z aT)(x:bG cp I s Z aT)(y:xy c ae Z aT ay l cl a1):jm c ae bq aF I s Z ay l cl a1:=by
 refine bP λbz aN=>?_;obtain⟨bl,bm,⟨t,cw,aJ⟩,am,d,e⟩:=y;refine aN ?_;have r:∀a,aT.heap.get? a=By->s.heap.get? a=By:=λa C=>by
  cases X:s.heap.get? a with
  |none=>rfl
  |some o=>obtain⟨q,aW⟩:=x.live a o X;replace aW:=C▸aW;exact bY aW
 have aH:=x.trans bm;refine⟨bl,⟨(e5 _ cw aJ<|.inl rfl),am,wr ak d,wr ak e,kq ak d,kq ak e⟩,G.bT (λq q=>id) aH,r _ d,r _ e,λag o T a b X=>?_,.of (aH.weak λa X=>X.elim) G aO⟩;replace a:=aJ▸a;cases a;cases b;cases X
variable{fL:Sem a3}
theorem Ye {f:Flow->eN->Prop}(aU:c.Ok)(aC:pr c ae N a)(B:bo.handled=By) (C:pn ld bo fL (λv aT=>∃e d t cw,v=.ref e/\c.base.StaysIn aT.heap/\aT.heap.get? e=kZ ⟨.ref ae,kZ d,.fields #[t,.none,.none,.none,.bool false,.none],cw⟩/\E (.ref e) aT) E s):pn ld bo (raiseStmt af (kZ fL) By) f E s:=by
 refine bP λbz aN=>?_;obtain⟨⟨fJ,X,bE,ch,sub,hg,aD,bk,dq,co,cW,en,ev,aw⟩,-,-,-⟩:=aC;refine aN ?_;have b:(im ae::hl).contains (.type "BaseException")=true:=by refine J qA ?_;simp[hl]
 unfold raiseStmt;refine sg<|po C (λv aT aI=>?_) λq q fL=>fL;refine bP λbz aN=>tA aI λe d t cw V bZ he h=>?_;clear aI;replace aN:=V▸aN;have H:=aU.gE.keeps bZ _ _ aw;obtain⟨aP,g,k,cr,os⟩:=aT;refine aN ?_;repeat(first|with_reducible refine aba he ?_|with_reducible refine aba H ?_|(with_reducible refine wpAny_isSubtype_exc H ?_;refine J b ?_)|wp_step)
 exact wpAny_raiseNew_none B h
structure pz (c:cz)(ae N bo:Addr):Prop where
 ok:c.Ok
 cls:pr c ae N bo
 body:∃body c2 el dg g2 ap o g fM k,k4 c bo n3 [] body c2/\nz c2 n3 n3/\body=[.Assign [.Attribute (.Name "self" el) "symbol" dg] (.Name "symbol" g2) ap,.Assign [.Attribute (.Name "self" o) "data" g] (.Name "data" fM) k]/\
  (∀af,nr (.Name "symbol" g2) (kZ (.Attribute (.Name "self" el) "symbol" dg)) ap.line af=pure false)/\(∀af,nr (.Name "data" fM) (kZ (.Attribute (.Name "self" o) "data" g)) k.line af=pure false)
theorem UC (C:aw.length=2):∃a b,aw=[a,b]:=by
 cases aw with
 |nil=>cases C
 |cons a aw=>
  cases aw with
  |nil=>cases C
  |cons b aw=>cases gB.mp (c6.inj<|c6.inj C);exact pd a b rfl
abbrev yS (aH:fq):aI:=λk am S I=>qf S λb a S=>aH [("symbol",a),("data",b)] am I
theorem SM (a4:pz c ae N l)(hf:bA c (i+2) aq nm (.Name w fb) (aM<|.ref ae))(aE:gY c (i+2) aq nm ah aZ)(aP:jC ah)(ao:ah.length=2): jl c ae (i+2) aq nm (.Raise (kZ<|.Call (.Name w fb) ah [] cL) By pos) λaH R=>aZ (yS aH):=by refine hr ?_;intro m;refine⟨λW af bq am I s R j aH L ok aF G h F S ad=>?_⟩;refine hr ?_;intro D;intros bs;obtain⟨aU,aC,body,c2,el,dg,g2,ap,o,g,fM,k,f,ax,aA,bp,bM⟩:=a4;refine J (arm_exec_Raise _ _ _ _)<|sg<|nt<|Ye (s:=s) (c:=c) aU aC L.handled<|sg<|po (Q:=λv aT=>∃e d t cw,v=.ref e/\c.base.StaysIn aT.heap/\aT.heap.get? e=kZ ⟨.ref ae,kZ d,.fields #[t,.none,.none,.none,.bool false,.none],cw⟩/\mE c ae af nm bq I s aH (.ref e) aT) ?_ (λv aT aI=>sg<|nt<|mB aI) λq q e=>e;intros bc;refine pg<|po (hf.r W af am I s (λq q ar Z=>ar=[.ref ae]/\Z=I) j [] _ L h F S ⟨rfl,rfl⟩) (λv aT A=>gi A λu au aQ a0 U a8 bo=>?_) λq q e=>e;replace aQ:=(BF.inj a8).1▸aQ;clear S;subst bo;cases aQ;refine callWith_of (P:=λC=>c.K.In C) (by refine J (aP _ _) ?_;rfl) (keeps_K aC.keep)<|sS (aP _ _)<|po (aE.r W af am _ aT _ _ [] _ cL L h (F.bT U) a0 ad) (λag H A=>gi A λaa aS aX ak aR an n=>⟨aU.gE.keeps ak.keep,?_⟩) λq q e=>e;refine bP λbz aN=>nX (iV (mb:=λa b=>aH [("symbol",a),("data",b)] am aS) (by refine fz (UC<|an.trans ao) λa b e=>?_;rw[e] at n⊢;exact n) aX) λa b gC b3 V z d3 bu bb=>?_;clear n;replace aX:=V▸aX;clear A;replace aN:=z▸aN;replace aX:=z▸aX;refine aN<|wpAny_call<|Rl aU aC f ax aA bp bM L ak aX λe d ay y=>?_;have a5:=U.trans aR;exact fz (y.exc) λt cw he=>⟨e,d,t,cw,rfl,y.sim.keep,he,e,d,_,am,aS,rfl,y.Sb ok.apart G ak a5,(F.bT a5).bT y.bT,bb⟩
theorem be.ZV (C:be c e ak aa ab I)(ap:e<=b:=by lia):jj c ae b ak aa ab er I:=by intro W bq s dD ag R L aF G S hf aE P bb;exact C W s dD ag R ⟨by have:=L.depth;exact bS 14526008902636050154675293777692801 ap this,by have:=L.units;exact bS 12254384597757239851281293679396993 ap this,L.handled⟩ S hf aE λv ay A=>cq A λu Z aQ ar x X=>P v ay ⟨u,Z,aQ,ar,.of x G λq q=>id,X⟩
theorem jj.up {k:Nat}(C:jj c ae k ak aa ab er I)(ap:k<=e:=by lia):jj c ae e ak aa ab er I:=by intro W bq s dD ag R L aF G S hf aE P bb;exact C W bq s dD ag R ⟨by have:=L.depth;exact bS 14526008902636050154675293777692801 ap this,by have:=L.units;exact bS 12254384597757239851281293679396993 ap this,L.handled⟩ aF G S hf aE P bb
theorem Rh {d:Addr}{as:List (Str×V)}(aH:Exc c ae s.heap I l d as) (C:∀av,Exc c ae av I l d as->(∀b o,¬ kn s.heap l b->s.heap.get? b=kZ o->av.get? b=kZ o)->(∀b o,s.heap.get? b=kZ o->∃q,av.get? b=kZ q)->(∀b,kn s.heap l b->I b=By/\c.base.get? b=By)->fc () {s with heap:=av}):pn ld bo (r7 (.ref l) By) fc E s:=by
 have U:=aH;refine bP λbz aN=>?_;obtain⟨⟨ag,cw,he,D⟩,⟨m,⟨j,ah,aR,g,e,v⟩,has⟩,lv,mi,lW,based⟩:=aH;refine aN ?_;unfold r7;rcases D with ai|aM
 ·refine sg<|je he rfl ai ?_;exact J (if_neg<|by decide)<|mB (C s.heap U (λq q q X=>X) (λq o X=>⟨o,X⟩) λb A=>gG A λbc o a b d=>by replace a:=he▸a;cases a;cases b;replace d:=ai▸d;cases d)
 ·refine rB aM λT aa bV ai ak k h a7 N G=>?_;clear aM;refine sg<|je he rfl ai ?_;refine J (if_pos (by simp:(im T !=BP)=true)) ?_;refine wpAny_setField k h (BA.mp a7).1 ?_;have i:∀b,b≠T->(s.heap.update T (ni (·.setIfInBounds 3 ((By:Option Addr).elim BP λf=>rawInt f)))).get? b=s.heap.get? b:=λb aA=>Bw _ _ _ _ aA;have p:=aaS (ni (·.setIfInBounds 3 ((By:Option Addr).elim BP λf=>rawInt f))) k<|mu<|BQ h _;have H:d≠T:=λX=>by replace g:=k▸X▸g;cases g;replace e:=h▸e;cases e
  refine C _ ⟨(e5 ag cw ((i _ ak.symm).trans he)<|.inr<|AZ T _ _ ai ak p (BQ h _) (by simp[(BA.mp a7).1]) N G),(bb m (g6 j ah aR ((i _ H).trans g) e v) has),lv,mi,lW,based⟩ (λb o aZ X=>(i b λz=>aZ<|dM ag _ he rfl<|by refine J z ?_;exact ai).trans X) (λb o X=>?_) λb A=>gG A λbc o a y d=>by replace a:=he▸a;cases a;cases y;replace d:=ai▸d;cases d;exact⟨N,G⟩
  by_cases z:b=T
  ·refine J z ?_;exact⟨_,p⟩
  ·exact⟨o,(i b z).trans X⟩
theorem Zv (h:e1 c af aq nm)(F:cm af nm am I s.heap)(S:a9 c I s)(aL:nm[i]?=kZ name)(an:aq.names.lookup name=kZ .local) (C:∀ay,cm af nm (am.set i .aK) I ay.heap->a9 c I ay->bG (Own af) I s I ay->fc () ay):pn c.M bo (do bindName af name .none;unbindBehindTheSuite af name pos) fc E s:=by
 have fh:=h;refine bP λbz aN=>?_;obtain⟨dc,ap,U,A,L,K,l,B,Q⟩:=h;have ai:=F;obtain⟨⟨m,d,aO,aU,aV⟩,bF,G,D⟩:=F;refine aN ?_;have n:af.scope.kind=.function:=by refine J dc ?_;exact ap
 refine wpAny_nameGoes_keeps (by refine J (md dc _) ?_;exact an) aO (by refine J n ?_;rfl) λav v T ax=>?_;have f:∀b o,b≠af.locals->s.heap.get? b=kZ o->av.get? b=kZ o:=λb o X e=>(ax.2 b X).trans e;have lo:∃o,av.get? af.locals=kZ o:=fg T λo q q e q=>⟨o,e⟩;refine C {s with heap:=av,toks:=s.toks+1} ⟨(dM _ d T (λz k e=>?_) λj y u bi aQ=>?_),by refine J acj ?_;exact bF,G,λp aP=>?_⟩ ?_ ?_
 ·exact bg (aU z k e) λo aW r=>(bb o (f k o (λX=>fh.above z k (mem_of_lookup e) X.symm) aW) r)
 ·by_cases g:j=i
  ·clear C;subst g;replace aQ:=(r8<|by refine J bF ?_;exact(xn.mp bi).1)▸aQ;exact .inl (kZ.inj aQ).symm
  ·replace aQ:=(ab7<|us g)▸aQ;refine(aV j y u bi aQ).imp id λ⟨w,a1,bd⟩=>⟨w,?_,bd⟩;have t:y≠name:=λX=>by clear an aN T;subst X;exact g ((ut (xn.mp bi).1 A).mp<|bi.trans aL.symm)
   by_cases j3:af.scope.names.lookup y=kZ .local
   ·rw[if_pos j3] at a1⊢;exact(if_neg t).trans a1
   ·rw[if_neg j3] at a1⊢;exact a1
 ·obtain⟨o,e⟩:=D p aP;exact⟨o,f _ o (λX=>fh.above p.1 p.2 aP X.symm) e⟩
 ·have ar:=S.tok<|s.toks+1;exact a9.but (P:=λa=>a=af.locals) S (λa o X e=>f a o X e) (λa X=>X▸G _ (.head _)) (λa X=>X▸Q _ (.head _)) rfl rfl
 ·refine⟨λa o X q e=>f a o (λz=>X<|z▸.head _) e,λa o e=>?_,λq q q e=>e⟩;by_cases X:a=af.locals
  ·refine J X ?_;exact lo
  ·exact⟨o,f a o X e⟩
abbrev l3:qJ->Env->Prop:=λW af=>kk af []/\W.frames=kZ [af]
theorem yO (C:fh c e aq nm jY aZ):jN c e aq nm l3 jY aZ:=⟨λW af am I s R j E L q h F S ad=>C.r W af am I s R j E L trivial h F S ad⟩
theorem zo (h:e1 c af aq nm)(F:cm af nm am I s.heap)(aL:nm[i]?=kZ w)(hd:(w==("__debug__":Str))=false)(aQ:am[i]?=kZ u)(bg:u≠.aK) (C:∀v,u.is v->f2 v s):pn c.M bo (eval (.Name w pos) af) f2 E s:=by
 refine bP λbz aN=>?_;obtain⟨dc,ap,U,-,-,-,-,-,-⟩:=h;obtain⟨⟨m,d,aO,aU,aV⟩,-,-,-⟩:=F;refine aN ?_;have a:w∈nm:=jI aL;refine wpAny_Name ?_ hd;rcases aV i w u aL aQ with rfl|⟨v,hm,f⟩
 ·exact(bg rfl).elim
 replace hm:=dc▸hm;have n:af.scope.kind=.function:=by refine J dc ?_;exact ap
 rcases U w a with an|⟨an,t⟩
 ·replace hm:=(if_pos an)▸hm;exact wpAny_loadName_local n (by refine J (md dc _) ?_;exact an) aO hm<|C v f
 ·have aX:¬ (aq.names.lookup w=kZ .local):=by refine J an ?_;exact λe=>by cases e
  replace hm:=(if_neg aX)▸hm;obtain⟨k,g⟩:=Ci.mp t;exact wpAny_loadName_cell n (by refine J (md dc _) ?_;exact an) g (hm▸aU w k g)<|C v f
theorem SZ (aU:c.Ok)(bt:oo c w (.ref a))(h:e1 c af aq nm)(S:a9 c I s)(Q:aq.names.lookup w=kZ .globalImplicit)(hd:(w==("__debug__":Str))=false) (C:f2 (.ref a) s):pn c.M bo (eval (.Name w pos) af) f2 E s:=by
 refine bP λbz aN=>?_;obtain⟨dc,ap,-,-,-,-,l,-,-⟩:=h;obtain⟨k,i⟩:=aU.glob;refine bg bt λv aV aQ=>?_;clear bt;refine aN ?_;replace aV:=aQ▸aV;have n:af.scope.kind=.function:=by refine J dc ?_;exact ap
 refine Name_function_global n (by refine J (md dc _) ?_;exact Q) (loadGlobal_global (mg:=k) (v:=.ref a) ?_ (mg_of aU.gE i aV) C) hd;refine J l ?_;exact i.keeps S.keep
theorem cm.note (f:cm af nm am Z s.heap)(h:e1 c af aq nm)(ok:kk af bq)(F:cm af nm aa I C)(N:xz c ae (cR<|af::bq) I a l a1 C av)(he:s.heap.get? a=By)(D:∀T,kn C a T->s.heap.get? T=By):cm af nm aa I av:=by
 refine bP λbz aN=>?_;obtain⟨⟨m,d,aO,aU,aV⟩,an,aw,aj⟩:=F;refine aN ?_;have aF:=pQ ok;refine⟨(dM m d ?_ (λz k X=>?_) aV),an,aw,λp aP=>?_⟩
 ·refine fg aO λo ah aR a8 r=>?_;clear aO;obtain⟨cw,ax⟩:=N.slots _ o (by refine J aF ?_;exact .head _) a8;exact i9 _ ah aR ax r
 ·refine bg (aU z k X) λo aW r=>?_;have hm:k∈addrs af:=.tail _<|yB.mpr<|bb ((z,k)) (mem_of_lookup X) rfl;obtain⟨bl,R⟩:=f.live k hm;refine(bb o (N.same k o (λw=>?_) (λw=>?_) (λw=>?_) aW) r)
  ·replace R:=he▸w▸R;exact bY R
  ·replace w:=aF▸w;rcases Q8.mp w with w|w
   ·exact h.above z k (mem_of_lookup X) w.symm
   ·exact ok.apart k w hm
  ·replace R:=(D k w)▸R;exact bY R
 ·obtain⟨o,a⟩:=aj p aP;exact N.live _ o a
theorem S2 (C:u.is v)(p:u.plain):handedOut v=pure v:=handedOut_of<|Hp C p
theorem Rm (aU:c.Ok)(aC:pr c ae N cl)(hm:∀m:Str->Option a3,m "symbol"=By->m "data"=By->m w=By)(x:wX (.type "Exception") w=pure By) (aH:Exc c ae s.heap I a l a1)(S:a9 c I s)(Q:a1.lookup w=kZ u)(aP:u.plain)(C:∀v t,u.is v->f2 v {s with toks:=t}):pn c.M bo (Lh (.ref a) w true) f2 E s:=by refine bP λbz aN=>?_;obtain⟨⟨fJ,X,bE,ch,sub,hg,aD,bk,dq,co,cW,en,ev,aw⟩,⟨m,G,dP,bt,Z,an,ar,aL⟩,bu,-⟩:=aC;have H:=aU.gE.keeps S.keep _ _ aw;have aj:=G.keeps S.keep;obtain⟨⟨ag,cw,he,D⟩,⟨hh,aA,has⟩,-,-,-,-⟩:=aH;refine bg (has w u Q) λv aV aQ=>?_;obtain⟨B,g,k,t,os⟩:=s;exact aN<|Ri H aj Z an (hm m ar aL) x he rfl rfl rfl aA aV (S2 aQ aP)<|C v (t+1) aQ
theorem Exc.keep {d:Addr}{as:List (Str×V)}(aH:Exc c ae C I a d as)(ap:∀b o,I b=By->c.base.get? b=By->(b=a\/b=d\/kn C a b)->C.get? b=kZ o->av.get? b=kZ o):Exc c ae av I a d as:=by refine bP λbz aN=>?_;obtain⟨⟨ag,cw,he,D⟩,⟨m,⟨j,ah,aR,g,r⟩,has⟩,lv,mi,lW,based⟩:=aH;refine aN<|⟨⟨ag,cw,ap a _ lv lW (.inl rfl) he,D.imp id λA=>rB A λT aa bV ai ao a7 bR dy eS e=>⟨T,aa,bV,ai,ao,ap T _ eS e (.inr<|.inr ⟨ag,_,he,rfl,ai⟩) a7,bR,dy,eS,e⟩⟩,⟨m,⟨j,ah,aR,ap d _ mi based (.inr<|.inl rfl) g,r⟩,has⟩,lv,mi,lW,based⟩
theorem Exc.bT (aH:Exc c ae s.heap I a l a1)(x:bG cp I s Z ay):Exc c ae ay.heap Z a l a1:=by refine bP λbz aN=>?_;obtain⟨⟨ag,cw,he,D⟩,⟨m,⟨j,ah,aR,g,r⟩,has⟩,lv,mi,lW,based⟩:=aH;exact aN<|⟨⟨ag,cw,x.em a _ id lv he,D.imp id λA=>rB A λT aa bV ai ao a7 bR dy eS e=>⟨T,aa,bV,ai,ao,x.em T _ id eS a7,bR,dy,x.fresh T _ a7 eS,e⟩⟩,⟨m,⟨j,ah,aR,x.em l _ id mi g,r⟩,has⟩,x.fresh a _ he lv,x.fresh l _ g mi,lW,based⟩
abbrev vD (d3 bu:Nat)(w t:Str)(K:ji)(R:aI):aI:=λk am S I=>K (λas B Z=>∃x,as.lookup ("symbol":Str)=kZ (.str x)/\rx (fX B d3) (rx (fX B bu)<|gc (fX B bu) (.str w) (λd aH=>i5 true (fX B d3) d (λb aM=>sx b λb=>k.j.r (.bool<|b&&decide (x=t)) aM) aH) Z)) R k am [] I
theorem WF:∀{i:Nat},fX aa i≠.aK->aa[i]?=kZ (fX aa i):=by
 induction aa with
 |nil=>intro i C;exact(C rfl).elim
 |cons u aa D=>intro i C;cases i with
  |zero=>rfl
  |succ i=>exact D (i:=i) C
theorem SO {ae N bo:Addr}{c:cz}{n:Nat}{nm:List Str}{sc:ck}(d3 bu bA:Nat){x ey gC b3:Str}{w t:Str}{np Xp c2 db h7 mg gw dQ pt dg g2 fM ga pos:Pos}{cb da:Nat}{body:List Stmt}{K:ji}(a4:pz c ae N bo)(aE:nm[d3]?=kZ gC)(a8:nm[bu]?=kZ b3)(aL:nm[bA]?=kZ ey)(an:sc.names.lookup ey=kZ .local)(a6:d3≠bA)(cA:bu≠bA)
  (bt:oo c x (.ref ae))(Q:sc.names.lookup x=kZ .globalImplicit)(hd:(x==("__debug__":Str))=false)(bm:(ey==("__debug__":Str))=false)(bs:(gC==("__debug__":Str))=false)(cv:(b3==("__debug__":Str))=false)
  (cx:∀af,eval (.Attribute (.Name ey dg) "symbol" g2) af=(do let o<-eval (.Name ey dg) af;ach g2.atName;let r<-io [o] (Lh o "symbol" true);aaP (.Name ey dg) o r;pure r))
  (aA:mF c ae n sc nm body K):
  jl c ae n sc nm (.Try body [.ExceptHandler (kZ (.Name x np)) (kZ ey) [.Return (kZ (.BoolOp .And [.Compare (.Name gC Xp) [.NotIn] [.Subscript (.Name b3 c2) (.Constant (.str w) cb gw) dQ] db,.Compare (.Attribute (.Name ey dg) "symbol" g2) [.Eq] [.Constant (.str t) da pt] h7] mg)) fM] ga] [] [] pos) λaH=>vD d3 bu w t K:=by
 refine hr ?_;intro cQ;have aU:=a4.ok
 have aC:=a4.cls
 refine⟨λW af bq am I s R j aH L ok aF G h F S ad=>?_⟩
 refine hr ?_;intro cU;intros cd;refine wpAny_Try_except (po (aA.r W af bq am I s _ _ _ L ok aF G h F S ad) (λf aT A=>mh A λk aR au ap ba a0 U l=>?_) (λv aT A=>g1 A λe d as aR au aB=>i7 aB λaV bC ba l=>?_))
 ·refine hr ?_;intro cY;cases k with
  |next=>refine J ap ?_;exact mA (pP (k:=.next) rfl ba a0 U l)
  |brk=>exact l.elim
  |cont=>exact l.elim
  |ret u=>obtain⟨v,rfl,aV⟩:=ap;exact pP (k:=.ret u) (bb v rfl aV) ba a0 U l
 refine J aV ?_
 have bN:=bC.cR.push ok h ba
 have nK:∀z∈addrs af,∃o,s.heap.get? z=kZ o:=F.live
 have go:∀z∈cR bq,∃o,s.heap.get? z=kZ o:=λz aj=>dp (G.mem aj) λq X=>cO X λo X=>⟨o,X.1⟩
 have b0:d∉cR (af::bq):=λhm=>by
  replace hm:=(pQ ok)▸hm
  have b8:=bC.p3
  rcases Q8.mp hm with hm|hm
  ·obtain⟨o,aW⟩:=nK _ (.head _);rw[hm] at b8;replace aW:=b8▸aW;exact bY aW
  ·obtain⟨o,aW⟩:=go d hm;replace aW:=b8▸aW;exact bY aW
 refine GR aF bN bC.sim ok.own bC.exc b0 λbd cf=>jA ?_;intro cM;have ai:=bC.note ok bN cf
 have cH:∀T,kn aT.heap e T->s.heap.get? T=By:=λT A=>gG A λag o a b d=>bC.rq ag o T a b d
 have g:cm af nm aR au bd:=cm.note F h ok ba cf bC.rr cH
 obtain⟨xs,aQ,l⟩:=l
 obtain⟨ci,l⟩:=z0 l
 obtain⟨bg,l⟩:=z0 l
 refine bP λbz aN=>dw (ai.exc.exc) λc7 c1 bO q=>?_
 have b7:=aC
 obtain⟨⟨fJ,X,bE,ch,sub,hg,aD,bk,dq,co,cW,en,ev,aw⟩,-,-,-⟩:=aC
 refine aN ?_
 have H:=aU.gE.keeps ai.sim.keep _ _ aw
 refine wpAny_handleBy_cons (codeAny_handlers_test (SZ aU bt h ai.sim Q hd ?_)) (by intro X;cases X)
 refine wpAny_excMatches_sub_self H bO rfl (by simp[hl]) (codeAny_handlers_suite_as ?_)
 refine Rh (I:=au) (d:=d) (as:=as) ai.exc λbn bH bU cF cn=>?_
 have ca:∀z,(∃o,s.heap.get? z=kZ o)->z≠e/\z≠d/\¬ kn bd e z:=λz A=>cO A λo aW=>by
  refine⟨λX=>?_,λX=>?_,λA=>gG A λag q a b d=>?_⟩
  ·replace aW:=ai.rr▸X▸aW;exact bY aW
  ·replace aW:=ai.p3▸X▸aW;exact bY aW
  ·replace aW:=(ai.rq ag q z a b d)▸aW;exact bY aW
 have cl:∀z∈addrs af,z≠e/\z≠d/\¬ kn bd e z:=λz aj=>ca z (nK z aj)
 have a7:cm af nm aR au bn:=g.but λz aj o X=>bU z o (cl z aj).2.2 X
 have a2:a9 c au {aT with heap:=bn}:=a9.but (P:=kn bd e) ai.sim (λb o aZ X=>bU b o aZ X) (λb p=>(cn b p).1) (λb p=>(cn b p).2) rfl rfl
 have bj:fE (Own af) (cR bq) I s au {aT with heap:=bn}:=by
  refine⟨λz o aj ax h0 X=>bU z o (ca z ⟨o,X⟩).2.2 (ai.bT.em z o aj ax h0 X),λz o ax X=>?_,λz o X=>?_,ai.bT.fresh⟩
  ·obtain⟨cw,aS⟩:=ai.bT.slots z o ax X;exact⟨cw,bU z _ (ca z ⟨o,X⟩).2.2 aS⟩
  ·refine fw ?_;intro cN;obtain⟨q,aS⟩:=ai.bT.live z o X;exact cF z q aS
 refine wu (s:={aT with heap:=bn}) (u:=.ref e) h a7 a2 aL rfl λaY bK be bf=>hr ?_;intro cP;intros cG;have bZ:Exc c ae aY.heap au e d as:=by
  refine bH.keep λb o h0 aA a1 X=>bf.em b o (λcC=>?_) h0 X
  have:=cl b cC
  rcases a1 with a1|a1|aM
  ·exact this.1 a1
  ·exact this.2.1 a1
  ·refine gG aM λag q bp bM cI=>?_;clear aM
   obtain⟨bl,br⟩:=nK b cC
   refine dw (bH.exc) λc8 c3 b9 q=>?_
   have cu:∀o,bd.get? e=kZ o->bn.get? e=kZ o:=λo X=>bU e o (λA=>gG A λbc cZ aI y aP=>by
    refine dw (ai.exc.exc) λc6 c0 aX bR=>?_
    replace aI:=(aX:bd.get? e=_)▸aI;cases aI;cases y
    rcases bR with bR|aM
    · replace aP:=bR▸aP;cases aP
    · refine tz aM λT aa bV bR ak q=>?_;clear aM;replace aP:=bR▸aP;cases aP;exact ak rfl) X
   replace bp:=(cu _ bO:({aT with heap:=bn}:eN).heap.get? e=_)▸bp;cases bp;cases bM
   exact this.2.2 (dM _ _ bO rfl cI)
 have cy:(aR.set bA (.ref e))[bA]?=kZ (.ref e):=r8 (by refine J a7.len ?_;exact(xn.mp aL).1)
 have bW:∀i,i≠bA->fX aR i≠.aK->(aR.set bA (.ref e))[i]?=kZ (fX aR i):=λi C av=>(ab7 (us C)).trans (WF av)
 have B:Frs c bq au bn:=G.rI bj
 have cs:fE (Own af) (cR bq) I s au aY:=bj.trans (.of bf B ok.apart)
 have aq:Frs c bq au aY.heap:=G.rI cs
 --cJ is handed cg
 have fin:∀(v:a3) (ay:eN) (u:V) (Z:az) (ab:Flow->eN->Prop) (E:a3->eN->Prop) (W:qJ) (m:Pos),u.is v->a9 c Z ay->bG cp au aY Z ay->j.r u Z->(∀f a5,lK c af nm bq I s (mX ⟨c,n,j⟩ R []) f a5->ab f a5)->pn c.M W (do bindName af ey .none;unbindBehindTheSuite af ey m) (λ_ aO=>ab (.ret v) aO) E ay:=λv ay u Z ab E W m aV ar O X C=>
  Zv h (bK.bT O) ar aL an λa5 b5 b6 ce=>C _ a5 (pP (k:=.ret u) (bb v rfl aV) b5 b6 (cs.trans (.of (O.hT.trans ce) aq ok.apart)) X)
 refine lF (wpAny_Return_some (wpAny_And2 (wpAny_Compare1 (zo h bK aE bs (bW d3 a6 ci) ci λaG bS=>Subscript_ (zo h bK a8 cv (bW bu cA bg) bg λah cj=>wpAny_Constant_str ?_)) rfl)))
 refine fw ?_;intro cS;obtain⟨Ty,id,D,cL⟩:=I5 (be.tok (aY.toks+1)) cj l
 refine po (rJ D cL (Jc _ au _ _ _ _ (.str w) ah _ (be.tok (aY.toks+1)) cj ⟨_,rfl⟩ l) rfl) (λb2 ao A=>cq A λtR bh cB bi bD al=>?_) λq q e=>e
 intros cT;refine po (Jd aU _ bh ao _ _ _ _ aG b2 bi bS cB al) (λc9 bQ A=>cq A λc5 bv cD bI bL b1=>?_) λq q e=>e
 obtain⟨b,rfl,b1⟩:=pB b1
 have b4:bG cp au aY bv bQ:=(bG.tok (aY.toks+1)).trans (bD.trans bL)
 refine J cD<|cK ?_
 cases b with
 |false=>exact fin _ bQ (.bool false) bv _ _ _ _ rfl bI b4 b1 λf a5 C=>C
 |true=>
  refine(?_:pn _ _ _ _ _ _)
  intros cV;have aJ:=bK.bT b4
  refine wpAny_Compare1 (Attribute_any_ (zo h aJ aL bm cy (λX=>by cases X) λbX cc=>?_) (cx _)) rfl
  intros cX;refine J cc ?_
  have ct:Exc c ae bQ.heap bv e d as:=bZ.bT b4
  refine Rm aU b7 (λq C q=>C) (by ext) ct bI aQ trivial λcr c4 cE=>?_
  obtain⟨bF,rfl⟩:=cE
  refine wpAny_Constant_str (P.eq_str ?_)
  exact J (str_beq _ _)<|fin _ _ (.bool (decide (xs=t))) bv _ _ _ _ rfl (bI.tok _) (b4.trans (.tok _)) b1 λf a5 C=>C
theorem NM (aU:c.Ok)(hf:k4 c ae names [] body aq)(ax:nz aq names nm)(aA:k3 c b aq nm l3 body aZ)
 (an:aa.length=names.length)(T:aZ bv (dI c b ab) (aa++[]++dr (nm.length -names.length) .aK) [] I)(L:e9 bo (b+1))(aF:bo.frames=kZ [])(S:a9 c I s)(m:(V.ref ae).is dD)(aX:bV aa bE)
 (P:∀v ay,dF c I s ab v ay->R (.ok<|.ret v) ay):br c.M bo (.call dD ⟨bE,[]⟩) R s:=by
 refine uQ aU hf ax (gq:=[]) trivial an L S m aX λaf aI cr h F a0 am ad H p=>codeAny_func<|fw ?_;intro j;have i:(bo.deeper af).frames=kZ [af]:=by refine(?_:bo.frames.map (af:: ·)=_);refine J aF ?_;rfl
 refine po (aA.r (bo.deeper af) af _ I _ _ _ _ p ⟨⟨am,iE⟩,i⟩ h F a0 T) (λkv ay A=>mh A λk B Z ap ai ar O X=>?_) λq q e=>e
 have U:bG cp I s Z ay:=by refine⟨λa o q e g=>O.em a o (λX=>?_) e<|H a o g,λa o e=>O.live a o<|H a o e,λa o g e=>O.fresh a o (H a o g) e⟩;replace g:=(ad a X)▸g;exact bY g
 cases k with
 |next=>refine J ap ?_;exact P _ _<|wH ar U X
 |brk=>exact X.elim
 |cont=>exact X.elim
 |ret u=>obtain⟨v,rfl,aV⟩:=ap;exact P _ _<|jE aV ar U X
theorem fE.out (x:fE aF (cR []) I s Z ay):bG aF I s Z ay:=⟨λa o C z e=>x.em a o C (λX=>by cases X) z e,x.live,x.fresh⟩
theorem SY (aU:c.Ok)(hf:bA c i aq nm (.Name w fb) cy)(aE:gY c i aq nm ah aZ)(aP:jC ah)(bu:hE c i aq nm aC gj)(aA:k3 c i aq nm l3 body Cl)(aw:k3 c i aq nm l3 lc iP):
 jN c i aq nm l3 (.If (.BoolOp .Or [.UnaryOp .Not (.Call (.Name w fb) ah [] cL) el,aC] h4) body lc pos) λR=>cy (cf<|aZ<|oI ae (λq q q=>False) (eL ah.length [])<|a8 (gj (Cl R)<|iP R)<|Cl R):=by
 refine⟨λW af am I s R j E L l h F S ad=>dp l λok aF=>?_⟩
 intros bs;have G:Frs c [] I s.heap:=⟨trivial,iE⟩
 have a:∀{st:List Stmt} {K:a5} (C:k3 c i aq nm l3 st K) {au:az} {aT:eN},cm af nm am au aT.heap->a9 c au aT->bG (Own af) I s au aT->K R ⟨c,i,j⟩ am [] au->pn c.M W (execs st af) (jO c af nm I s<|mX ⟨c,i,j⟩ R []) E aT:=λ{st K} C {au aT} ba a0 U X=>po (C.r W af am _ _ R j E L l h ba a0 X) (jO.trans U) λq q e=>e
 refine wpAny_If<|wpAny_isTrue_BoolOp<|wpAny_allTrue_Or_cons<|wpAny_isTrue_Not<|wpAny_isTrue_value (po (yd aU hf aE aP L ok aF G h F S ad) (λv aT A=>gi A λu au aQ ba a0 bC m=>?_) λv ay A=>g1 A λe d as B Z z=>z.2.2.2.elim) rfl
 intros bc;have U:=bC.out
 obtain⟨body,rfl,m⟩:=pB m
 refine J aQ<|cK ?_
 cases body with
 |false=>exact a aA ba a0 U m
 |true=>
  refine wpAny_allTrue_Or_cons<|po (bu.r W af am au aT _ _ _ [] E L h ba a0 m) (λv H A=>eK A λaS ak aR bd=>?_) λq q e=>e;have g:=ba.bT aR;have ab:=U.trans aR.hT;cases v with
  |true=>exact a aA g ak ab bd
  |false=>exact wpAny_allTrue_Or_nil<|a aw g ak ab bd
set_option tactic.hygienic true
abbrev sj:=(Src->aI)->aI
abbrev dv:a5:=λq=>fm
noncomputable def ja (z:aR)(e:Expr)(d:Str->Pos->aR:=λq q=>z)(w:Const->Nat->Pos->aR:=λq q q=>z)(u:Expr->Operator->Expr->Pos->aR:=λq q q q=>z)(i:UnaryOp->Expr->Pos->aR:=λq q q=>z)(n:Expr->Expr->Expr->Pos->aR:=λq q q q=>z)(m:Expr->List CmpOp->List Expr->Pos->aR:=λq q q q=>z)(f:BoolOp->List Expr->Pos->aR:=λq q q=>z)(A:List Expr->Pos->aR:=λq q=>z)(p:List Expr->Nat->Pos->aR:=λq q q=>z)(y:List (Option Expr)->List Expr->Pos->aR:=λq q q=>z)(c:Expr->Str->Pos->aR:=λq q q=>z)(j:Expr->Expr->Pos->aR:=λq q q=>z)(h:Expr->List LF->ck->Pos->aR:=λq q q q=>z)(k:Expr->List Expr->List Keyword->Pos->aR:=λq q q q=>z)(b:Option Expr->Option Expr->Option Expr->Pos->aR:=λq q q q=>z)(o:Expr->Pos->aR:=λq q=>z)(l:Expr->List LF->ck->Pos->aR:=λq q q q=>z)(a:Expr->Expr->List LF->ck->Pos->aR:=λq q q q q=>z)(g:List Expr->Nat->Pos->aR:=λq q q=>z):aR:=Expr.casesOn (motive_1:=λq=>aR) e f (λq q q=>z) u i (λq q q q=>z) n y g h l a (λq q q q=>z) (λq q=>z) (λq q=>z) (λq q=>z) m k (λq q q q=>z) (λq q=>z) w c j o d A p b
theorem iF (C:By=kZ aN):False:=nomatch C
def j7 (e:Expr):Bool:=ja true e (o:=λq q=>false)
def zH (e:Expr):Bool:=ja true e (h:=λq q q q=>false) (l:=λq q q q=>false) (a:=λq q q q q=>false)
def v8 (e:Expr):Bool:=ja true e (g:=λq q q=>false)
set_option genCtorIdx false
inductive f4:Expr->Type
 |name (x:_) (p:_):f4 (.Name x p)
 |call (g:_) (ah:_) (a0:_) (p:_):f4 (.Call g ah a0 p)
 |attr (o:_) (x:_) (p:_):f4 (.Attribute o x p)
 |list (ah:_) (p:_):f4 (.List ah p)
 |tup (ah:_) (k:_) (p:_):f4 (.Tuple ah k p)
 |slice (l:_) (u:_) (st:_) (p:_):f4 (.Slice l u st p)
 |const (v:_) (k:_) (p:_):f4 (.Constant v k p)
 |unop (ar:_) (e:_) (p:_):f4 (.UnaryOp ar e p)
 |hP (e:Expr):f4 e
set_option genCtorIdx true
noncomputable def ih (e:Expr):f4 e:=Expr.casesOn (motive_1:=f4) e (λq q q=> .hP _) (λq q q=> .hP _) (λq q q q=> .hP _) .unop (λq q q q=> .hP _) (λq q q q=> .hP _) (λq q q=> .hP _) (λq q q=> .hP _) (λq q q q=> .hP _) (λq q q q=> .hP _) (λq q q q q=> .hP _) (λq q q q=> .hP _) (λq q=> .hP _) (λq q=> .hP _) (λq q=> .hP _) (λq q q q=> .hP _) .call (λq q q q=> .hP _) (λq q=> .hP _) .const .attr (λq q q=> .hP _) (λq q=> .hP _) .name .list .tup .slice
noncomputable def IR (v:f4 aC):Option Str:=f4.casesOn (motive:=λq q=>Option Str) v (λx q=>kZ x) (λq q q q=>By) (λq q q=>By) (λq q=>By) (λq q q=>By) (λq q q q=>By) (λq q q=>By) (λq q q=>By) λq=>By
def nameOf (e:Expr):Option Str:=IR<|ih e
theorem Wd (v:f4 aC)(C:IR v=kZ w):∃p,aC=.Name w p:=by
 cases v with
 |name y p=>exact⟨p,congrArg (Expr.Name · p)<|kZ.inj C⟩
 |_=>exact(iF C).elim
theorem rp (C:nameOf aC=kZ w):∃p,aC=.Name w p:=Wd _ C
theorem du (C:(cD&&g3)=true):cD=true:=((abR _ _).mp C).1
theorem gZ (C:(cD&&g3)=true):g3=true:=((abR _ _).mp C).2
noncomputable def idx:List Str->Str->Option Nat
 |[],_=>By
 |y::bw,x=>if y==x then kZ 0 else(idx bw x).map (· +1)
noncomputable def idxs (nm:List Str):List Str->Option (List Nat)
 |[]=>kZ []
 |x::xs=>(idx nm x).bind λi=>(idxs nm xs).map (i:: ·)
noncomputable def tr:List Expr->Option (List Str)
 |[]=>kZ []
 |e::ah=>(nameOf e).bind λx=>(tr ah).map (x:: ·)
theorem vE:∀{i:Nat},idx nm w=kZ i->nm[i]?=kZ w:=by
 induction nm with
 |nil=>intro i C;exact bY C
 |cons y bw D=>
  intro i C;replace C:(if y==w then kZ 0 else(idx bw w).map (· +1))=kZ i:=C;split at C
  ·rename_i X;cases C;refine J (eq_of_beq X) ?_;rfl
  ·refine bg (ud.mp C) λj av e=>?_;refine a6 e ?_;exact D av
theorem yU:∀{xs:List Str} {is:List Nat},idxs nm xs=kZ is->lG nm is xs:=by
 intro h;induction h with
 |nil=>intro s C;cases C;trivial
 |cons x xs D=>intro s C;refine bg (abd.mp C) λi ai ao=>bg (ud.mp ao) λa a7 O=>?_;refine a6 O ?_;exact⟨vE ai,D a7⟩
structure eG where
 gl:List (Str×V)
 eI:List Str
structure fP (c:cz)(b6:eG):Prop where
 ok:c.Ok
 gl:∀{x u},b6.gl.lookup x=kZ u->oo c x u
 eI:∀{x},b6.eI.contains x=true->qN c x
inductive f1 {aR:Type}(P:aR->Prop):List aR->Prop
 |nil:f1 P []
 |cons {a:aR} {l:List aR} (C:P a) (t:f1 P l):f1 P (a::l)
variable{bq:aR->Prop}
theorem f1.mem (C:f1 bq aw)(m:aN∈aw):bq aN:=by
 induction C with
 |nil=>cases m
 |cons C t D=>cases m with|head=>exact C|tail _ m=>exact D m
abbrev nF:nv:=λaa ab I=>match aa with|[o]=>F3 [o] ab I|aa=>F2 aa ab I
abbrev ov:nv:=λaa ab I=>match aa with|[o]=>F1 [o] ab I|aa=>F0 aa ab I
theorem NA:eg c e (.builtin "min") nF:=by
 intro W I s ab E aa ag L S aX ad;rcases aa with _|⟨a,_|⟨b,r⟩⟩
 ·exact F5 W I s ab E _ ag L S aX ad
 ·exact NB W I s ab E _ ag L S aX ad
 ·exact F5 W I s ab E _ ag L S aX ad
theorem Ny:eg c e (.builtin "max") ov:=by
 intro W I s ab E aa ag L S aX ad;rcases aa with _|⟨a,_|⟨b,r⟩⟩
 ·exact F4 W I s ab E _ ag L S aX ad
 ·exact Nz W I s ab E _ ag L S aX ad
 ·exact F4 W I s ab E _ ag L S aX ad
structure si where
 x:Str
 v:a3
 F:Option nv
noncomputable def uK:List si:=[⟨"len",.builtin "len",kZ ou⟩,⟨"range",.type "range",By⟩,⟨"min",.builtin "min",kZ nF⟩,⟨"max",.builtin "max",kZ ov⟩,⟨"list",.type "list",kZ nE⟩,⟨"isinstance",.builtin "isinstance",By⟩, ⟨"int",.type "int",By⟩,⟨"str",.type "str",kZ cStr⟩,⟨"ord",.builtin "ord",kZ nG⟩,⟨"abs",.builtin "abs",kZ cAbs⟩,⟨"sorted",.builtin "sorted",kZ sI⟩,⟨"sum",.builtin "sum",kZ yc⟩,⟨"enumerate",.type "enumerate",By⟩,⟨"zip",.type "zip",By⟩]
noncomputable def isRef:a3->Bool|.ref _=>true|_=>false
def uJ (b:si):Bool:= !(b.x=="__name__")&& !isRef b.v
structure uu (c:cz)(n:Nat)(b:si):Prop where
 v:dS b.x=kZ b.v
 F:∀F,b.F=kZ F->eg c n b.v F
variable{U:si}
theorem M1 (C:uJ U=true):U.x≠"__name__"/\∀a,U.v≠.ref a:=by unfold uJ at C;replace C:=(Lz _)▸(Lz _)▸(abR _ _)▸C;exact⟨ne_of_beq_false C.1,λa e=>by replace C:=e▸C;exact nomatch C.2⟩
theorem nB (ai:dS w=kZ v)(C:eg c b v jP):uu c b ⟨w,v,kZ jP⟩:=⟨ai,λq e=>by cases e;exact C⟩
theorem sC (ai:dS w=kZ v):uu c e ⟨w,v,By⟩:=⟨ai,nofun⟩
theorem M3 {n:Nat}(aU:c.Ok):f1 (uu c n) uK:= .cons (nB (by ext) Nu)<|.cons (sC<|by ext)<|.cons (nB (by ext) NA)<|.cons (nB (by ext) Ny)<|.cons (nB (by ext) Nv)<|.cons (sC<|by ext)<|.cons (sC<|by ext)<|.cons (nB (by ext) NK)<|.cons (nB (by ext) NC)<|.cons (nB (by ext) Ni)<|.cons (nB (by ext)<|NH aU)<|.cons (nB (by ext) NL)<|.cons (sC<|by ext)<|.cons (sC<|by ext) .nil
theorem M2 {b:si}(C:b∈uK):uJ b=true:=abe.mp (by kernel_rfl:uK.all uJ=true) b C
variable{al:aR->Bool}
theorem GZ (C:aw.find? al=kZ aN):aN∈aw/\al aN=true:=⟨Li C,aaR C⟩
def y1 (t:Str):cz->nv:=if t=="int" then λq=>pF "int" else if t=="str" then λq=>pF "str" else x9
theorem Tz (aU:c.Ok):eg c e (.builtin "isinstance") (y1 w c):=by
 unfold y1;split
 ·exact Nq
 ·split
  ·exact Nr
  ·exact Np aU
structure sq where
 x:Str
 T:String
 id:String
 F:nv
noncomputable def Ix:List sq:=[⟨"append","list","list.append",qR⟩,⟨"extend","list","list.extend",qS⟩,⟨"get","dict","dict.get",uM⟩,⟨"rjust","str","str.rjust",sH⟩,⟨"remove","list","list.remove",yb⟩, ⟨"ljust","str","str.ljust",pG⟩,⟨"rfind","str","str.rfind",sG⟩,⟨"find","str","str.find",uL⟩,⟨"lstrip","str","str.lstrip",sF⟩,⟨"join","str","str.join",sE⟩,⟨"split","str","str.split",sJ⟩,⟨"pop","list","list.pop",ya⟩]
noncomputable def VB:sq:=⟨"insert","list","list.insert",uN⟩
structure Co (c:cz)(n:Nat)(m:sq):Prop where
 oX:jo m.T m.x m.id
 F:eg c n (.builtin m.id) m.F
theorem VD (aU:c.Ok):f1 (Co c e) Ix:=.cons ⟨VE,Nj⟩<|.cons ⟨VF,Nk⟩<|.cons ⟨VH,Nm aU⟩<|.cons ⟨VP,NG⟩<|.cons ⟨VN,NE⟩<|.cons ⟨VK,Nw⟩<|.cons ⟨VO,NF⟩<|.cons ⟨VG,Nl⟩<|.cons ⟨VL,Nx⟩<|.cons ⟨VJ,Nt⟩<|.cons ⟨VQ,NJ⟩<|.cons ⟨VM,ND⟩ .nil
def Xm (e:Expr):Bool:=ja false e (c:=λq y q=>y=="markers"||y=="order")
def zx (e:Expr)(x:Str):Option sq:=if x=="insert" then(if Xm e then kZ VB else By) else Ix.find? (·.x==x)
theorem VC {n:Nat}(aU:c.Ok){m:sq}(C:zx aC w=kZ m):Co c n m/\m.x=w:=by
 unfold zx at C;split at C
 ·rename_i X;split at C
  ·cases C;exact⟨⟨VI,Nn⟩,(eq_of_beq X).symm⟩
  ·exact bY C
 ·have:=GZ C;exact⟨(VD aU).mem this.1,eq_of_beq this.2⟩
def sD (b6:eG)(sc:ck)(nm:List Str)(x:Str):Option si:= if !(x=="__debug__")&& !(idx nm x).isSome&& !(b6.gl.lookup x).isSome&&sc.names.lookup x==kZ .globalImplicit&&b6.eI.contains x then uK.find? (·.x==x) else By
def qv (b6:eG)(sc:ck)(nm:List Str)(x:Str):a5:= if x=="__debug__" then dv else
  match idx nm x with
  |some i=>bD i
  |none=>if sc.names.lookup x==kZ .globalImplicit then
   match b6.gl.lookup x with
   |some u=>aM u
   |none=>match sD b6 sc nm x with
    |some b=>aM<|.ext b.v
    |none=>dv
   else dv
variable{Q:eG}
theorem x8 {n:Nat}(ap:fP c Q)(C:sD Q aq nm w=kZ U):uu c n U/\U.x=w/\(∀a,U.v≠.ref a)/\∀pos,bA c n aq nm (.Name w pos) (aM<|.ext U.v):=by
 unfold sD at C;split at C
 ·rename_i X;replace X:=(Lz _)▸(abR _ _)▸(abR _ _)▸(abR _ _)▸(abR _ _)▸X;have f:=GZ C;have o:=(M3 (n:=n) ap.ok).mem f.1;have e:U.x=w:=eq_of_beq f.2;have z:=M1<|M2 f.1;clear f;subst e;exact⟨o,rfl,z.2,λpos=>Zf ap.ok (ap.eI X.2) o.v z.1 (eq_of_beq X.1.2) X.1.1.1.1⟩
 ·exact bY C
theorem tp (ap:fP c Q):bA c e aq nm (.Name w pos) (qv Q aq nm w):=by
 unfold qv;split
 ·exact hn
 ·rename_i X;split
  ·rename_i i am;exact GV i (vE am)<|eq_false_of_ne_true X
  ·split
   ·rename_i z;split
    ·rename_i u j;exact JY ap.ok (ap.gl j) (eq_of_beq z)<|eq_false_of_ne_true X
    ·split
     ·rename_i b W;exact(x8 ap W).2.2.2 pos
     ·exact hn
   ·exact hn
def hz (f:Expr->a5):List Expr->a5
 |[]=>λR=>R
 |e::ah=>λR=>f e<|hz f ah R
def rN (ar:BoolOp)(f:Expr->k1):List Expr->k1
 |[]=>match ar with|.And=>λW q=>W|.Or=>λq B=>B
 |e::ah=>match ar with|.And=>λW B=>f e (rN ar f ah W B) B|.Or=>λW B=>f e W<|rN ar f ah W B
def jb (f:Stmt->a5):List Stmt->a5
 |[]=>λR=>R
 |s::r=>λR=>f s<|jb f r R
def mo (f:Expr->a5):Option Expr->a5
 |none=>λR=>R
 |some e=>λR=>f e<|f9 R
theorem zZ (C:j7 aC=true):gM (aC::ah) af=(false,eval aC af)::gM ah af:=by cases aC<;>first|rfl|exact lf C
variable{U:Expr->a5}
theorem jV (C:∀e,bA c b aq nm e<|U e):∀{ah:List Expr},ah.all j7=true->gY c b aq nm ah (hz U ah):=by
 intro h;induction h with
 |nil=>intro s;exact Ru
 |cons e ah D=>intro X;replace X:=(abR _ _)▸abf▸X;exact Rt (cy:=U e) (aZ:=hz U ah) (C e) (D X.2) λaf=>zZ X.1
theorem kM:∀{ah:List Expr},ah.all j7=true->jC ah
 |[],_,pos,af=>rfl
 |e::ah,C,pos,af=>by replace C:=(abR _ _)▸abf▸C;exact J (zZ C.1)<|kM C.2 pos af
theorem x0 {f:Expr->k1}(C:∀e,hE c b aq nm e<|f e):∀ar ah,om c b aq nm ar ah (rN ar f ah)
 |.And,[]=>R7
 |.Or,[]=>R9
 |.And,e::ah=>R6 (k2:=f e) (gj:=rN .And f ah) (C e)<|x0 C .And ah
 |.Or,e::ah=>R8 (k2:=f e) (gj:=rN .Or f ah) (C e)<|x0 C .Or ah
variable{bB:Stmt->a5}
theorem k8 (C:∀e,jN c b aq nm kx e<|bB e):∀ah,k3 c b aq nm kx ah (jb bB ah):=by
 intro h;induction h with
 |nil=>exact Rx
 |cons e ah D=>exact Rw (aZ:=bB e) (c8:=jb bB ah) (C e)<|D
theorem rC (C:∀e,bA c b aq nm e<|U e):∀e,lL c b aq nm e (mo U e)
 |none=>Sl
 |some e=>Sk<|C e
noncomputable def strOf (v:Const):Option Str:=Const.casesOn (motive:=λq=>Option Str) v By (λq=>By) (λq=>By) (λq=>By) (λq q=>By) (λx=>kZ x) (λq=>By) By
noncomputable def yj (v:f4 aC):Option Const:=f4.casesOn (motive:=λq q=>Option Const) v (λq q=>By) (λq q q q=>By) (λq q q=>By) (λq q=>By) (λq q q=>By) (λq q q q=>By) (λv q q=>kZ v) (λq q q=>By) λq=>By
variable{bx:Const}
theorem Gk (v:f4 aC)(C:yj v=kZ bx):∃k p,aC=.Constant bx k p:=by
 cases v with
 |const v k p=>exact(pd k p (congrArg (Expr.Constant · k p)<|kZ.inj C))
 |_=>exact(iF C).elim
def keyOf (k:Option Expr):Option Str:=k.bind λe=>(yj<|ih e).bind strOf
noncomputable def keysOf:List (Option Expr)->Option (List Str)
 |[]=>kZ []
 |k::a0=>(keyOf k).bind λx=>(keysOf a0).map (x:: ·)
theorem ZD (C:strOf bx=kZ w):bx=.str w:=by
 cases bx with
 |str y=>exact congrArg _<|kZ.inj C
 |_=>exact(iF C).elim
theorem TY (C:keyOf fW=kZ w):∃i p,fW=kZ (.Constant (.str w) i p):=by refine bg (abd.mp C) λe f ao=>?_;refine J f ?_;refine bg (abd.mp ao) λv a7 bR=>fz (Gk _ a7) λi p O=>?_;refine J O ?_;exact(pd i p<|J (ZD bR) rfl)
theorem QC (C:∀e,bA c b aq nm e<|U e):∀{ah:List Expr} {xs:List Str},keysOf keys=kZ xs->keys.length=ah.length->sl c b aq nm xs keys ah (hz U ah):=by
 induction keys with
 |nil=>intro ah xs ai ao;cases ah with
  |nil=>cases ai;exact RC
  |cons=>cases ao
 |cons k keys D=>intro ah xs ai ao;cases ah with
  |nil=>cases ao
  |cons e ah=>refine bg (abd.mp ai) λx am z=>bg (ud.mp z) λbw j O=>?_;refine a6 O ?_;refine fz (TY am) λi p O=>?_;refine J O ?_;exact RB (cy:=U e) (aZ:=hz U ah) (C e)<|D j<|c6.inj ao
def I8:op:=λq q q q=>False
def FY:Operator->op|.Add=>eV|.Sub=>nV|.Mod=>oMod|.FloorDiv=>oDiv|.Pow=>tw|.Mult=>m1|_=>I8
def sN:CmpOp->op|.Lt=>oLt|.LtE=>oLe|.Gt=>v9|.GtE=>m0|.Is=>tv|.IsNot=>o1|.Eq=>oEq|.NotEq=>i6|.In=>i5 false|.NotIn=>i5 true
theorem Xc:fQ c e mt I8:=λq q q q q q q q q q q q q C=>C.elim
theorem M8 (ar:Operator):fQ c e (abU ar) (FY ar):=by exact ar.rec WY Xf Xa Xc Xc W9 Xe Xc Xc Xc Xc Xc WZ
theorem uX (aU:c.Ok)(ar:CmpOp):fQ c e (Cj ar) (sN ar):=by
 cases ar
 ·exact W0
 ·exact Xb
 ·exact W8
 ·exact W7
 ·exact W2
 ·exact W1
 ·exact W4
 ·exact W5
 ·exact W3 aU
 ·exact Xd aU
set_option tactic.hygienic false
set_option tactic.hygienic true
structure gN where
 e:ck->List Str->Expr->a5
 t:ck->List Str->Expr->k1
 s:ck->List Str->Stmt->a5
structure iS (c:cz)(n:Nat)(F:gN):Prop where
 e:∀{sc nm} x,bA c n sc nm x (F.e sc nm x)
 t:∀{sc nm} x,hE c n sc nm x (F.t sc nm x)
 s:∀{sc nm} x,fh c n sc nm x (F.s sc nm x)
def KN:Const->a5
 |.int i=>aM<|.int i
 |.none=>aM .none
 |.bool b=>aM<|.bool b
 |.str x=>aM<|.str x
 |_=>dv
theorem Qv:bA c b aq nm (.Constant bx e pos) (KN bx):=by cases bx;all_goals first|exact JZ|exact Zk|exact Zh|exact Zl|exact hn
theorem q8 {X:Bool}(C:X=true->bA c b aq nm aC aZ):bA c b aq nm aC (if X=true then aZ else dv):=by
 by_cases z:X=true
 ·exact(if_pos z).symm▸C z
 ·exact(if_neg z).symm▸hn
noncomputable def one (l:List aR):Option aR:=List.casesOn (motive:=λq=>Option aR) l By λa m=>List.casesOn (motive:=λq=>Option aR) m (kZ a) λq q=>By
def rK (l:List aR):Option (aR×aR):=List.casesOn (motive:=λq=>Option<|aR×aR) l By λa m=>(one m).map (a, ·)
theorem qb (C:one aw=kZ aN):aw=[aN]:=by
 cases aw with
 |nil=>exact(iF C).elim
 |cons b m=>cases m with
  |nil=>exact congrArg (λaN=>[aN])<|kZ.inj C
  |cons=>exact(iF C).elim
theorem tP {i:aR×aR}(C:rK aw=kZ i):aw=[i.1,i.2]:=by
 cases aw with
 |nil=>exact(iF C).elim
 |cons b m=>exact bg (ud.mp C) λd ai ao=>J (qb ai)<|a6 ao rfl
def A7 (f:Expr->a5)(l:Expr)(a4:List CmpOp)(o:List Expr):a5:=
 match one a4 with
 |none=>dv
 |some ar=>match one o with
  |none=>dv
  |some r=>if ha ar r then dv else λR=>f l<|f r<|bt (sN ar) R
variable{a4:List CmpOp}
theorem Qi (aU:c.Ok)(C:∀e,bA c b aq nm e<|U e):bA c b aq nm (.Compare aC a4 ah pos) (A7 U aC a4 ah):=by
 unfold A7;split
 ·exact hn
 ·rename_i ar am;split
  ·exact hn
  ·rename_i r z;refine J (qb am)<|J (qb z) ?_;split
   ·exact hn
   ·rename_i X;exact RJ (uX aU ar) (C aC) (C r)<|eq_false_of_ne_true X
def Bj (f:Expr->a5)(l:Expr)(a4:List CmpOp)(o:List Expr):k1:=
 match one a4 with
 |some ar=>match one o with
  |none=>λq q=>fm
  |some r=>if ha ar r then λq q=>fm else λW B=>f l<|f r<|bt (sN ar)<|a8 W B
 |none=>match rK a4 with
  |none=>λq q=>fm
  |some w=>match rK o with
   |none=>λq q=>fm
   |some D=>if lastMarks [w.1,w.2] [D.1,D.2] then λq q=>fm else λW B=>f l<|f D.1<|vB (sN w.1) (f D.2<|bt (sN w.2)<|a8 W B) B
theorem ZR (aU:c.Ok)(C:∀e,bA c b aq nm e<|U e):hE c b aq nm (.Compare aC a4 ah pos) (Bj U aC a4 ah):=by
 unfold Bj;split
 ·rename_i ar am;split
  ·exact pR
  ·rename_i r z;refine J (qb am)<|J (qb z) ?_;split
   ·exact pR
   ·rename_i X;exact SG (uX aU ar) (C aC) (C r)<|eq_false_of_ne_true X
 ·split
  ·exact pR
  ·rename_i w am;split
   ·exact pR
   ·rename_i D z;refine J (tP am)<|J (tP z) ?_;split
    ·exact pR
    ·rename_i X;have X:=eq_false_of_ne_true X;exact SF (uX aU _) (uX aU _) (C aC) (C _) (C _) X
def A4 (f:Expr->a5):List Expr->a5
 |[]=>dv
 |e::ah=>List.casesOn (motive:=λq=>a5) ah (f e) λq q R=>f e<|a8 (A4 f ah R)<|aM (.bool false) R
def KL (f:Expr->a5)(ar:BoolOp)(ah:List Expr):a5:=BoolOp.casesOn (motive:=λq=>a5) ar (A4 f ah) dv
theorem MB (C:∀e,bA c b aq nm e<|U e):∀ah,bA c b aq nm (.BoolOp .And ah pos) (A4 U ah):=by
 intro ah;induction ah with
 |nil=>exact hn
 |cons e ah D=>cases ah with
  |nil=>exact RD<|C e
  |cons a r=>exact RE (C e) D
theorem M7 (C:∀e,bA c b aq nm e<|U e):bA c b aq nm (.BoolOp nO ah pos) (KL U nO ah):=by
 cases nO
 ·exact MB C ah
 ·exact hn
def A9 (f:Expr->a5)(a0:List (Option Expr))(ah:List Expr):a5:= if a0.isEmpty&&ah.isEmpty then mV else
  match keysOf a0 with
  |none=>dv
  |some xs=>if a0.all (·.isSome)&&a0.length==ah.length&& !a0.isEmpty&&dN a0.length 15 then λR=>hz f ah (yQ xs (eL xs.length []) R) else dv
theorem QN (C:∀e,bA c b aq nm e<|U e):bA c b aq nm (.Dict keys ah pos) (A9 U keys ah):=by
 unfold A9;split
 ·rename_i X;replace X:=(propext LG)▸(propext LG)▸(abR _ _)▸X;exact J X.1<|J X.2<|RP
 ·split
  ·exact hn
  ·rename_i xs am;split
   ·rename_i X;replace X:=(abR _ _)▸(abR _ _)▸(abR _ _)▸X;exact RO (QC C am<|eq_of_beq X.1.1.2) X.1.1.1 (eq_of_beq X.1.1.2) (λe=>by replace X:=e▸X;exact absurd X.1.2<|by decide)<|r6 X.2
   ·exact hn
def ts (e:Expr):Bool:=ja true e (k:=λg as a0 q=>ja true g (d:=λq q=>List.casesOn (motive:=λq=>Bool) as (List.casesOn (motive:=λq=>Bool) a0 false λq q=>true) λq q=>true))
theorem I2 (C:ts aC=true):attributeBase aC name af fL=fL:=by
 cases aC;all_goals first|rfl|skip
 rename_i g as a0 _;cases g;all_goals first|rfl|skip
 cases as with
 |nil=>cases a0 with
  |nil=>exact lf C
  |cons=>rfl
 |cons=>rfl
theorem ML (C:ts aC=true)(af:Env):eval (.Attribute aC w pos) af=(do
 let o<-eval aC af;ach pos.atName;let r<-io [o] (Lh o w true);aaP aC o r;pure r):=by
 refine(?_:(do let o<-attributeBase aC w af (eval aC af);_)=_);exact J (I2 C) rfl
theorem vF (C:(if cD=true then kZ aN else By)=kZ h2):cD=true/\aN=h2:=by
 by_cases z:cD=true
 ·exact⟨z,kZ.inj<|(if_pos z).symm.trans C⟩
 ·exact(iF<|(if_neg z).symm.trans C).elim
noncomputable def Kw (v:f4 aC):Option Expr:=f4.casesOn (motive:=λq q=>Option Expr) v (λq q=>By) (λq q q q=>By) (λq q q=>By) (λq q=>By) (λq q q=>By) (λq q q q=>By) (λq q q=>By) (λar x q=>UnaryOp.casesOn (motive:=λq=>Option Expr) ar By By By<|kZ x) λq=>By
theorem Z6 (v:f4 aC)(C:Kw v=kZ aP):∃p,aC=.UnaryOp .USub aP p:=by
 cases v with
 |unop ar y p=>
  cases ar with
  |USub=>exact⟨p,congrArg (ue .USub · p)<|kZ.inj C⟩
  |_=>exact(iF C).elim
 |_=>exact(iF C).elim
noncomputable def dP (v:Const):Bool:=Const.casesOn (motive:=λq=>Bool) v false (λq=>false) (λi=>i==1) (λq=>false) (λq q=>false) (λq=>false) (λq=>false) false
theorem S7 (C:dP bx=true):bx=.int 1:=by
 cases bx with
 |int i=>exact congrArg _<|eq_of_beq (C:(i==1)=true)
 |_=>exact lf C
def y0 (e:Expr):Bool:=((Kw<|ih e).bind λx=>(yj<|ih x).bind λv=>if dP v=true then kZ v else By).isSome
theorem Vk (C:y0 aC=true):bA c b aq nm aC (aM<|.int (-1)):=by refine bP λbz aN=>?_;obtain⟨v,ai⟩:=Ci.mp C;refine bg (abd.mp ai) λx a7 bR=>bg (abd.mp bR) λw dy eS=>?_;obtain⟨p,rfl⟩:=Z6 _ a7;refine fz (Gk _ dy) λk X O=>?_;clear bR dy C ai a7;replace aN:=O▸aN;obtain rfl:=S7 (vF eS).1;exact aN<|Zj
abbrev vC (eI b:Bool)(R:aI):aI:=Hs (λK q l aa=>∃ag e,K.base.get? l=kZ (listOf ag e)/\bV aa ag.toList) eI b R
theorem RM (C:bA c b aq nm aC aZ)(an:lL c b aq nm fW Cl)(aQ:lL c b aq nm kP cy):bA c b aq nm (.Subscript aC (.Slice fW kP By cL) pos) λR=>aZ (Cl<|cy<|vC fW.isSome kP.isSome R):= RN (P:=λK q l aa=>∃ag b,K.base.get? l=kZ (listOf ag b)/\bV aa ag.toList) (λS C=>dw C λag k e i=>⟨ag,k,S.keep _ _ e,i⟩) C an aQ
def KS (f:Expr->a5)(v:Expr)(s:Expr):a5:= ja (λR=>f v<|f s<|bt gc R) s (b:=λl u st q=>Option.casesOn (motive:=λq=>a5) st (if nameOf v==kZ "script" then λR=>f v (mo f l<|mo f u<|vC l.isSome u.isSome R) else λR=>f v<|mo f l<|mo f u<|oJ l.isSome u.isSome R) λst=>if l.isNone&&u.isNone&&y0 st then λR=>f v (pW R) else dv)
theorem ZH (C:∀e,bA c b aq nm e<|U e):bA c b aq nm (.Subscript aC aP pos) (KS U aC aP):=by
 cases aP;all_goals first|exact RR (C aC) (C _) (λq q=>rfl)|skip
 rename_i l u st p;cases st with
 |none=>
  refine(?_:bA c b aq nm (.Subscript aC (.Slice l u By p) pos) (if nameOf aC==kZ "script" then λR=>U aC (mo U l<|mo U u<|vC l.isSome u.isSome R) else λR=>U aC<|mo U l<|mo U u<|oJ l.isSome u.isSome R));split
  ·exact RM (C aC) (rC C l)<|rC C u
  ·exact RL (C aC) (rC C l)<|rC C u
 |some st=>refine q8 (X:=l.isNone&&u.isNone&&y0 st) λX=>?_;replace X:=(propext abg)▸(propext abg)▸(abR _ _)▸(abR _ _)▸X;exact X.1.1▸X.1.2▸RV (C aC) (Vk X.2)
def A6 (b6:eG)(sc:ck)(nm:List Str)(f:Expr->a5)(ah:List Expr)(x:Str):a5:=
 if ah.all j7 then
  match sD b6 sc nm x with
  |some b=>match b.F with
   |some G=>λR=>hz f ah<|cG G (eL ah.length []) R
   |none=>if b.v==.builtin "isinstance" then(match ah[1]?.bind nameOf with|some t=>λR=>hz f ah (yP (y1 t) (eL ah.length []) R)|none=>dv) else dv
  |none=>λR=>qv b6 sc nm x<|cf<|hz f ah<|dV (eL ah.length []) R
 else dv
def KM (b6:eG)(sc:ck)(nm:List Str)(f:Expr->a5)(pos:Pos)(ah:List Expr)(g:Expr):a5:= ja dv g (d:=λx q=>A6 b6 sc nm f ah x) (c:=λe x h4=>if ah.all j7&&dN (ah.length+1) 30&&h4.endLine==pos.line&&ts e then(match zx e x with|some m=>λR=>f e (q6 m.T<|hz f ah<|cG m.F (eL (ah.length+1) []) R)|none=>λR=>f e<|dz x<|hz f ah<|dV (eL (ah.length+1) []) R) else dv)
theorem Sj:∀{ah:List Expr} {af:Env} {pos:Pos},ah.all j7=true->(L9 pos<|gM ah af).all (!·.1)=true:=by
 intro h;induction h with
 |nil=>intro s l d;exact rfl
 |cons e ah D=>intro af pos C;replace C:=(abR _ _)▸abf▸C;exact J (zZ C.1)<|D C.2
theorem IA (C:(ah.all j7&&dN (ah.length+1) 30&&h4.endLine==pos.line&&ts aC)=true)(af:Env):eval (.Call (.Attribute aC w h4) ah [] pos) af=(do
 let c2<-eval aC af;ach h4.atName;let(U,first)<-io [c2] (Ll c2 w<|(λaf=>do return (<-importBound aC af).getD true) af);kd pos U first (L9 pos<|gM ah af)<|wU pos<|Bx [] af):=by
 replace C:=(abR _ _)▸(abR _ _)▸(abR _ _)▸C;have hf:methodCallForm (ah.length+([]:List Keyword).length) (L9 pos<|gM ah af) (wU pos<|Bx [] af)=true:=by refine(?_:((L9 pos<|gM ah af).all (!·.1)&&true&&decide (ah.length+0+0<30))=true);refine J (Sj C.1.1.1)<|J (decide_eq_true (r6 C.1.1.2:ah.length+0+0<30)) ?_;rfl
 refine(?_:(do let c2<-attributeBase aC w af (eval aC af);ach h4.atName;methodCall aC w h4 pos af c2 (ah.length+([]:List Keyword).length) (L9 pos<|gM ah af)<|wU pos<|Bx [] af)=_);refine J (I2 C.2) ?_;unfold methodCall methodCallPos;refine J hf<|J C.1.2 ?_;rfl
theorem Nh (ap:fP c Q)(C:∀e,bA c i aq nm e<|U e):bA c i aq nm (.Call (.Name w cL) ah [] pos) (A6 Q aq nm U ah w):=by
 unfold A6;split
 ·rename_i X;split
  ·rename_i b am;refine i7 (x8 (n:=i) ap am) λk f aB aO=>?_;clear am;subst f;split
   ·rename_i G z;exact RI (aO cL) aB (k.F G z) (jV C X)<|kM X
   ·split
    ·rename_i a8;have a8:b.v=.builtin "isinstance":=eq_of_beq a8;have aO:=aO cL;rw[a8] at aO aB;split
     ·exact GU aO aB (Tz ap.ok) (jV C X)<|kM X
     ·exact hn
    ·exact hn
  ·exact RH ap.ok (tp ap) (jV C X)<|kM X
 ·exact hn
theorem Ng (ap:fP c Q)(C:∀e,bA c b aq nm e<|U e):bA c b aq nm (.Call aC ah [] pos) (KM Q aq nm U pos ah aC):=by
 cases aC;all_goals first|exact hn|exact Nh ap C|skip
 refine q8 λX=>?_;have aP:=X;replace aP:=(abR _ _)▸(abR _ _)▸(abR _ _)▸aP;split
 ·rename_i m aS;obtain⟨k,rfl⟩:=VC (n:=b) ap.ok aS;exact RU k.oX k.F (C _) (jV C aP.1.1.1) (kM aP.1.1.1)<|IA X
 ·exact RT ap.ok (C _) (jV C aP.1.1.1) (kM aP.1.1.1)<|IA X
noncomputable def Kr (v:f4 aC):Option (List Expr):=f4.casesOn (motive:=λq q=>Option<|List Expr) v (λq q=>By) (λq q q q=>By) (λq q q=>By) (λq q=>By) (λah q q=>kZ ah) (λq q q q=>By) (λq q q=>By) (λq q q=>By) λq=>By
theorem ZY (v:f4 aC){x:List Expr}(C:Kr v=kZ x):∃k p,aC=.Tuple x k p:=by
 cases v with
 |tup ah k p=>exact(pd k p (congrArg (Expr.Tuple · k p)<|kZ.inj C))
 |_=>exact(iF C).elim
def wC (e:Expr):Option (List Expr):=Kr<|ih e
theorem Ks (C:wC aC=kZ ah):∃k p,aC=.Tuple ah k p:=ZY _ C
theorem We (C:tr ah=kZ [w,name]):∃p X,ah=[.Name w p,.Name name X]:=by
 cases ah with
 |nil=>cases C
 |cons a ah=>
  refine bg (abd.mp C) λO am z=>bg (ud.mp z) λbw j e=>?_;cases e;refine fN (rp am) λp aW=>J aW ?_;clear z C;cases ah with
  |nil=>cases j
  |cons b ah=>
   refine bg (abd.mp j) λk W ag=>bg (ud.mp ag) λzs c e=>?_;cases e;refine fN (rp W) λX aW=>J aW ?_;cases ah with
   |nil=>exact pd p X rfl
   |cons d ah=>refine fw ?_;intro r;refine bg (abd.mp c) λq q bn=>?_;refine bg (ud.mp bn) λq q e=>?_;cases e
noncomputable def yh (v:f4 aC):Option (Expr×List Expr):=f4.casesOn (motive:=λq q=>Option<|Expr×List Expr) v (λq q=>By) (λg ah a0 q=>bif a0.isEmpty then kZ (g,ah) else By) (λq q q=>By) (λq q=>By) (λq q q=>By) (λq q q q=>By) (λq q q=>By) (λq q q=>By) λq=>By
theorem Gg (v:f4 aC){x:Expr×List Expr}(C:yh v=kZ x):∃p,aC=.Call x.1 x.2 [] p:=by
 cases v with
 |call g ah a0 p=>
  cases a0 with
  |nil=>exact⟨p,(kZ.inj C)▸rfl⟩
  |cons=>exact(iF C).elim
 |_=>exact(iF C).elim
def wm (b6:eG)(sc:ck)(nm:List Str)(w:Str)(e:Expr):Option (List Expr):=(yh<|ih e).bind λp=>if(nameOf p.1==kZ w&&(sD b6 sc nm w).isSome&&p.2.all j7)=true then kZ p.2 else By
theorem Aq {n:Nat}(ap:fP c Q)(aV:dS w=kZ v)(C:wm Q aq nm w aC=kZ ah):∃fb cL,aC=.Call (.Name w fb) ah [] cL/\bA c n aq nm (.Name w fb) (aM<|.ext v)/\ah.all j7=true:=by refine bP λbz aN=>?_;obtain⟨⟨g,a1⟩,ai,ao⟩:=abd.mp C;obtain⟨cL,e⟩:=Gg _ ai;obtain⟨r,rfl⟩:=vF ao;obtain⟨p,bo⟩:=rp<|eq_of_beq<|du<|du r;obtain⟨b,aA⟩:=Ci.mp<|gZ<|du r;exact i7 (x8 (n:=n) ap aA) λk a8 q aO=>aN<|(dM p cL (e.trans (congrArg (LH · a1 [] cL) bo)) (kZ.inj (k.v.symm.trans<|(congrArg dS a8).trans aV)▸a8▸aO p)<|gZ r)
def wB (t:Expr):Option (List Str):=match nameOf t with
 |some x=>kZ [x]
 |none=>(wC t).bind λah=>(tr ah).bind λxs=>(rK xs).map λp=>[p.1,p.2]
theorem AS (C:wB aC=kZ nm):k5 aC nm:=by
 unfold wB at C;split at C
 ·rename_i x X;refine fN (rp X) λp aW=>J aW ?_;cases C;exact .one x p
 ·refine bg (abd.mp C) λah ai ao=>bg (abd.mp ao) λbw a7 bR=>bg (ud.mp bR) λp dy eS=>fz (Ks ai) λk fD e=>J e ?_;replace a7:=(tP dy)▸a7;exact fz (We a7) λel dg aW=>J aW<|eS▸.two _ _ el dg k fD
def Bc (b6:eG)(sc:ck)(nm:List Str)(f:Expr->a5)(e:Expr):sj:=
 match wm b6 sc nm "enumerate" e with
 |some ah=>λR=>hz f ah<|yR (eL ah.length []) R
 |none=>match wm b6 sc nm "zip" e with
  |some ah=>λR=>hz f ah<|q7 (eL ah.length []) R
  |none=>λq=>fm
theorem TC (ap:fP c Q)(C:∀e,bA c b aq nm e<|U e)(e:Expr):lJ c b aq nm e 2 (Bc Q aq nm U e):=by
 unfold Bc;split
 ·rename_i ah X;refine bP λbz aN=>gG (Aq (n:=b) ap (w:="enumerate") (v:=.type "enumerate") (by ext) X) λfb cL O aO ax=>?_;clear X;replace aN:=O▸aN;exact aN<|RX aO (jV C ax)<|kM ax
 ·split
  ·rename_i ah X;refine bP λbz aN=>gG (Aq (n:=b) ap (w:="zip") (v:=.type "zip") (by ext) X) λfb cL O aO ax=>?_;clear X;replace aN:=O▸aN;exact aN<|R0 aO (jV C ax)<|kM ax
  ·exact⟨λq q q q q q q q q q q q q ad=>ad.elim⟩
def Bb (b6:eG)(sc:ck)(nm:List Str)(f:Expr->a5)(e:Expr):sj:=
 match wm b6 sc nm "range" e with
 |some ah=>λR=>hz f ah<|kF (eL ah.length []) R
 |none=>λR=>f e<|et R
theorem TB (ap:fP c Q)(C:∀e,bA c b aq nm e<|U e)(e:Expr):lJ c b aq nm e 1 (Bb Q aq nm U e):=by
 unfold Bb;split
 ·rename_i ah X;refine bP λbz aN=>gG (Aq (n:=b) ap (w:="range") (v:=.type "range") (by ext) X) λfb cL O aO ax=>?_;clear X;replace aN:=O▸aN;exact aN<|RY aO (jV C ax)<|kM ax
 ·exact RZ<|C e
def wJ (b6:eG)(sc:ck)(nm:List Str)(f:Expr->a5)(xs:List Str)(e:Expr):sj:=List.casesOn (motive:=λq=>sj) xs (λq=>fm) λq t=>List.casesOn (motive:=λq=>sj) t (Bb b6 sc nm f e) λq q=>Bc b6 sc nm f e
theorem y2 (ap:fP c Q)(C:∀e,bA c b aq nm e<|U e)(bu:k5 aC ch)(e:Expr):lJ c b aq nm e ch.length (wJ Q aq nm U ch e):=by
 cases bu with
 |one=>exact TB ap C e
 |two=>exact TC ap C e
theorem zY (C:v8 aC=true):r4 aC af v=pure v:=by cases aC;all_goals first|rfl|exact lf C
noncomputable def sU (s:ck):List Str:=(s.names.filter (·.2==.free)).map (·.1)
structure xp where
 xs:List Str
 it:Expr
 is:List Nat
 t:Option Expr
noncomputable def Ht (K:List Expr):Option (Option Expr):=List.casesOn (motive:=λq=>Option<|Option Expr) K (kZ By) λt l=>List.casesOn (motive:=λq=>Option<|Option Expr) l (kZ<|kZ t) λq q=>By
theorem Tb (C:Ht ah=kZ fW):ah=fW.toList:=by
 cases ah with
 |nil=>cases C;rfl
 |cons t l=>cases l with
  |nil=>cases C;rfl
  |cons=>exact bY C
def ym (sc:ck)(nm:List Str)(aq:ck)(gens:List LF):Option xp:= (one gens).bind λg=>(wB g.target).bind λxs=>(idxs nm<|sU aq).bind λis=>(Ht g.ifs).bind λt=>if g.is_async==0&&v8 g.iter&&yn sc aq nm xs (sU aq) is then kZ ⟨xs,g.iter,is,t⟩ else By
structure Md (sc:ck)(nm:List Str)(aq:ck)(gens:List LF)(p:xp):Prop where
 e:∃aP,gens=[⟨aP,p.it,p.t.toList,0⟩]/\k5 aP p.xs
 ok:pq sc aq nm p.xs (sU aq) p.is
 s:v8 p.it=true
variable{gens:List LF}
theorem Gr {p:xp}(C:ym e3 nm aq gens=kZ p):Md e3 nm aq gens p:=by refine bP λbz aN=>?_;obtain⟨⟨t,it,K,a⟩,ai,ao⟩:=abd.mp C;refine bg (abd.mp ao) λxs a7 bR=>bg (abd.mp bR) λis dy eS=>bg (abd.mp eS) λo e q=>?_;obtain⟨X,rfl⟩:=vF q;refine aN ?_;have am:K=o.toList:=Tb e;have z:a=0:=eq_of_beq<|du<|du X;exact⟨⟨t,J (qb ai)<|J am<|J z rfl,AS a7⟩,Qt<|gZ X,gZ<|du X⟩
def Bd (F:gN)(sc:ck)(nm:List Str)(aC:Expr)(t:Option Expr):sm:=Option.casesOn (motive:=λq=>sm) t (λk am ab q I=>ow k (F.e sc nm aC bf) am ab I) λt k am ab N I=>yp k (F.t sc nm t (F.e sc nm aC bf) bv) am ab N I
variable{F:gN}
theorem HL (C:iS c e F)(t:Option Expr):qL c e aq nm t.toList aC (Bd F aq nm aC t):=by
 cases t with
 |none=>exact R5<|C.e aC
 |some t=>exact R4 (C.t t)<|C.e aC
def A8 (b6:eG)(sc:ck)(nm:List Str)(F:gN)(aC:Expr)(aq:ck)(gens:List LF):a5:=
 match ym sc nm aq gens with
 |none=>dv
 |some p=>λR=>wJ b6 sc nm (F.e sc nm) p.xs p.it<|q4 p.is (Bd F (ly sc aq) (p.xs++sU aq) aC p.t) R
theorem Qq (ap:fP c Q)(C:iS c b F):bA c b e3 nm (.ListComp aC gens aq pos) (A8 Q e3 nm F aC aq gens):=by
 unfold A8;split
 ·exact hn
 ·rename_i p X;obtain⟨⟨aP,e,bu⟩,ok,s⟩:=Gr X;exact J e<|RK p.is bu ok (y2 ap C.e bu p.it) (HL C p.t) λaf v=>zY s
def KP (b6:eG)(F:gN)(sc:ck)(nm:List Str)(e:Expr):a5:= ja dv e (d:=λx q=>qv b6 sc nm x) (w:=λv q q=>KN v) (u:=λl ar r q R=>F.e sc nm l<|F.e sc nm r<|bt (FY ar) R) (i:=λar x q=>UnaryOp.casesOn (motive:=λq=>a5) ar dv dv dv λR=>F.e sc nm x<|mc R) (n:=λt a b q R=>F.t sc nm t (F.e sc nm a R)<|F.e sc nm b R) (m:=λl a4 o q=>A7 (F.e sc nm) l a4 o) (f:=λar ah q=>KL (F.e sc nm) ar ah) (A:=λah q=>if ah.all j7 then λR=>hz (F.e sc nm) ah (eT (eL ah.length []) R) else dv) (p:=λah q q=>if ah.all j7 then λR=>hz (F.e sc nm) ah (i4 (eL ah.length []) R) else dv) (y:=λa0 ah q=>A9 (F.e sc nm) a0 ah) (c:=λe x q=>if ts e then λR=>F.e sc nm e (cA x R) else dv) (j:=λv s q=>KS (F.e sc nm) v s) (h:=λaC gens aq q=>A8 b6 sc nm F aC aq gens) (k:=λg ah a0 pos=>if a0.isEmpty then KM b6 sc nm (F.e sc nm) pos ah g else dv)
theorem Rp (ap:fP c Q)(C:iS c i F)(e:Expr):bA c i e3 nm e (KP Q F e3 nm e):=by
 cases e with
 |Name x pos=>exact tp ap
 |Constant v k pos=>exact Qv
 |BinOp l ar r pos=>exact RG (M8 ar) (C.e l)<|C.e r
 |UnaryOp ar x pos=>cases ar;all_goals first|exact hn|exact GW<|C.e x
 |IfExp t a b pos=>exact RQ (C.t t) (C.e a)<|C.e b
 |Compare l a4 o pos=>exact Qi ap.ok C.e
 |BoolOp ar ah pos=>exact M7 C.e
 |List ah pos=>exact q8 λX=>RS<|jV C.e X
 |Tuple ah k pos=>exact q8 λX=>RW<|jV C.e X
 |Dict a0 ah pos=>exact QN C.e
 |Attribute e x pos=>exact q8 λX=>RF ap.ok (C.e e)<|ML X
 |Subscript v s pos=>exact ZH C.e
 |ListComp aC gens aq pos=>exact Qq ap C
 |Call g ah a0 pos=>exact q8 λX=>LG.mp X▸Ng ap C.e
 |_=>exact hn
def KT (F:gN)(sc:ck)(nm:List Str)(e:Expr):k1:= ja (λW B=>F.e sc nm e<|a8 W B) e (i:=λar x q=>UnaryOp.casesOn (motive:=λq=>k1) ar (λW B=>F.e sc nm e<|a8 W B) (λW B=>F.t sc nm x B W) (λW B=>F.e sc nm e<|a8 W B) λW B=>F.e sc nm e<|a8 W B) (f:=λar ah q=>rN ar (F.t sc nm) ah) (n:=λq q q q q q=>fm) (m:=λl a4 o q=>Bj (F.e sc nm) l a4 o)
theorem ZX (aU:c.Ok)(C:iS c i F)(e:Expr):hE c i aq nm e (KT F aq nm e):=by
 cases e with
 |UnaryOp ar x pos=>cases ar;all_goals first|exact SH (C.t x)|exact Hb (C.e _) λq q=>rfl
 |BoolOp ar ah pos=>exact SE<|x0 C.t ar ah
 |IfExp t a b pos=>exact pR
 |Compare l a4 o pos=>exact ZR aU C.e
 |_=>exact Hb (C.e _) λq q=>rfl
set_option tactic.hygienic false
set_option tactic.hygienic true
def Kc (sc aq:ck)(t:Str)(pos a:Pos):Bool:=(oy sc).blockKind==.function&&(oy sc).kindOf t==kZ .local&&pos.line==a.line&& !(aq.names.any λ(e,k)=>e==t&&(k==.local||k==.cell))
theorem Kd (C:af.scope=e3):nr (.ListComp aC gens aq pos) (kZ<|.Name w cL) kG af=pure (Kc e3 aq w cL pos):=by refine a6 C ?_;rfl
theorem II (C:zH aC=true):nr aC fW kG af=pure false:=by cases aC;all_goals first|rfl|exact lf C
def isName (e:Expr):Bool:=(nameOf e).isSome
theorem v4 {t:Expr}(C:isName t=false):nr aC (kZ t) kG af=pure false:=by
 cases aC;all_goals first|rfl|skip
 all_goals cases t;all_goals first|rfl|exact Kf C
def AM (sc:ck)(bV ag:List Expr):Option (Option<|List Str):=
 if(!(bV.length==2||bV.length==3)||ag.length !=bV.length||(oy sc).blockKind !=.function)=true then kZ By else
 if(ag.any λ|.Starred .. =>true|_=>false)=true then kZ By else
 let kG:=(bV.head?.map (·.pos.line)).getD 0
 let names:=bV.filterMap λ
  |.Name id pos=>if(oy sc).kindOf id==kZ .local&&pos.line==kG then kZ id else By
  |_=>By
 if(names.length !=bV.length||names.eraseDups.length !=names.length)=true then kZ By else
 if ag.all (foldedForSure 8)=true then kZ By else
 if ag.all (constantsAlone 8)=true then By else kZ (kZ names)
theorem ZM {a:List Expr}(C:AM aq ah a=kZ iT):BJ [.Tuple ah e pos] (.Tuple a b cL) (oy aq)=pure iT:=by
 unfold AM at C;unfold BJ;by_cases am:(!(ah.length==2||ah.length==3)||a.length !=ah.length||(oy aq).blockKind !=.function)=true
 ·replace C:=(if_pos am)▸C;cases C;dsimp only;exact if_pos am
 replace C:=(if_neg am)▸C;dsimp only;refine J (if_neg am) ?_;by_cases z:(a.any λ|.Starred .. =>true|_=>false)=true
 ·replace C:=(if_pos z)▸C;cases C;exact if_pos z
 replace C:=(if_neg z)▸C;refine(if_neg z).trans ?_;dsimp only at C;split at C
 ·rename_i X;cases C;exact if_pos X
 rename_i j;refine(if_neg j).trans ?_;split at C
 ·rename_i X;cases C;exact if_pos X
 rename_i W;refine(if_neg W).trans ?_;split at C
 ·exact bY C
 rename_i ag;cases C;exact if_neg ag
theorem FL:∀{a:List Expr} {xs:List Str},tr a=kZ xs->Binds c af ((cJ a af).map (·.2)) xs/\(cJ a af).findIdx? (·.1)=By:=by
 intro h;induction h with
 |nil=>intro s C;cases C;exact⟨trivial,rfl⟩
 |cons e ah D=>intro s C;refine bg (abd.mp C) λx am z=>bg (ud.mp z) λbw j O=>?_;refine a6 O ?_;refine fN (rp am) λp aW=>J aW ?_;have D:=D j;refine⟨⟨λq q q q q C=>qy C,D.1⟩,?_⟩;refine(?_:(List.findIdx? _<|(false,_)::cJ ah af)=By);refine J List.findIdx?_cons<|J D.2 ?_;rfl
theorem WE (C:wC aC=By):BJ [.Tuple ah e pos] aC af=pure By:=by cases aC;all_goals first|rfl|exact g4 C
def wz (sc:ck)(a:List Expr)(v:Expr):Option (Option<|List Str):=match wC v with|none=>kZ By|some ag=>AM sc a ag
theorem AL (C:wz aq ah aC=kZ iT)(af:Env)(he:af.scope=aq):BJ [.Tuple ah e pos] aC af=pure iT:=by
 unfold wz at C;split at C
 ·rename_i X;cases C;exact WE X
 ·rename_i ag X;refine fz (Ks X) λaN d O=>?_;refine J O ?_;exact ZN he<|ZM C
def Au (e:Expr):Option (Expr×Expr):=ja By e (j:=λo i q=>kZ (o,i))
variable{a4:Expr×Expr}
theorem JN (C:Au aC=kZ a4):∃X,aC=.Subscript a4.1 a4.2 X:=by
 cases aC with
 |Subscript o i X=>exact⟨X,(kZ.inj C)▸rfl⟩
 |_=>exact(iF C).elim
def JM (ah:List Expr):Option ((Expr×Expr)×(Expr×Expr)):=(rK ah).bind λp=>(Au p.1).bind λa=>(Au p.2).map (a, ·)
theorem YR {p:(Expr×Expr)×(Expr×Expr)}(C:JM ah=kZ p):∃X r,ah=[.Subscript p.1.1 p.1.2 X,.Subscript p.2.1 p.2.2 r]:=by exact bg (abd.mp C) λd ai ao=>bg (abd.mp ao) λa a7 bR=>bg (ud.mp bR) λb dy eS=>fN (JN a7) λX a8=>fN (JN dy) λr bo=>pd X r<|J (tP ai)<|J a8<|J bo<|a6 eS rfl
def Bl (sc:ck)(f:Expr->a5)(a:List Expr)(v:Expr):a5:=match JM a with
 |none=>dv
 |some X=>match wz sc a v with
  |some By=>λR=>f v<|yT<|f X.1.1<|f X.1.2<|gu<|f X.2.1<|f X.2.2<|gu R
  |_=>dv
theorem Z3 (C:∀e,bA c i aq nm e<|U e)(ax:∀af,hB [.Tuple ah b fD] aC pos.line af=pure false):fh c i aq nm (.Assign [.Tuple ah b fD] aC pos) (Bl aq U ah aC):=by
 unfold Bl;split
 ·exact jX
 ·rename_i X am;refine fz (YR am) λel dg e=>?_;subst e;split
  ·rename_i z;exact Sy (C aC) (C _) (C _) (C _) (C _) ax (λaf he=>AL z af he) λaf=>rfl
  ·exact jX
def Bk (sc:ck)(nm:List Str)(f:Expr->a5)(a:List Expr)(v:Expr):a5:=
 match tr a with
 |none=>Bl sc f a v
 |some xs=>match wz sc a v with
  |none=>dv
  |some o=>match idxs nm (match o with|none=>xs|some bw=>bw.reverse) with
   |none=>dv
   |some is=>if o.isSome then λR=>f v (j4 is R) else λR=>f v<|hq is R
theorem Z0 (C:∀e,bA c i aq nm e<|U e):fh c i aq nm (.Assign [.Tuple ah b fD] aC pos) (Bk aq nm U ah aC):=by
 have ax:∀af,hB [.Tuple ah b fD] aC pos.line af=pure false:=λaf=>v4 (t:=.Tuple ah b fD) (kG:=pos.line) (af:=af) rfl;unfold Bk;split
 ·exact Z3 C ax
 ·rename_i xs am;split
  ·exact jX
  ·rename_i o z;split
   ·exact jX
   ·rename_i is j;cases o with
    |none=>exact SB is (C aC) ax (λaf he=>AL z af he) (yU j) (λaf=>(FL am).1) λaf=>(FL (c:=c) am).2
    |some bw=>exact SA is (C aC) ax (λaf he=>AL z af he)<|yU j
def Bh (b6:eG)(sc:ck)(nm:List Str)(F:gN)(i:Nat)(y:Str)(gU:Pos)(aC:Expr)(gens:List LF)(aq:ck)(a:Pos):a5:=
 if Kc sc aq y gU a then
  match ym sc nm aq gens with
  |none=>dv
  |some p=>λR=>wJ b6 sc nm (F.e sc nm) p.xs p.it<|q4 p.is (Bd F (ly sc aq) (p.xs++sU aq) aC p.t)<|b3 i R
 else λR=>F.e sc nm (.ListComp aC gens aq a)<|b3 i R
theorem YU (ap:fP c Q)(C:iS c b F)(G:nm[i]?=kZ w):fh c b e3 nm (.Assign [.Name w gU] (.ListComp aC gens aq cL) pos) (Bh Q e3 nm F i w gU aC gens aq cL):=by
 unfold Bh;split
 ·rename_i X;split
  ·exact jX
  ·rename_i p am;obtain⟨⟨aP,e,bu⟩,ok,s⟩:=Gr am;exact J e<|Sx i p.is G bu ok (y2 ap C.e bu p.it) (HL C p.t) (λaf v=>zY s) λaf he=>(Kd he).trans<|J X rfl
 ·rename_i X;exact Ha i G (C.e _) λaf he=>(Kd he).trans<|J (eq_false_of_ne_true X) rfl
def aas (b6:eG)(sc:ck)(nm:List Str)(F:gN)(y:Str)(gU:Pos)(i:Nat)(v:Expr):a5:= ja (if zH v then λR=>F.e sc nm v (b3 i R) else dv) v (h:=λaC gens aq a=>Bh b6 sc nm F i y gU aC gens aq a)
def Bi (b6:eG)(sc:ck)(nm:List Str)(F:gN)(y:Str)(gU:Pos)(v:Expr):a5:=match idx nm y with
 |none=>dv
 |some i=>aas b6 sc nm F y gU i v
theorem vG (C:cD=true->fh c e aq nm jY aZ):fh c e aq nm jY (if cD=true then aZ else dv):=by
 by_cases z:cD=true
 ·exact(if_pos z).symm▸C z
 ·exact(if_neg z).symm▸jX
theorem YY (ap:fP c Q)(C:iS c e F):fh c e e3 nm (.Assign [.Name w gU] aP pos) (Bi Q e3 nm F w gU aP):=by
 unfold Bi;split
 ·exact jX
 ·rename_i i X;cases aP with
  |ListComp aC gens aq a=>exact YU ap C<|vE X
  |_=>exact vG λaS=>Ha i (vE X) (C.e _) λaf q=>II aS
def KG (sc:ck)(nm:List Str)(b6:eG)(F:gN)(v:Expr)(t:Expr):a5:= ja dv t (d:=λy gU=>Bi b6 sc nm F y gU v) (c:=λo x q R=>F.e sc nm v<|F.e sc nm o<|bK x R) (j:=λo i q=>ja (λR=>F.e sc nm v<|F.e sc nm o<|F.e sc nm i<|gu R) i (b:=λl u st q=>Option.casesOn (motive:=λq=>a5) st (λR=>F.e sc nm v<|F.e sc nm o<|mo (F.e sc nm) l<|mo (F.e sc nm) u<|q5 l.isSome u.isSome R) λq=>dv)) (p:=λa q q=>Bk sc nm (F.e sc nm) a v)
theorem MG (ap:fP c Q)(C:iS c e F):fh c e aq nm (.Assign [aP] aC pos) (KG aq nm Q F aC aP):=by
 cases aP with
 |Name y gU=>exact YY ap C
 |Attribute o x p=>exact Sw ap.ok (C.e aC) (C.e o) λaf=>v4 rfl
 |Subscript o i p=>
  cases i with
  |Slice l u st X=>cases st with
   |none=>exact Ss (C.e aC) (C.e o) (rC C.e l) (rC C.e u) λaf=>v4 rfl
   |some st=>exact jX
  |_=>exact Sz (C.e aC) (C.e o) (C.e _) λaf=>v4 rfl
 |Tuple a k p=>exact Z0 C.e
 |_=>exact jX
def A5 (sc:ck)(nm:List Str)(b6:eG)(F:gN)(v:Expr)(bV:List Expr):a5:=match one bV with|some t=>KG sc nm b6 F v t|none=>dv
theorem MH (ap:fP c Q)(C:iS c e F):fh c e aq nm (.Assign ah aC pos) (A5 aq nm Q F aC ah):=by
 unfold A5;split
 ·rename_i t X;refine J (qb X) ?_;exact MG ap C
 ·exact jX
def wI (b6:eG)(sc:ck)(nm:List Str)(F:gN)(f:Stmt->a5)(it:Expr)(b:List Stmt)(t:Expr):a5:=
 match wB t with
 |none=>dv
 |some xs=>match idxs nm xs with
  |none=>dv
  |some is=>if v8 it then λR=>wJ b6 sc nm (F.e sc nm) xs it (gt is (jb f b bv) R) else dv
theorem G4 (ap:fP c Q)(C:iS c e F)(hf:∀s,jN c e aq nm kx s<|bB s):jN c e aq nm kx (.For aP aC body [] pos) (wI Q aq nm F bB aC body aP):=by
 unfold wI;split
 ·exact⟨λq q q q q q q q q q q q q ad=>ad.elim⟩
 ·rename_i xs X;split
  ·exact⟨λq q q q q q q q q q q q q ad=>ad.elim⟩
  ·rename_i is am;split
   ·rename_i z;exact Sr is (AS X) (yU am) (y2 ap C.e (AS X) aC) (k8 hf body) λaf v=>zY z
   ·exact⟨λq q q q q q q q q q q q q ad=>ad.elim⟩
def KR (b6:eG)(F:gN)(sc:ck)(nm:List Str)(s:Stmt):a5:= pe dv s (f:=λbV v q=>A5 sc nm b6 F v bV) (h:=λv q=>Option.casesOn (motive:=λq=>a5) v (λq=>s9) λe q=>F.e sc nm e bf) (d:=λe q=>if zH e then λR=>F.e sc nm e (b0 R) else dv) (c:=λt b o q R=>F.t sc nm t (jb (F.s sc nm) b R)<|jb (F.s sc nm) o R) (l:=λt b o q=>if o.isEmpty then nQ (F.t sc nm t (jb (F.s sc nm) b bv) i3) else dv) (g:=λt it b o q=>if o.isEmpty then wI b6 sc nm F (F.s sc nm) it b t else dv)
theorem Zy (ap:fP c Q)(C:iS c i F)(s:Stmt):fh c i aq nm s (KR Q F aq nm s):=by
 cases s with
 |Assign bV v pos=>exact MH ap C
 |Return v pos=>cases v with
  |none=>exact Sv
  |some e=>exact Su<|C.e e
 |Expr e pos=>exact vG λX=>Sq (C.e e) λaf=>II X
 |If t b o pos=>exact yG (C.t t) (k8 C.s b)<|k8 C.s o
 |While t b o pos=>exact vG λX=>LG.mp X▸SD (C.t t) (k8 C.s b)
 |For t it b o pos=>exact vG λX=>LG.mp X▸G4 ap C C.s
 |_=>exact jX
noncomputable def cmp (b6:eG):Nat->gN
 |0=>⟨λq q q=>dv,λq q q q q=>fm,λq q q=>dv⟩
 |k+1=>⟨KP b6<|cmp b6 k,KT<|cmp b6 k,KR b6<|cmp b6 k⟩
theorem uW (ap:fP c Q):∀k,iS c e (cmp Q k):=by
 intro h;induction h with
 |zero=>exact⟨λq=>hn,λq=>pR,λq=>jX⟩
 |succ k D=>exact⟨Rp ap<|D,ZX ap.ok<|D,Zy ap<|D⟩
def KH (b6:eG)(sc:ck)(nm:List Str)(b:List Stmt):a5:=jb ((cmp b6 40).s sc nm) b
theorem M6 (ap:fP c Q)(b:List Stmt):FB c e aq nm b (KH Q aq nm b):=k8 (uW ap 40).s b
set_option tactic.hygienic false
set_option tactic.hygienic true
def m7 (f:Stmt->ji):List Stmt->ji
 |[]=>λq R=>R
 |s::b=>λaH R=>f s aH<|m7 f b aH R
variable{U:Stmt->ji}
theorem tV (C:∀s,jl c ae e aq nm s<|U s):∀b,mF c ae e aq nm b (m7 U b):=by
 intro h;induction h with
 |nil=>exact SL
 |cons s b D=>exact yH (iq:=U s) (h1:=m7 U b) (C s)<|D
def sK (e:Expr):Option (Str×List Expr):=(yh<|ih e).bind λp=>(nameOf p.1).bind λx=>if p.2.all j7=true then kZ (x,p.2) else By
theorem uO {p:Str×List Expr}(C:sK aC=kZ p):p.2.all j7=true/\∃a b,aC=.Call (.Name p.1 a) p.2 [] b:=by refine bP λbz aN=>?_;obtain⟨⟨g,ah⟩,ai,ao⟩:=abd.mp C;refine bg (abd.mp ao) λx a7 bR=>?_;obtain⟨b,aC⟩:=Gg _ ai;obtain⟨a,bo⟩:=rp a7;obtain⟨X,rfl⟩:=vF bR;exact aN<|⟨X,a,b,aC.trans (congrArg (LH · ah [] b) bo)⟩
noncomputable def Yr (u:V)(ae:Addr):Bool:=V.casesOn (motive:=λq=>Bool) u false false (λq=>false) (λq=>false) (λq=>false) (λa=>a==ae) λq=>false
def JA (ae:Addr)(o:Option V):Bool:=Option.casesOn (motive:=λq=>Bool) o false λu=>Yr u ae
theorem Yk {b:Option V}(C:JA ae b=true):b=kZ (.ref ae):=by
 cases b with
 |none=>exact lf C
 |some b=>cases b with
  |ref a=>exact congrArg (kZ<|V.ref ·)<|eq_of_beq C
  |_=>exact lf C
def Bg (ae:Addr)(b6:eG)(F:gN)(sc:ck)(nm:List Str)(e:Option Expr):ji:=match e.bind sK with
 |some p=>if sc.names.lookup p.1==kZ .globalImplicit&& !(p.1==("__debug__":Str))&&JA ae (b6.gl.lookup p.1)&&p.2.length==2 then λaH q=>hz (F.e sc nm) p.2 (yS aH) else λq q=>fm
 |none=>λq q=>fm
def Bm (ae:Addr)(b6:eG)(F:gN)(sc:ck)(nm:List Str)(xs:List Str)(e:Expr)(p:Pos):ji:=match sK e with
 |some X=>if xs.contains X.1 then λaH R=>qv b6 sc nm X.1 (cf<|hz (F.e sc nm) X.2<|vA ae aH (eL X.2.length []) R) else λq R=>F.s sc nm (.Expr e p) R
 |none=>λq R=>F.s sc nm (.Expr e p) R
def Bn (ae:Addr)(b6:eG)(F:gN)(sc:ck)(nm:List Str)(xs:List Str)(v:Option Expr)(p:Pos):ji:=match v.bind sK with
 |some X=>if xs.contains X.1 then λaH q=>qv b6 sc nm X.1 (cf<|hz (F.e sc nm) X.2<|oI ae aH (eL X.2.length []) bf) else λq R=>F.s sc nm (.Return v p) R
 |none=>λq R=>F.s sc nm (.Return v p) R
def KU (ae:Addr)(b6:eG)(F:gN)(sc:ck)(nm:List Str)(xs:List Str)(f:Stmt->ji)(s:Stmt):ji:= pe (λq R=>F.s sc nm s R) s (c:=λt b o q aH R=>F.t sc nm t (m7 f b aH R)<|m7 f o aH R) (j:=λe o q=>if o.isNone then Bg ae b6 F sc nm e else λq q=>fm) (d:=λe p=>Bm ae b6 F sc nm xs e p) (h:=λv p=>Bn ae b6 F sc nm xs v p)
def wK (ae:Addr)(b6:eG)(F:gN)(sc:ck)(nm:List Str)(xs:List Str):Nat->Stmt->ji
 |0=>λs q R=>F.s sc nm s R
 |k+1=>KU ae b6 F sc nm xs<|wK ae b6 F sc nm xs k
theorem yI:jl c ae e aq nm jY λq q=>fm:=pS jX
theorem Yg (ap:fP c Q)(a4:pz c ae N l)(C:iS c (i+2) F):jl c ae (i+2) aq nm (.Raise fW By pos) (Bg ae Q F aq nm fW):=by
 unfold Bg;split
 ·rename_i p X;refine bP λbz aN=>bg (abd.mp X) λaW f ai=>?_;replace X:=f▸X;replace aN:=f▸aN;refine dp (uO ai) λax aB=>fz aB λa b a3=>?_;clear ai;replace X:=a3▸X;replace aN:=a3▸aN;refine aN ?_;split
  ·rename_i X;rw[abR,abR,abR,Lz] at X;exact SM a4 (JY ap.ok (ap.gl<|Yk X.1.2) (eq_of_beq X.1.1.1) X.1.1.2) (jV C.e ax) (kM ax)<|eq_of_beq X.2
  ·exact yI
 ·exact yI
theorem aak (ap:fP c Q)(a4:pz c ae N l)(C:iS c (i+2) F)(hf:∀s,jl c ae (i+2) aq nm s<|U s)(s:Stmt):jl c ae (i+2) aq nm s (KU ae Q F aq nm ch U s):=by
 cases s with
 |If t b o pos=>exact SJ (C.t t) (tV hf b)<|tV hf o
 |Raise e o pos=>cases o with
  |none=>exact Yg ap a4 C
  |some o=>exact yI
 |Expr e p=>
  refine(?_:jl c ae (i+2) aq nm (.Expr e p) (Bm ae Q F aq nm ch e p));unfold Bm;split
  ·rename_i X am;refine dp (uO am) λax aB=>fz aB λa b a3=>?_;refine J a3 ?_;split
   ·exact SI ap.ok (tp ap) (jV C.e ax) (kM ax) λaf=>rfl
   ·exact pS<|C.s _
  ·exact pS<|C.s _
 |Return v p=>
  refine(?_:jl c ae (i+2) aq nm (.Return v p) (Bn ae Q F aq nm ch v p));unfold Bn;split
  ·rename_i X am;refine bg (abd.mp am) λe a8 ai=>dp (uO ai) λax aB=>fz aB λa b a3=>?_;refine J a8<|J a3 ?_;split
   ·exact SN ap.ok (tp ap) (jV C.e ax)<|kM ax
   ·exact pS<|C.s _
  ·exact pS<|C.s _
 |_=>exact pS<|C.s _
theorem KD {n:Nat}{sc:ck}{xs:List Str}(ap:fP c Q)(a4:pz c ae N a)(C:iS c (n+2) F):∀k (s:Stmt),jl c ae (n+2) sc nm s (wK ae Q F sc nm xs k s):=by
 intro h;induction h with
 |zero=>intro s;exact pS<|C.s s
 |succ k D=>intro s;exact aak ap a4 C (D) s
def IZ (e:Expr):Option Expr:=ja By e (i:=λar x q=>UnaryOp.casesOn (motive:=λq=>Option Expr) ar By (kZ x) By By)
theorem Wx (C:IZ aC=kZ aP):∃p,aC=.UnaryOp .Not aP p:=by
 cases aC with
 |UnaryOp ar y p=>
  cases ar with
  |Not=>exact⟨p,congrArg (ue .Not · p)<|kZ.inj C⟩
  |_=>exact(iF C).elim
 |_=>exact(iF C).elim
def orOf (e:Expr):Option (Expr×Expr):=ja By e (f:=λar ah q=>BoolOp.casesOn (motive:=λq=>Option<|Expr×Expr) ar By<|rK ah)
theorem Xl (C:orOf aC=kZ a4):∃X,aC=.BoolOp .Or [a4.1,a4.2] X:=by
 cases aC with
 |BoolOp ar ah X=>
  cases ar with
  |Or=>exact⟨X,congrArg (Expr.BoolOp .Or · X)<|tP C⟩
  |_=>exact(iF C).elim
 |_=>exact(iF C).elim
def Hu (e:Expr):Option ((Str×List Expr)×Expr):=(orOf e).bind λp=>(IZ p.1).bind λx=>(sK x).map (·,p.2)
theorem Tc {h:(Str×List Expr)×Expr}(C:Hu aC=kZ h):h.1.2.all j7=true/\∃a b el dg,aC=.BoolOp .Or [.UnaryOp .Not (.Call (.Name h.1.1 a) h.1.2 [] b) el,h.2] dg:=by refine bg (abd.mp C) λp ai ao=>bg (abd.mp ao) λx a7 bR=>bg (ud.mp bR) λy dy eS=>fN (Xl ai) λdg a8=>fN (Wx a7) λel bo=>dp (uO dy) λax z=>fz z λa b c2=>?_;cases eS;exact⟨ax,a,b,el,dg,J a8<|J bo<|J c2 rfl⟩
def Ba (ae:Addr)(b6:eG)(F:gN)(sc:ck)(nm:List Str)(xs:List Str)(f:Stmt->a5)(b o:List Stmt)(t:Expr):a5:=match Hu t with
 |some X=>if xs.contains X.1.1 then λR=>qv b6 sc nm X.1.1 (cf<|hz (F.e sc nm) X.1.2<|oI ae (λq q q=>False) (eL X.1.2.length [])<|a8 (F.t sc nm X.2 (jb f b R)<|jb f o R)<|jb f b R) else λR=>F.t sc nm t (jb f b R)<|jb f o R
 |none=>λR=>F.t sc nm t (jb f b R)<|jb f o R
theorem Ta (ap:fP c Q)(C:iS c i F)(hf:∀s,jN c i aq nm l3 s<|bB s):jN c i aq nm l3 (.If aC body lc pos) (Ba ae Q F aq nm ch bB body lc aC):=by
 unfold Ba;split
 ·rename_i X am;split
  ·exact dp (Tc am) λax z=>j8 z λa y el dg e=>J e<|SY ap.ok (tp ap) (jV C.e ax) (kM ax) (C.t _) (k8 hf body)<|k8 hf lc
  ·exact yG (C.t aC) (k8 hf body)<|k8 hf lc
 ·exact yG (C.t aC) (k8 hf body)<|k8 hf lc
def aaq (ae:Addr)(b6:eG)(F:gN)(sc:ck)(nm:List Str)(xs:List Str)(f:Stmt->a5)(s:Stmt):a5:= pe (F.s sc nm s) s (c:=λt b o q=>Ba ae b6 F sc nm xs f b o t) (g:=λt it b o q=>if o.isEmpty then wI b6 sc nm F f it b t else dv)
theorem S9 (C:cD=true->jN c e aq nm l3 jY aZ):jN c e aq nm l3 jY (if cD=true then aZ else dv):=by
 by_cases z:cD=true
 ·exact(if_pos z).symm▸C z
 ·exact(if_neg z).symm▸yO jX
def Be (ae:Addr)(b6:eG)(F:gN)(sc:ck)(nm:List Str)(xs:List Str):Nat->Stmt->a5
 |0=>F.s sc nm
 |k+1=>aaq ae b6 F sc nm xs<|Be ae b6 F sc nm xs k
theorem T8 (ap:fP c Q)(C:iS c e F):∀k (s:Stmt),jN c e aq nm l3 s (Be ae Q F aq nm ch k s):=by
 intro h;induction h with
 |zero=>intro s;exact yO<|C.s s
 |succ k D=>
  intro s;cases s with
  |If t b o pos=>exact Ta ap C D
  |For t it b o pos=>exact S9 λX=>LG.mp X▸G4 ap C D
  |_=>exact yO<|C.s _
def KJ (ae:Addr)(b6:eG)(sc:ck)(nm:List Str)(xs:List Str)(b:List Stmt):ji:=m7 (wK ae b6 (cmp b6 40) sc nm xs 10) b
def KI (ae:Addr)(b6:eG)(sc:ck)(nm:List Str)(xs:List Str)(b:List Stmt):a5:=jb (Be ae b6 (cmp b6 40) sc nm xs 10) b
theorem RA {xs:List Str}(ap:fP c Q)(a4:pz c ae N l)(hf:k4 c a names [] body aq)(ax:nz aq names nm)(an:aa.length=names.length) (C:KJ ae Q aq nm xs body (λas q Z=>er as Z) bv (dI c (e+2) ab) (aa++[]++dr (nm.length -names.length) .aK) [] I):jj c ae (e+2+1) (.ref a) aa ab er I:= Gb ap.ok hf ax (tV (KD ap a4 (uW ap 40) 10) body) (gq:=[]) trivial an C
theorem Rz {b6:eG}{xs:List Str}(ap:fP c b6)(hf:k4 c a names [] body aq)(ax:nz aq names nm)(an:aa.length=names.length) (C:KI ae b6 aq nm xs body bv (dI c e ab) (aa++[]++dr (nm.length -names.length) .aK) [] I)(L:e9 bo (e+1))(aF:bo.frames=kZ [])(S:a9 c I s)(m:(V.ref a).is dD)(aX:bV aa bE) (P:∀v ay,dF c I s ab v ay->R (.ok<|.ret v) ay):br c.M bo (.call dD ⟨bE,[]⟩) R s:= NM ap.ok hf ax (k8 (T8 ap (uW ap 40) 10) body) an C L aF S m aX P
set_option tactic.hygienic false
def eH (d:aR)(l:List aR):Nat->aR:=List.rec (λ_=>d) (λa _ r i=>Nat.rec a (λj _=>r j) i) l
theorem f1.fX {d:aR}(C:f1 bq aw)(hd:bq d):∀i,bq (eH d aw i):=by
 induction C with
 |nil=>exact λ_=>hd
 |cons C t D=>exact λi=>by cases i with|zero=>exact C|succ j=>exact D j
theorem qP {p:aR->Bool}(C:∀a,p a=true->bq a):aw.all p=true->f1 bq aw:=by
 induction aw with
 |nil=>exact λ_=> .nil
 |cons a aw D=>exact λe=> .cons (C a<|du e)<|D<|gZ e
theorem f1.hd (C:f1 bq (aN::aw)):bq aN:=by cases C;assumption
variable{pre:List aR}
theorem f1.sp (C:f1 bq (aw++pre)):f1 bq aw/\f1 bq pre:=by
 induction aw with
 |nil=>exact⟨.nil,C⟩
 |cons a aw D=>cases C with|cons C t=>exact⟨.cons C (D t).1,(D t).2⟩
def qO (c:cz)(r:lM):Prop:=∃c1,bV r.gq c1/\k4 c r.a r.dQ c1 r.b r.s
structure a2 (c:cz):Prop where
 ok:c.Ok
 eY:pr c 38 37 35
 fn:f1 (qO c) (ir++iu)
 gl:f1 (fun p=>oo c p.1 p.2) (yN++yM)
 eI:f1 (qN c) (x6++x7)
 rm:f1 (fun p=>jS c.K p.1 p.2.1 p.2.2) tn
 Iu:f1 (fun p=>so c.K p.1 p.2) v1
 Gx:f1 (fun p=>fS c.K p.1 p.2=true) u2
 Wq:zN c.K 278=true
abbrev f0:lM:=fr 35 (ec 2 0) ["self","symbol","data"] [] []
theorem a2.r (H:a2 c)(i:Nat):qO c (eH f0 ir i):=H.fn.sp.1.fX H.fn.hd i
theorem a2.x (H:a2 c)(i:Nat):qO c (eH f0 iu i):=H.fn.sp.2.fX H.fn.hd i
theorem a2.f (H:a2 c)(i:Nat):mz c.K (.ref (eH f0 ir i).a)=true:=by obtain⟨_,_,C⟩:=H.r i;exact C.keep
theorem a2.y (H:a2 c)(i:Nat):mz c.K (.ref (eH f0 iu i).a)=true:=by obtain⟨_,_,C⟩:=H.x i;exact C.keep
theorem a2.m (H:a2 c)(i:Nat):jS c.K (eH (fu 201 "numbers" 156) tn i).1 (eH (fu 201 "numbers" 156) tn i).2.1 (eH (fu 201 "numbers" 156) tn i).2.2:=H.rm.fX H.rm.hd i
theorem a2.k (H:a2 c)(i:Nat):so c.K (eH (1153,1150) v1 i).1 (eH (1153,1150) v1 i).2:=H.Iu.fX H.Iu.hd i
theorem a2.d (H:a2 c)(i:Nat):fS c.K (eH (b9 1153 "sort") u2 i).1 (eH (b9 1153 "sort") u2 i).2=true:=H.Gx.fX H.Gx.hd i
theorem qO.z {r:lM}(C:qO c r)(e:r.gq=[]):k4 c r.a r.dQ [] r.b r.s:=by
 obtain⟨c1,ai,ao⟩:=C;rw[e] at ai;cases c1 with
 |nil=>exact ao
 |cons=>exact ai.elim
theorem a2.A3 (H:a2 c):pz c 38 37 35:=⟨H.ok,H.eY,_,_,_,_,_,_,_,_,_,_,(H.r 0).z rfl,tJ (nm:=n3)<|by ext,rfl,λ_=>rfl,λ_=>rfl⟩
set_option tactic.hygienic true
theorem p1:kH K i=K.lookup i:=by
 induction K with
 |nil=>rfl
 |cons p K D=>
  obtain⟨b,o⟩:=p;rw[wQ];show Bool.rec (motive:=λ_=>Option Obj) (kH K i) (kZ o) (gg i b)=_;cases X:gg i b with
  |true=>rw[r0 X];simp
  |false=>
   have:(i==b)=false:=by rw[beq_eq_false_iff_ne];intro e;rw[e,BN] at X;cases X
   rw[this];exact D
theorem IH:∀{a b:List Nat},v2 a b=decide (a=b)
 |[],[]=>rfl
 |[],_::_=>rfl
 |_::_,[]=>rfl
 |x::a,y::b=>by
  show Bool.rec (motive:=λ_=>Bool) false (v2 a b) (gg x y)=_;cases X:gg x y with
  |true=>rw[r0 X];simp[IH]
  |false=>
   have:x≠y:=by intro e;rw[e,BN] at X;cases X
   simp[this]
theorem TX:y8 v w.cps.toList=v.isStr w:=by
 cases v<;>first|rfl|skip
 rename_i s t;show v2 _ _=(s==w);rw[IH];obtain⟨a⟩:=s;obtain⟨b⟩:=w;show decide (a.toList=b.toList)=_;rw[d0];simp[BR]
theorem R2:findF dm w.cps.toList=dm.find? (·.key.isStr w):=by
 induction dm with
 |nil=>rfl
 |cons e dm D=>rw[gf];show Bool.rec (motive:=λ_=>Option lE) (findF dm w.cps.toList) (kZ e) (y8 e.key w.cps.toList)=_;rw[TX];cases e.key.isStr w<;>simp[D]
theorem v7:mf K a w=nsIn K a w:=by
 delta mf nsIn;rw[p1];cases K.lookup a with
 |none=>rfl
 |some o=>obtain⟨b,c,d,cf⟩:=o;cases d<;>first|rfl|(dsimp only;rw[R2];rfl)
theorem codeB_eq:codeB K v w=codeIn K v w:=by cases v<;>first|rfl|(delta codeB codeIn;dsimp only;rw[p1];rfl)
theorem wb {z y:aR}{o:Option Obj}{p:Obj->aR}(C:b4 z o p=y)(aj:z=y->False):∃x,o=kZ x/\p x=y:=by
 cases o with
 |none=>exact(aj C).elim
 |some x=>exact⟨x,rfl,C⟩
theorem j6 (C:By=kZ aN):False:=nomatch C
theorem nM (C:false=true):False:=nomatch C
variable{Q:Data}
theorem Hc {p:FuncData->aR}(C:sV aN Q p=h2)(aj:aN=h2->False):∃c,Q=.func c/\p c=h2:=by cases Q<;>first|exact⟨_,rfl,C⟩|exact(aj C).elim
theorem PX {p:ClassData->Bool}(C:yg Q p=true):∃c,Q=.cls c/\p c=true:=by cases Q<;>first|exact⟨_,rfl,C⟩|exact(nM C).elim
theorem Xv {p:Arguments}(C:wg p=kZ nm):∃as r,p=⟨[],as,By,[],[],By,r⟩/\as.map (·.arg)=nm:=by
 obtain⟨c,as,aG,a,F,cb,r⟩:=p;cases c with
 |cons=>exact(j6 C).elim
 |nil=>
  cases aG with
  |some=>exact(j6 C).elim
  |none=>
   cases a with
   |cons=>exact(j6 C).elim
   |nil=>
    cases F with
    |cons=>exact(j6 C).elim
    |nil=>
     cases cb with
     |some=>exact(j6 C).elim
     |none=>exact⟨as,r,rfl,kZ.inj C⟩
theorem QM (C:nH K v=kZ bE):Cn K v bE:=by
 cases v with
 |none=>exact .inl ⟨rfl,(kZ.inj C).symm⟩
 |ref T=>obtain⟨o,e,C⟩:=wb (z:=By) (y:=kZ bE) (o:=kH K T) C j6;rw[p1] at e;obtain⟨ba,bh,v,ce⟩:=o;cases v<;>first|exact .inr ⟨T,_,_,_,rfl,e,rfl,kZ.inj C⟩|exact(j6 C).elim
 |_=>exact(j6 C).elim
theorem Sf (C:pN c.K a=kZ (body,aq,[],iO,oi,true,kZ nm,kZ aD)): ∃j ag,(∃o,kH c.K a=kZ o/\o.data=.func j)/\nH c.K j.defaults=kZ ag/\ag.length=aD/\k4 c a nm ag body aq:=by
 obtain⟨o,e,C⟩:=wb C j6;have aW:=e;rw[p1] at e;obtain⟨ba,bh,d,ce⟩:=o;obtain⟨j,hd,ao⟩:=Hc C j6;clear C;subst hd;obtain⟨y,aA,C⟩:∃y,j.body=.stmts y/\kZ (y,j.scope,j.closure,j.globals,j.builtins,codeB c.K j.code j.qualname,wg j.params,(nH c.K j.defaults).map (·.length))=kZ (body,aq,[],iO,oi,true,kZ nm,kZ aD):=by
  cases X:j.body<;>rw[X] at ao
  ·exact⟨_,rfl,ao⟩
  ·exact(j6 ao).elim
 have C:=kZ.inj C;have g (i:mG->Prop) (av:i (body,aq,[],iO,oi,true,kZ nm,kZ aD)):i (y,j.scope,j.closure,j.globals,j.builtins,codeB c.K j.code j.qualname,wg j.params,(nH c.K j.defaults).map (·.length)):=C.symm▸av;have b:(nH c.K j.defaults).map (·.length)=kZ aD:=g (λp=>p.2.2.2.2.2.2.2=kZ aD) rfl;obtain⟨ag,aV,an⟩:=ud.mp b;refine⟨j,ag,⟨_,aW,rfl⟩,aV,an,?_,_,j,e,rfl,aA.trans<|congrArg _<|g (λp=>p.1=body) rfl,g (λp=>p.2.1=aq) rfl,g (λp=>p.2.2.1=[]) rfl,g (λp=>p.2.2.2.1=iO) rfl,g (λp=>p.2.2.2.2.1=oi) rfl,codeB_eq.symm.trans<|g (λp=>p.2.2.2.2.2.1=true) rfl,Xv<|g (λp=>p.2.2.2.2.2.2.1=kZ nm) rfl,QM aV⟩;show(match c.K.lookup a with|some ⟨_,_,.func _,_⟩=>true|some ⟨_,_,.cls _,_⟩=>_|_=>false)=true;rw[e]
theorem Z8 (C:Kz v (pt== ·)=true):(V.int pt).is v:=by cases v<;>first|exact⟨_,congrArg (ua · _) (beq_iff_eq.mp C).symm⟩|exact(nM C).elim
theorem Z9 (C:KA v (w== ·)=true):(V.str w).is v:=by cases v<;>first|exact⟨_,congrArg (Value.str · _) (beq_iff_eq.mp C).symm⟩|exact(nM C).elim
theorem HD (C:yZ u v=true):u.is v:=by
 cases u with
 |none=>exact beq_iff_eq.mp C
 |bool b=>exact beq_iff_eq.mp C
 |int i=>exact Z8 C
 |str x=>exact Z9 C
 |ref a=>exact beq_iff_eq.mp C
 |_=>exact(nM C).elim
theorem Tu:∀{ag:List a3},vH aa ag=true->bV aa ag:=by
 induction aa with
 |nil=>
  intro ag C;cases ag with
  |nil=>trivial
  |cons=>exact(nM C).elim
 |cons u aa D=>
  intro ag C;cases ag with
  |nil=>exact(nM C).elim
  |cons v ag=>have C:=(abR _ _).mp C;exact⟨HD C.1,D C.2⟩
theorem Se (C:pN c.K a=kZ (body,aq,[],iO,oi,true,kZ nm,kZ i))(av:u3 c.K a aa=true):∃ag,bV aa ag/\k4 c a nm ag body aq:=by obtain⟨j,ag,⟨o,e,ap⟩,hd,an,hf⟩:=Sf C;refine⟨ag,Tu ?_,hf⟩;unfold u3 at av;rw[e] at av;have av:sV false o.data (λj=>Option.rec false (λag=>vH aa ag)<|nH c.K j.defaults)=true:=av;rw[ap] at av;have av:Option.rec (motive:=λ_=>Bool) false (λag=>vH aa ag) (nH c.K j.defaults)=true:=av;rw[hd] at av;exact av
theorem Hm (C:vl c.K w u=true):oo c w u:=by
 unfold vl at C;rw[v7] at C;split at C
 ·rename_i v e;exact⟨v,e,HD C⟩
 ·cases C
theorem Wf (C:zM c.K w=true):qN c w:=by
 unfold zM at C;rw[v7] at C;split at C
 ·rename_i e;exact e
 ·cases C
variable{Q:Option (Option a3)}
theorem Am (C:wj Q a=true):Q=kZ (kZ<|.ref a):=beq_iff_eq.mp C
theorem vJ (C:vI K a=true):typeIn K (.ref a)=kZ (.type "function")/\mz K (.ref a)=true:=by
 obtain⟨o,e,C⟩:=wb C nM;rw[p1] at e;obtain⟨j,hd,C⟩:=Hc C nM;obtain⟨ba,bh,d,ce⟩:=o;refine⟨?_,?_⟩
 ·show(K.lookup a).map (·.cls)=_;rw[e];exact congrArg kZ<|beq_iff_eq.mp C
 ·show(match K.lookup a with|some ⟨_,_,.func _,_⟩=>true|some ⟨_,_,.cls _,_⟩=>_|_=>false)=true;rw[e,show d=.func j from hd]
theorem VS (C:zz K ae w l=true):jS K ae w l:=by unfold zz at C;simp only[abR] at C;obtain⟨⟨a,b⟩,d⟩:=C;exact⟨Am a,(vJ b).1,d,(vJ b).2⟩
theorem Vv (C:zw K ae l=true):so K ae l:=by unfold zw at C;simp only[abR] at C;obtain⟨⟨⟨a,b⟩,d⟩,e⟩:=C;exact⟨a,Am b,(vJ d).1,e⟩
theorem WD:zX K N=nsOkIn K N:=by unfold zX nsOkIn;rw[p1];rfl
theorem Ww (C:p7 Q=true):Q=kZ By:=beq_iff_eq.mp C
theorem WC (aH:K.In C)(e:nsOkIn K N=true)(X:nsIn K N w=kZ (kZ v)):C.nsMap N w=kZ v:=by
 cases r:K.lookup N with
 |none=>unfold nsIn at X;rw[r] at X;exact(j6 X).elim
 |some o=>
  obtain⟨q,ah,aR,aw,hd,_,hf⟩:=Heap.Ns.of_isNs<|isNs_of_in aH e;have a8:q=o:=kZ.inj<|aw.symm.trans<|aH _ _ r;subst a8;obtain⟨c,d,a,cw⟩:=q;have hd:a=.dict ah aR:=hd;subst hd;have X:(match ah.toList.find? (·.key.isStr w) with
   |some e=>kZ<|kZ e.val
   |none=>if ah.toList.any (·.refKey) then By else kZ By)=kZ (kZ v):=by
   unfold nsIn at X;rw[r] at X;exact X
  cases he:ah.toList.find? (·.key.isStr w) with
  |some h=>rw[he] at X;rw[<-hf];unfold nsFind findBy;rw[<-Array.find?_toList,he];exact kZ.inj X
  |none=>
   rw[he] at X;have X:(if ah.toList.any (·.refKey)=true then By else kZ (By:Option a3))=kZ (kZ v):=X;by_cases z:ah.toList.any (·.refKey)=true
   ·rw[if_pos z] at X;exact(j6 X).elim
   ·rw[if_neg z] at X;exact(j6<|kZ.inj X).elim
theorem ri (C:aw.length=e+1):∃a m,aw=a::m/\m.length=e:=by
 cases aw with
 |nil=>cases C
 |cons a m=>exact⟨a,m,rfl,c6.inj C⟩
theorem six {h:List (Option a3)}(C:h.length=6)(X:h[4]?=kZ (kZ<|.builtin h3)):∃dq co cW en ev,h=[dq,co,cW,en,kZ<|.builtin h3,ev]:=by obtain⟨dq,hM,rfl,h0⟩:=ri C;obtain⟨co,a5,rfl,ai⟩:=ri h0;obtain⟨cW,bg,rfl,ao⟩:=ri ai;obtain⟨en,bt,rfl,a7⟩:=ri ao;obtain⟨r,b,rfl,bR⟩:=ri a7;obtain⟨ev,c,rfl,dy⟩:=ri bR;exact⟨dq,co,cW,en,ev,by rw[kZ.inj X,gB.mp dy]⟩
theorem Ra (C:b4 false (kH c.K ae) (λo=>o.cls==.type "type"&&yg o.data λA=>A.mro==[.ref ae,.type "Exception",.type "BaseException",.type "object"]&&o.slots.toList.length==6&&o.slots.toList[4]?==kZ (kZ<|.builtin "Exception.__new__")&& !A.hasDel&&A.hasDict&&gg A.ns N)=true): ∃nm X bE ch sub hg aD bk dq co cW en ev,c.K.lookup ae=kZ (aa9 nm X ae N bE hl true ch sub hg aD bk dq co cW en ev "Exception.__new__"):=by obtain⟨o,e,C⟩:=wb C nM;rw[p1] at e;obtain⟨cl,bk,d,cw⟩:=o;obtain⟨A,hd,av⟩:=PX<|gZ C;obtain⟨nm,bE,g,ns,h,b,ch,sub,hg,aD,a⟩:=A;obtain⟨dq,co,cW,en,ev,ax⟩:=six (beq_iff_eq.mp<|gZ<|du<|du<|du<|du av)<|beq_iff_eq.mp<|gZ<|du<|du<|du av;refine⟨nm,h,bE,ch,sub,hg,aD,bk,dq,co,cW,en,ev,e.trans ?_⟩;rw[show d=_ from hd,show cl=.type "type" from beq_iff_eq.mp (du C),show cw=#[dq,co,cW,en,kZ<|.builtin "Exception.__new__",ev] from BR.mp ax,show g=_ from beq_iff_eq.mp (du<|du<|du<|du<|du av),show b=true from gZ (du av),show ns=N from r0 (gZ av),show a=false from(Lz _).mp (gZ<|du<|du av)]
theorem Rb (aU:c.Ok)(C:GQ c.K ae N a=true):pr c ae N a:=by have q:=du<|du C;have h0:=du<|du<|du<|du<|du<|du q;have ai:=gZ h0;rw[WD] at ai;have nn:∀{x:Str},p7 (mf c.K N x)=true->c.base.nsMap N x=By:=λC=>nsMap_none_of_in aU.gE ai (by rw[<-v7];exact Ww C);exact⟨Ra<|du h0,⟨_,.of_isNs<|isNs_of_in aU.gE ai,WC aU.gE ai<|by rw[<-v7];exact Am<|gZ<|du<|du<|du<|du<|du q,nn<|gZ<|du<|du<|du<|du q,nn<|gZ<|du<|du<|du q,nn<|gZ<|du<|du q,nn<|gZ<|du q,nn<|gZ q⟩,(vJ<|gZ<|du C).1,gZ C⟩
theorem yf {h:List Bool}(i:Nat)(C:h=dr e true)(aL:i<e:=by decide):h.getD i false=true:=by subst C;simp[aL]
theorem ab3 {h m:List (Option mG)}(i:Nat)(C:h=m):h.getD i By=m.getD i By:=by rw[C]
theorem G9:∀{l:List lM},(l.map (·.a)).map (pN c.K)=(l.map λr=>pM r.b r.s r.dQ r.gq.length)->(l.all λr=>u3 c.K r.a r.gq)=true->f1 (qO c) l
 |[],_,_=> .nil
 |_::_,ai,ao=> .cons (Se (BF.inj ai).1<|du ao)<|G9 (BF.inj ai).2<|gZ ao
theorem Rv (aU:c.Ok)(ai:va.map (pN c.K)=vb)(ao:sL c.K=dr pH true):a2 c:= have z (i:Nat) (aL:i<pH:=by decide):(sL c.K).getD i false=true:=yf i ao aL;⟨aU,Rb aU<|z 8,G9 ai<|z 0,qP (λ_=>Hm)<|z 1,qP (λ_=>Wf)<|z 2,qP (λ_=>VS)<|z 3,qP (λ_=>Vv)<|z 4,qP (p:=λ(p:Addr×Str)=>fS c.K p.1 p.2) (λ_ C=>C)<|z 5,z 6⟩
set_option tactic.hygienic false
set_option tactic.hygienic true
theorem Zw:@stepT=@AI:=PySem.W.Fast.te10156331382660048174
theorem QL:@denote=@yv:=PySem.W.Fast.te11892475500146522536
theorem ZO:@treeTable=@AO:=PySem.W.Fast.te14364793385576792824
theorem WX:@stepOk=@z5:=PySem.W.Fast.te6613529449190102663
theorem YK {F:String->Option Builtin}:
 ∀{s ay:hD} {t:Thread},tH (stepT (denote F) prog gn) (stepOk e dq) b s t=kZ ay->topRun F prog gn e dq b s.abs t=kZ ay.abs:=by
 induction b with
 |zero=>intro s ay t C;cases C
 |succ b D=>
  intro s ay t C;replace C:JI (stepT (denote F) prog gn s t) (tH (stepT (denote F) prog gn) (stepOk e dq) b) s (through t) (stepOk e dq t)=kZ ay:=C;unfold topRun;cases he:through t with
  |true=>rw[he] at C;cases C;rfl
  |false=>
   rw[he] at C;cases ap:stepOk e dq t with
   |false=>rw[ap] at C;cases C
   |true=>
    rw[ap] at C;cases ax:stepT (denote F) prog gn s t with
    |none=>rw[ax] at C;cases C
    |some r=>obtain⟨H,a⟩:=r;rw[ax] at C;rw[stepT_spec ax];exact D C
theorem bn (P:Params):(nq P).objs.size=11:=by ext
theorem MO (P:Params):(nq P).nsMap iO "__annotations__"=kZ (.ref 6):=by ext
theorem M4 (P:Params):(nq P).isNs iO=true:=by ext
theorem Q1:opening gw=plainProg gw.main.scope.names:=by ext
theorem Q0 (s:eN):fenceModules? gw s=kZ s:=by ext
theorem QZ (w:World)(os:OsState):(Dn w os).abs=⟨nq w.params,#[],boot_drawn,boot_toks,os⟩:=by ext
theorem Sp {d:hD}:(vg iv d).In d.abs.heap:=by
 intro a o e;unfold vg at e;induction iv with
 |nil=>cases e
 |cons b iv D=>
  rw[Le] at e;cases X:yL d b with
  |none=>rw[X] at e;exact D e
  |some b4=>
   rw[X] at e;dsimp only[m9] at e;rw[wQ] at e;split at e
   ·rename_i z;cases e;rw[beq_iff_eq.mp z];unfold yL at X;split at X
    ·rename_i a6;split at X
     ·rename_i q aC;exact(abs_get (by rw[Nat.blt_eq] at a6;exact a6) aC).trans X
     ·cases X
    ·cases X
   ·exact D e
theorem YJ (w:World):tH (AI (yv AO) gw w) (z5 11<|kZ<|.ref 6)=tH (stepT (denote treeTable) gw w) (stepOk 11<|kZ<|.ref 6):=by rw[Zw,QL,ZO,WX]
theorem Uz:dN 600 20000=true:=rfl
def xY (_:World)(C:Heap):Prop:=∃K:Frag,K.In C/\va.map (pN K)=vb/\sL K=dr pH true
def xZ (s:eN):Prop:=∃K:Frag,K.In s.heap/\va.map (pN K)=vb/\sL K=dr pH true
theorem left:LeftO gw rG rl (λ_=>true) xZ (λ_=>True) 20000 true:=λw=>by
 refine bP λbz aN=>bg (ud.mp<|boot_open (p:=gw) (N:=20000) Q1 Uz Q0 w) λm ai ao=>?_;obtain⟨B,d,bk,i,os⟩:=m;simp only[mw.injEq] at ao;refine i7 ao λa f O a3=>?_;clear ao;subst a;subst f;subst O;subst a3;refine bg (ud.mp<|YI w os) λay a7 bR=>?_;rw[YJ] at a7;have dy:=YK a7;rw[QZ] at dy;obtain⟨eS,c⟩:=mw.inj bR;obtain⟨e,q⟩:=mw.inj c;refine aN ?_;have b:topFrom treeTable gw w 20000 ⟨nq w.params,#[],boot_drawn,boot_toks,os⟩=kZ ay.abs:=by unfold topFrom;dsimp only;rw[M4];have aI:((#[]:Array GenState).size==0)=true:=rfl;rw[aI];simp only[Bool.and_self];rw[bn,MO,dy];simp only[uf];rw[eS]
 unfold openEnds;have bu:fencedOpening treeTable gw w 20000=kZ ⟨nq w.params,#[],boot_drawn,boot_toks,os⟩:=ai;rw[bu,uf,b,m9,e,eq_true (show xZ ay.abs from⟨_,Sp,congrArg Prod.fst q,congrArg Prod.snd q⟩)]
def QB (s:Stmt):DefRec:=pe ⟨"",⟨[],[],By,[],[],By,[]⟩,[],⟨.function,[],false,false,[]⟩,default⟩ s (a:=λname args body q q q aq q q pos=>⟨name,args,body,aq,pos⟩)
def ze:DefRec:=QB<|(gw.main.body.drop 148).headD<|.Pass default
theorem ab4 (call:WalkO rG rl (λ_ _=>True) xY lw.row.toRowW ze [] λf ag=>PySem.call f ag)(aB:lw.row.wellSaid=true):lw.row.Holds:=by refine PySem.W.holds_open (q:=rG) (loose:=rl) (Xt:=λ_=>true) (XP:=λ_ _=>True) (Yf:=xZ) (Ya:=λ_=>True) (YP:=xY) (N:=20000) (d:=ze) (kwd:=[]) left (λ_ s e=>of_eq_true e) (λ_ _ _ A k=>bg A λK a b=>⟨K,λx o e=>k _ _<|a x o e,b⟩) (λ_ _=>trivial) (λ_ _ _ _ _=>trivial) (by ext) (by ext) (by ext) (λ_ _=>recFacts_nil rfl) rfl aB (by decide+kernel) ⟨rfl,rfl,rfl,rfl,rfl,by decide+kernel⟩ ?_ call;w_witness2
set_option tactic.hygienic false
theorem ei.at {h:O}(C:ei I Z a h):Z a=kZ h:=C.2▸az.set_same ..
theorem Upd.at {h:O}(C:Upd I Z a h):Z a=kZ h:=C▸az.set_same ..
theorem Upd.ne {h:O}(C:Upd I Z a h)(X:ae≠a):Z ae=I ae:=C▸az.g5 _ _ _ X
theorem WP:tv u .none ab I=dE u (ab (.bool u.isNone) I):=rfl
theorem WO:o1 u .none ab I=dE u (ab (.bool (!u.isNone)) I):=by cases u<;>rfl
def kI (P:List V->az->Prop)(ab:jK->List V->az->Prop):jK->List V->az->Prop
 |.next=>P
 |.cont=>P
 |.brk=>ab .next
 |.ret u=>ab<|.ret u
variable{bT:xU}
theorem Ve (C:bT am dk I):∀f,(∀d am I,f d am I=dk d am I)->bT am f I:=λf e=>by have:f=dk:=funext λd=>funext λam=>funext λI=>e d am I;refine J this ?_;exact C
theorem zu (it:Nat->List V)(P:Nat->List V->az->Prop)(h0:P 0 am I)(aO:∀k am I,P k am I->kK dx k I (if k<b then kZ (it k) else By)) (ax:∀k am I,P k am I->k<b->bT (pb a0 (it k) am) (kI (P<|k+1) dk) I)(he:∀am I,P b am I->dk .next am I):jR dx a0 bT dk am I:=by
 refine(e5 (λk am I=>k<=b/\P k am I) b ⟨BK _,h0⟩ λk am I A=>dp A λap C=>⟨ap,λe=>?_,λaG=>?_⟩)
 ·subst e;exact⟨(if_neg (ki _):(if k<k then kZ (it k) else By)=By)▸aO k am I C,he _ _ C⟩
 ·refine bb (it k) ((if_pos aG:(if k<b then kZ (it k) else By)=kZ (it k))▸aO k am I C) ?_;have bu:(k+1<=b)=True:=eq_true aG;exact Ve (ax k am I C aG) _ λd l aS=>by cases d<;>simp[bu,kI]
theorem sW:(aa[e]?).map (λu=>[u])=if e<aa.length then kZ [(aa[e]?).getD .aK] else By:=by
 by_cases C:e<aa.length
 ·refine J (if_pos C)<|J (Lw C) rfl
 ·refine J (if_neg C)<|J (w0<|pm C) rfl
theorem Hi (C:e<aa.length):aa[e]?=kZ ((aa[e]?).getD .aK):=by refine J (Lw C) rfl
theorem zt (P:Nat->List V->az->Prop)(h0:P 0 am I)(an:∀k am I,P k am I->I a=kZ (.list aa)) (ax:∀k am I u,P k am I->aa[k]?=kZ u->bT (am.set i u) (kI (P<|k+1) dk) I)(he:∀am I,P aa.length am I->dk .next am I):jR (.list a) [i] bT dk am I:= zu (λk=>[(aa[k]?).getD .aK]) P h0 (λk am I C=>bb aa (an k am I C) sW.symm) (λk am I C aG=>ax k am I _ C<|Hi aG) he
theorem Ip (P:Nat->List V->az->Prop)(h0:P 0 am I) (ax:∀k am I,P k am I->k<e->bT (am.set i<|.int<|pt+st*k) (kI (P<|k+1) dk) I)(he:∀am I,P e am I->dk .next am I):jR (.ka pt e st) [i] bT dk am I:= zu (λk=>[.int<|pt+st*k]) P h0 (λk am I C=>rfl) ax he
variable{ck:xr}
theorem zr (it:Nat->List V)(P:List V->az->Prop)(aj:b<=gW)(h0:P [] I)(aO:∀ag I,P ag I->kK dx ag.length I (if ag.length<b then kZ (it ag.length) else By)) (ax:∀ag I,P ag I->ag.length<b->ck (it ag.length++e7) (λw Z=>P (ag++[w]) Z) I)(he:∀ag I,P ag I->ag.length=b->fj ag I):km dx ck e7 fj I:=by
 refine(dM (λk ag I=>k<=b/\ag.length=k/\P ag I) b aj ⟨BK _,rfl,h0⟩ λk ag I A=>hO A λap aV C=>⟨r5 aV,ap,λe=>?_,λaG=>?_⟩)
 ·clear A ap;subst e;exact⟨(if_neg (ki _):(if k<k then kZ (it k) else By)=By)▸aV▸aO ag I C,he _ _ C aV⟩
 ·clear A ap;subst aV;refine bb (it ag.length) ((if_pos aG:(if ag.length<b then kZ (it ag.length) else By)=kZ (it ag.length))▸aO ag I C) ?_;have:=ax ag I C aG;have e:(λw Z=>ag.length+1<=b/\(ag++[w]).length=ag.length+1/\P (ag++[w]) Z)=λw Z=>P (ag++[w]) Z:=by funext w Z;have:(ag.length+1<=b)=True:=eq_true aG;simp[this]
  refine J e ?_;exact this
theorem zp (P:List V->az->Prop)(aj:aa.length<=gW)(h0:P [] I)(an:∀ag I,P ag I->I a=kZ (.list aa)) (ax:∀ag I u,P ag I->aa[ag.length]?=kZ u->ck (u::e7) (λw Z=>P (ag++[w]) Z) I)(he:∀ag I,P ag I->ag.length=aa.length->fj ag I):km (.list a) ck e7 fj I:= zr (λk=>[(aa[k]?).getD .aK]) P aj h0 (λag I C=>bb aa (an ag I C) sW.symm) (λag I C aG=>ax ag I _ C<|Hi aG) he
theorem zq (P:List V->az->Prop)(aj:e<=gW)(h0:P [] I) (ax:∀ag I,P ag I->ag.length<e->ck (.int (pt+st*ag.length)::e7) (λw Z=>P (ag++[w]) Z) I)(he:∀ag I,P ag I->ag.length=e->fj ag I):km (.ka pt e st) ck e7 fj I:= zr (λk=>[.int<|pt+st*k]) P aj h0 (λag I C=>rfl) ax he
def bp (I Z:az):Prop:=∀a o,I a=kZ o->Z a=kZ o
theorem bp.refl:bp I I:=λq q C=>C
theorem bp.trans (x:bp I au)(y:bp au Z):bp I Z:=λa o C=>y a o<|x a o C
theorem bp.new {h:O}(C:I a=By):bp I (I.set a h):=λb q e=>by refine J (az.g5 _ _ _ λX=>by replace e:=C▸X▸e;exact bY e) ?_;exact e
theorem bp.upd {h:O}(x:bp Z I)(C:Z a=By):bp Z (I.set a h):=λb q e=>by refine J (az.g5 _ _ _ λX=>by replace e:=C▸X▸e;exact bY e) ?_;exact x b q e
theorem ei.ext {h:O}(C:ei I Z a h):bp I Z:=C.2▸bp.new C.1
theorem Upd.ext {h:O}(C:Upd I Z a h)(x:bp au I)(n:au a=By):bp au Z:=C▸x.upd n
def eF (M:Addr->Prop)(I:az):Prop:=∀a,M a->∃o,I a=kZ o
theorem eF.ext (C:eF aF I)(x:bp I Z):eF aF Z:=λa m=>cO (C a m) λo e=>⟨o,x a o e⟩
theorem eF.fresh (C:eF aF I)(e:I a=By):¬ aF a:=λm=>by obtain⟨o,X⟩:=C a m;replace X:=e▸X;exact bY X
noncomputable abbrev bm (xs:List Int):List V:=xs.map .int
def IsL (M:Addr->Prop)(I:az)(u:V)(xs:List Int):Prop:=∃a,u=.ref a/\¬ M a/\I a=kZ (.list<|bm xs)
variable{xs:List Int}
theorem IsL.ext (C:IsL aF I u xs)(x:bp I Z):IsL aF Z u xs:=eK C λa e m g=>⟨a,e,m,x a _ g⟩
def cc (R:aR->cQ->Prop):List aR->List cQ->Prop
 |[],[]=>True
 |a::as,b::bE=>R a b/\cc R as bE
 |_,_=>False
theorem cc.ind {d:aR->cQ->Prop}{c:List cQ}{P:List aR->List cQ->Prop}(h0:P [] [])(ai:∀{a aw b c},d a b->P aw c->P (a::aw) (b::c))(C:cc d aw c):P aw c:=by
 induction aw generalizing c with
 |nil=>cases c with
  |nil=>exact h0
  |cons=>exact C.elim
 |cons a aw D=>cases c with
  |nil=>exact C.elim
  |cons b c=>exact ai C.1<|D C.2
theorem cc.mono {d aP:aR->cQ->Prop}{as:List aR}{c:List cQ}(C:∀a b,d a b->aP a b)(H:cc d as c):cc aP as c:=H.ind (P:=cc aP) trivial λx y=>⟨C _ _ x,y⟩
theorem cc.length {d:aR->cQ->Prop}{as:List aR}{c:List cQ}(H:cc d as c):as.length=c.length:=H.ind (P:=λas c=>as.length=c.length) rfl λ_ y=>congrArg (· +1) y
theorem cc.get {d:aR->cQ->Prop}{as:List aR}{c:List cQ}{g:cQ}(H:cc d as c):c[i]?=kZ g->∃a,as[i]?=kZ a/\d a g:= H.ind (P:=λas c=>∀i:Nat,c[i]?=kZ g->∃a,as[i]?=kZ a/\d a g) (λ_ e=>bY e) (λx y i e=>by
  cases i with
  |zero=>cases e;exact bb _ rfl x
  |succ i=>exact y i e) i
theorem cc.get' {d:aR->cQ->Prop}{c:List cQ}(C:cc d aw c)(e:aw[i]?=kZ aN):∃b,c[i]?=kZ b/\d aN b:=by obtain⟨aL,aW⟩:=xn.mp e;have aA:i<c.length:=C.length▸aL;refine bg (C.get<|Lw aA) λaI ai ao=>?_;replace ai:=e▸ai;cases ai;exact(bb _ (Lw aA) ao)
theorem cc.append {d:aR->cQ->Prop}{as a:List aR}{c b:List cQ}(H:cc d as c)(C:cc d a b):cc d (as++a) (c++b):=H.ind (P:=λas c=>cc d (as++a)<|c++b) C λx y=>⟨x,y⟩
theorem cc.take {d:aR->cQ->Prop}{as:List aR}{c:List cQ}(k:Nat)(H:cc d as c):cc d (as.take k) (c.take k):= H.ind (P:=λas c=>∀k,cc d (as.take k)<|c.take k) (λk=>by cases k<;>exact trivial) (λx y k=>by
  cases k with
  |zero=>exact trivial
  |succ k=>exact⟨x,y k⟩) k
theorem cc.drop {d:aR->cQ->Prop}{as:List aR}{c:List cQ}(k:Nat)(H:cc d as c):cc d (as.drop k) (c.drop k):=by
 induction k generalizing as c with
 |zero=>exact H
 |succ k D=>cases as with
  |nil=>cases c with
   |nil=>exact trivial
   |cons=>exact H.elim
  |cons=>cases c with
   |nil=>exact H.elim
   |cons=>exact D H.2
def eh (M:Addr->Prop)(I:az)(u:V)(b:List (List Int)):Prop:=∃a aa,u=.ref a/\¬ M a/\I a=kZ (.list aa)/\cc (IsL M I) aa b
theorem eh.ext {xs:List (List Int)}(C:eh aF I u xs)(x:bp I Z):eh aF Z u xs:= cq C λa aa e m g r=>⟨a,aa,e,m,x a _ g,r.mono λq q X=>X.ext x⟩
variable{Q:Int->Nat->Int->Prop}
theorem Yw (ai: -100000<=pt:=by lia)(ao:pt<2^62:=by lia)(C:Q 0 pt.toNat 1):nN [.int pt]/\∃a cnt st,mK [.int pt] a cnt st/\Q a cnt st:= (KB (λu aQ=>by cases aaO.mp aQ;exact(c7 pt rfl (c4 3413130423 ai)<|c4 1007172616 ao)) _ _ _ (.one _) C)
theorem Yx (ai: -100000<=pt:=by lia)(ao:pt<2^62:=by lia)(a7: -100000<=last:=by lia)(bR:last<2^62:=by lia)(C:Q pt (pt -last).toNat (-1)):nN [.int pt,.int last,.int (-1)]/\∃a cnt st,mK [.int pt,.int last,.int (-1)] a cnt st/\Q a cnt st:=by
 refine(KB (λu aQ=>?_) _ _ _ (.down _ _) C);rcases Q8.mp aQ with rfl|aQ
 ·exact(c7 pt rfl (c4 3413130423 ai)<|c4 1007172616 ao)
 ·rcases Q8.mp aQ with rfl|aQ
  ·exact(c7 last rfl (c4 3413130423 a7)<|c4 1007172616 bR)
  ·cases aaO.mp aQ;exact(c7 (-1) rfl (j5 14367927)<|j5 249272)
theorem uT:Lr e (b:Int)=min b e:=by
 unfold Lr;refine J (if_neg<|aa1.mpr<|oh b) ?_;rcases dR b e with C|C
 ·exact J (nk<|qD.mpr C)<|J (LU<|oh b)<|J (ke C) rfl
 ·exact J (xe<|qD.mpr C)<|J (LU<|oh e)<|J (mx C) rfl
theorem u0 {aa:List aR}{k:Nat}:cut By (kZ (k:Int)) aa=aa.take k:=by unfold cut;simp only[abh,cg,uT,kW,LI];refine m5 BS ?_;exact bS 3368917491971 rfl rfl
theorem ys:cut (kZ (e:Int)) By aw=aw.drop e:=by
 unfold cut;simp only[abh,cg,uT];by_cases C:e<=aw.length
 ·rw[ke C,pj];refine J BU ?_;exact nu _
 ·refine J (mx<|bC 114945 C)<|J (jf<|nu _)<|J (jf<|bC 114945 C) ?_;simp
theorem Gv:cut (kZ (i:Int)) (kZ (j:Int)) aw=(aw.take j).drop i:=by
 unfold cut;simp only[abh,cg,uT];refine J kX ?_;by_cases C:i<=aw.length
 ·refine J (ke (C:i<=aw.length)) ?_;rcases dR j aw.length with X|X
  ·exact J (ke X) rfl
  ·exact J (mx X)<|(pj<|r5 BU).trans (pj<|J BU<|Nat.sub_le_sub_right X i).symm
 ·refine J (mx (by exact bC 114945 C:aw.length<=i))<|J (jf<|nu _)<|J (jf<|bC 114945 C) ?_;simp
theorem yX:(bm xs).take e=bm (xs.take e):=acl.symm
theorem yW:(bm xs).drop e=bm (xs.drop e):=r9.symm
theorem pY:bm xs++bm A=bm (xs++A):=qB.symm
theorem Tf:(bm xs).reverse=bm xs.reverse:=List.map_reverse.symm
theorem eb:(bm xs).length=xs.length:=aa0 ..
theorem Td:∀{xs bw:List Int},bm xs=bm bw->xs=bw:=by
 intro h;induction h with
 |nil=>
  intro f;cases f with
  |nil=>intro s;exact rfl
  |cons _ _=>intro c;first|exact c.elim|cases c
 |cons x xs D=>
  intro f;cases f with
  |nil=>intro c;first|exact c.elim|cases c
  |cons y bw=>intro C;simp only[n8,BF.injEq,V.int.injEq] at C;exact J C.1<|J (D C.2) rfl
theorem Kl:times pt [ak]=dr pt.toNat ak:=by
 unfold times;generalize pt.toNat=m;induction m with
 |zero=>rfl
 |succ m D=>refine J aaV<|J n9<|J D<|J aaV ?_;rfl
theorem Hw:dr e (V.int pt)=bm (dr e pt):=by simp
theorem Jm:pick (e:Int) aw=aw[e]?:=by unfold pick;simp
theorem ta:(bm xs)[e]?=(xs[e]?).map .int:=by simp
theorem item_list (C:aa[e]?=kZ u)(aj:aa.length<2^62):item (.list aa) (.int e) u:=⟨Jm.trans C,aj⟩
theorem item_tup (C:aa[e]?=kZ u)(aj:aa.length<2^62):item (.tup aa) (.int e) u:=⟨Jm.trans C,aj⟩
def lR (ab:V->az->Prop)(I:az)(xs:List Int):Prop:=∀a Z,bp I Z->I a=By->Z a=kZ (.list<|bm xs)->ab (.ref a) Z
def pu (ab:V->az->Prop)(I:az)(r:Addr)(xs:List Int):Prop:=∀a Z,bp I Z->(a=r\/I a=By)->Z a=kZ (.list<|bm xs)->ab (.ref a) Z
theorem pu.Kn (C:pu ab I ae xs):lR ab I xs:=λa Z x n e=>C a Z x (.inr n) e
theorem bp.none (x:bp I Z)(C:Z a=By):I a=By:=by
 cases e:I a with
 |none=>rfl
 |some o=>replace C:=(x a o e)▸C;exact g4 C
theorem ty_list (C:I a=kZ (.list aa)):V.ty I (.ref a)=kZ "list":=by refine(?_:(I a).bind O.ty=_);refine J C ?_;rfl
variable{aP:List (Int×V)}
theorem Kv (C:I a=kZ (.cu aP)):V.ty I (.ref a)=kZ "dict":=by refine(?_:(I a).bind O.ty=_);refine J C ?_;rfl
theorem oY {q b4:O}(aE:I a=kZ q)(aA:I ae=kZ b4)(C:q≠b4:=by exact nofun):a≠ae:=λX=>by subst X;replace aA:=aE▸aA;cases aA;exact C rfl
theorem de {q:O}(aE:I a=kZ q)(aA:I ae=By):a≠ae:=λX=>by subst X;replace aA:=aE▸aA;exact g4 aA
theorem Upd.keep {h q b4:O}(C:Upd I Z a h)(aE:I a=kZ q)(aA:I ae=kZ b4)(aX:b4≠q:=by exact nofun):Z ae=kZ b4:=(C.ne<|oY aA aE aX).trans aA
structure hF (ae a d:Addr)(ah:List (Str×V))(ar I:az):Prop where
 ext:bp ar I
 na:ar a=By
 d5:ar d=By
 d3:I a=kZ (.inst ae d)
 id:I d=kZ (.attrs ae ah)
theorem mY (aU:c.Ok)(hm:so c.K ae l) (C:∀a d Z,hF ae a d [] I Z->be c e (.ref l) (.ref a::aa) (λu Z=>u=.none/\ab (.ref a) Z) Z):be c (e+1) (.ref ae) aa ab I:=by
 refine Vw aU hm λa d aX na d5=>C a d _ ⟨?_,na,d5,az.set_same ..,?_⟩
 ·exact(bp.new d5).trans<|bp.new (by refine J (az.g5 _ _ _ aX) ?_;exact na)
 ·refine J (az.g5 _ _ _<|us aX) ?_;exact az.set_same ..
theorem hF.step (C:hF ae a l a1 au I)(k:Upd I Z l (.attrs ae<|bF w u a1)):hF ae a l (bF w u a1) au Z:= ⟨k.ext C.ext C.d5,C.na,C.d5,k.keep C.id C.d3,k.at⟩
theorem hF.grow (C:hF ae a l a1 au I)(x:bp I Z):hF ae a l a1 au Z:=⟨C.ext.trans x,C.na,C.d5,x _ _ C.d3,x _ _ C.id⟩
variable{h:List (List Int)}
theorem Qu (g:List Int->List Int)(M:eF aF I)(aB:I a=kZ (.list aa))(L:cc (IsL aF I) aa h)(aj:aa.length<=gW) (ax:∀au u aC K,bp I au->eF aF au->IsL aF au u aC->aC∈h->(∀w aS,bp au aS->IsL aF aS w (g aC)->K w aS)->ck (u::e7) K au) (hf:∀ag Z,bp I Z->cc (IsL aF Z) ag (h.map g)->fj ag Z):km (.list a) ck e7 fj I:=by
 refine zp (λag Z=>bp I Z/\cc (IsL aF Z) ag ((h.map g).take ag.length)) aj ⟨bp.refl,trivial⟩ (λag Z C=>C.1 _ _ aB) ?_ ?_
 ·rintro ag au u ⟨U,aI⟩ aQ;refine bg (L.get' aQ) λaC ao a7=>ax au u aC _ U (M.ext U) (a7.ext U) (jI ao) λw aS aR a1=>⟨U.trans aR,?_⟩;exact J nb<|J hC<|J uc<|J jH<|J qw<|J ao<|(aI.mono λq q X=>X.ext aR).append ⟨a1,trivial⟩
 ·rintro ag au ⟨U,aI⟩ an;refine hf ag au U ?_;rwa[pj<|by refine J (aa0 _)<|J an<|J L.length ?_;exact nu _] at aI
theorem be.at {k:Nat}(C:be c e ak aa ab I)(hd:e<=k:=by lia):nw c k ak aa ab I:=by
 intro W s dD ag E L S hf aE;refine C.ZU W s dD ag E ⟨?_,?_,L.handled⟩ S hf aE
 ·have:=L.depth;exact bS 14526008902636050154675293777692801 hd this
 ·have:=L.units;exact bS 12254384597757239851281293679396993 hd this
theorem c0 {n:Nat}(C:dN n 1000=true):n<2^62:=il (r6 C) (by decide)
theorem gV (C:dN e 1000=true):e<=gW:=nf (r6 C) (by refine J wT ?_;decide)
theorem p6 (C:dN (e+1) b=true):e<b:=r6 C
theorem ci (ap:mz c.K (.ref a)=true)(C:be c e (.ref a) aa ab I)(hd:e<=b:=by lia):mz c.K (.ref a)=true/\nw c b (.ref a) aa ab I:=⟨ap,C.at hd⟩
theorem ca (C:be c e ak aa ab I)(hd:dN e b=true:=by rfl):nw c b ak aa ab I:=C.at (r6 hd)
theorem eY {P:List V->Prop}(bu:I a=kZ (.tup aa))(an:aa.length=e)(C:P aa):∃aa,I a=kZ (.tup aa)/\aa.length=e/\P aa:=(c7 aa bu an C)
theorem dd (ai:I a=kZ (.inst ae l))(ao:I l=kZ (.attrs ae a1))(an:a1.lookup w=By)(hm:jS c.K ae w cl)(C:aF cl): ∃ae l a1 cl,I a=kZ (.inst ae l)/\I l=kZ (.attrs ae a1)/\a1.lookup w=By/\jS c.K ae w cl/\aF cl:=(⟨ae,l,a1,cl,ai,ao,an,hm,C⟩)
theorem ii {h:O}(C:I a=kZ h)(aL:item h ak u)(ad:ab u I):gc (.ref a) ak ab I:=(dM h u C aL ad)
theorem cE {k:Nat}(C:I a=kZ (.list aa))(aQ:aa[k]?=kZ u)(aj:aa.length<2^62)(ad:ab u I):gc (.ref a) (.int k) ab I:=(dM _ u C (item_list aQ aj) ad)
theorem it {k:Nat}(C:I a=kZ (.tup aa))(aQ:aa[k]?=kZ u)(aj:aa.length<2^62)(ad:ab u I):gc (.ref a) (.int k) ab I:=(dM _ u C (item_tup aQ aj) ad)
theorem ek (C:I a=kZ (.gD a1))(aQ:a1.lookup w=kZ u)(ad:ab u I):gc (.ref a) (.str w) ab I:=(dM _ u C aQ ad)
theorem pX (C:I a=kZ (.cu aP))(aQ:aP.lookup pt=kZ u)(ad:ab u I):gc (.ref a) (.int pt) ab I:=(dM _ u C aQ ad)
theorem di (ai:I a=kZ (.inst ae l))(ao:I l=kZ (.attrs ae a1))(an:a1.lookup w=kZ u)(C:dE u (ad u)):d2 I a w ad:=by refine J (MK ai ao)<|J an ?_;exact C
theorem ie (ai:I a=kZ (.inst ae l))(ao:I l=kZ (.attrs ae a1))(hd:fS c.K ae w=true)(aj:a1.length<900)(C:∀D,Upd I D l (.attrs ae<|bF w u a1)->cd D): ∃ae l a1,I a=kZ (.inst ae l)/\I l=kZ (.attrs ae a1)/\fS c.K ae w=true/\a1.length<900/\∀D,Upd I D l (.attrs ae<|bF w u a1)->cd D:=(qr ae l a1 ai ao hd aj C)
theorem li (C:I l=kZ (.list aa))(aj:aa.length<2^62)(ad:ab (.int aa.length) I):ou [.ref l] ab I:=(c7 aa (.inl C) aj ad)
theorem qd (C:I l=kZ (.list aa))(av:I ae=kZ (.list am))(aj:aa.length+am.length<=gW)(ad:∀a D,ei I D a (.list<|aa++am)->ab (.ref a) D):eV (.ref l) (.ref ae) ab I:=(gA aa am C av aj ad)
theorem rt (C:I l=kZ (.list aa))(ai: -(2^63:Int)<=pt)(ao:pt<2^63)(aj:aa.length*pt.toNat<=2^24)(ad:∀a D,ei I D a (.list<|times pt aa)->ab (.ref a) D):m1 (.ref l) (.int pt) ab I:=(⟨aa,C,ai,ao,aj,ad⟩)
variable{ch:Addr->az->Prop}
theorem tS (C:I l=kZ (.list aa))(aj:aa.length<=gW)(ad:∀a D,ei I D a (.list<|cut mp h6 aa)->ch a D):∃aa,I l=kZ (.list aa)/\aa.length<=gW/\∀a D,ei I D a (.list<|cut mp h6 aa)->ch a D:=(c7 aa C aj ad)
theorem dC (C:ab (.int<|pt -last) I):nV (.int pt) (.int last) ab I:=C
theorem dt (C:ab (.int<|pt+last) I):eV (.int pt) (.int last) ab I:=C
theorem tm (C:ab (.int<|max pt last) I):ov [.int pt,.int last] ab I:=C
theorem zD (C:ab (.int<|min pt last) I):nF [.int pt,.int last] ab I:=C
theorem Ho (C:ab (.bool<|decide<|last<pt) I):v9 (.int pt) (.int last) ab I:=C
theorem qV (C:ab (.bool<|decide<|pt=last) I):oEq (.int pt) (.int last) ab I:=C
theorem eqs (C:ab (.bool<|decide<|w=name) I):oEq (.str w) (.str name) ab I:=C
theorem cx {p:Prop}[Decidable p](C:p->G)(av:¬ p->B):hj (decide p) G B:=by refine J Gl ?_;exact⟨C,av⟩
theorem mn [Decidable G](C:¬ G->X)(av:G->B):hj (!decide G) X B:=by refine J Qj ?_;exact⟨C,av⟩
theorem js (C:B):hj (false^^false) G B:=C
theorem cw {k:Nat}(C:I l=kZ (.list aa))(ap:k<aa.length)(aj:aa.length<2^62)(ad:∀D,Upd I D l (.list<|aa.set k u)->cd D):m2 (.ref l) (.int k) u cd I:= .inl<|⟨aa,C,(dG 2807),(bC 270639272 ap),aj,(λD C=>ad D C)⟩
theorem gy {P:az->Prop}(C:I l=kZ (.cu aP))(aj:aP.length<=gW)(ad:∀D,Upd I D l (.cu<|hv pt u aP)->P D):m2 (.ref l) (.int pt) u P I:=.inr<|c7 aP C aj ad
theorem ss (C:I l=kZ (.gD a1))(aj:a1.length<=gW)(ad:∀D,Upd I D l (.gD<|hv w u a1)->cd D):m2 (.ref l) (.str w) u cd I:=(c7 a1 C aj ad)
theorem mW {b4:O}{b:Bool}(C:I a=kZ b4)(ap:HK b4 ak b)(ad:ab (.bool<|cD^^b) I):i5 cD ak (.ref a) ab I:=(dM b4 b C ap ad)
def b6:eG:=⟨yN,x6⟩
abbrev es:a5:=aM<|.int 1
abbrev da:a5:=aM<|.int 0
abbrev c3:a5:=λR=>cf<|bD 0 R
abbrev df:a5:=cG ou dh
abbrev dJ:a5:=bt gc
abbrev aS:a5:=bD 0
abbrev eE:a5:=λR=>bD 1<|bD 2 R
abbrev db:a5:=bt eV
abbrev i0:a5:=λR=>aM (.str "spots")<|dJ R
abbrev bj:a5:=bD 1
abbrev dn:a5:=bt nV
abbrev iX:a5:=λR=>aS<|cA "gap_start" R
abbrev cF:a5:=dV gv
abbrev cM:a5:=dV dB
abbrev mR:a5:=aM .none
abbrev s0:a5:=λR=>dz "current"<|dV dh R
abbrev ky:a5:=λR=>aM (.str "text")<|dJ R
abbrev jv:a5:=λR=>aS<|cA "gap_end" R
abbrev kz:a5:=λR=>aS<|cA "tab_width" R
abbrev kA:a5:=λR=>aM (.ref 1337)<|cf R
abbrev bz:a5:=bD 2
abbrev iy:a5:=λR=>f9<|oJ true false R
abbrev iY:a5:=λR=>f9<|oJ false true R
abbrev kB:a5:=λR=>aS<|cA "cells" R
abbrev bX:a5:=bD 3
abbrev oA:a5:=aM<|.str "rectangle"
abbrev hJ:a5:=λR=>da<|dJ R
abbrev lg:a5:=cA "position"
abbrev dU:a5:=bt oEq
abbrev g0:a5:=q6 "str"
abbrev h8:a5:=cA "rows"
abbrev bO:a5:=bD 4
abbrev fT:a5:=dV iG
abbrev fd:a5:=λR=>es<|dn R
abbrev l6:a5:=aM<|.str "\n"
abbrev oB:a5:=λR=>aM (.int 32)<|eT dh R
abbrev jZ:a5:=cA "point"
abbrev j0:a5:=aM<|.int 2
abbrev jw:a5:=q6 "list"
abbrev f6:a5:=λR=>mR<|aS R
abbrev f7:a5:=λR=>es<|db R
abbrev fe:a5:=dV dh
abbrev l7:a5:=aM<|.int 10
abbrev cn:a5:=bD 5
abbrev iz:a5:=λR=>c3<|eE R
abbrev mS:a5:=aM<|.bool false
abbrev mT:a5:=aM<|.str ""
abbrev l8:a5:=cA "first"
abbrev h9:a5:=λR=>c3<|bD 7 R
abbrev kC:a5:=λR=>mR<|bt o1 R
abbrev gS:a5:=λR=>df<|db R
abbrev oC:a5:=λR=>es<|dJ R
abbrev pT:a5:=λR=>aM (.ref 598)<|iz R
abbrev f8:a5:=bt oLt
abbrev qX:a5:=λR=>c3<|cA "registers" R
abbrev oD:a5:=cA "markers"
abbrev l9:a5:=cA "last"
abbrev oE:a5:=aM<|.ref 453
abbrev oF:a5:=aM<|.ref 481
abbrev hK:a5:=λR=>bj<|aS R
abbrev qY:a5:=aM<|.str "open"
abbrev ma:a5:=λR=>mR<|bt tv R
abbrev oG:a5:=λR=>f9<|oJ true true R
abbrev qZ:a5:=λR=>aM (.ref 619)<|c3 R
abbrev s1:a5:=λR=>aM (.str "kept")<|dJ R
abbrev s2:a5:=aM<|.str "string"
abbrev s3:a5:=aM<|.str "number"
abbrev iA:a5:=λR=>c3<|bj R
abbrev ho:a5:=eT nY
abbrev cV:a5:=bD 6
abbrev mU:a5:=cG ov dB
abbrev hL:a5:=bt m1
abbrev iZ:a5:=λR=>cM<|b0 R
abbrev q0:a5:=aM<|.str " "
abbrev jx:a5:=λR=>cF<|b0 R
abbrev s4:a5:=λR=>aM (.ref 446)<|c3 R
abbrev jy:a5:=λR=>bj<|oC R
abbrev jz:a5:=λR=>bj<|hJ R
abbrev iB:a5:=bt v9
abbrev gs:a5:=b3 4
abbrev j1:a5:=λR=>bz<|aS R
abbrev j2:a5:=λR=>bz<|bX R
abbrev q1:a5:=cA "number"
abbrev i1:a5:=i4 dB
abbrev vu:a5:=aM<|.str "delete"
abbrev oH:a5:=cG qR dB
abbrev vv:a5:=aM<|.str "close"
abbrev s5:a5:=λR=>aS<|cA "props" R
abbrev kD:a5:=λR=>bX<|fT R
abbrev q2:a5:=dz "codes"
abbrev q3:a5:=aM<|.int 4
abbrev vw:a5:=λR=>aS<|cA "overlays" R
abbrev lh:a5:=λR=>bz<|bj R
abbrev s6:a5:=λR=>aS<|cA "text" R
abbrev lj:a5:=λR=>cn<|bO R
abbrev pU:a5:=cG nF dB
abbrev vx:a5:=cA "listeners"
abbrev kE:a5:=dV wh
abbrev pV:a5:=cG sE dB
abbrev vy:a5:=λR=>aM (.ref 439)<|cf R
abbrev qW:a5:=cA "mark"
abbrev l4:a5:=λR=>bj<|bX R
abbrev l5:a5:=λR=>bj<|df R
abbrev ix:a5:=b3 3
abbrev eR:a5:=bD 7
abbrev sY:a5:=aM<|.int 9
abbrev vo:a5:=aM<|.ref 212
abbrev vp:a5:=aM<|.ref 324
abbrev vq:a5:=aM<|.ref 488
abbrev vr:a5:=aM<|.ref 715
abbrev sZ:a5:=λR=>aS<|cA "zv" R
abbrev mQ:a5:=λR=>c3<|s0 R
abbrev vt:a5:=λR=>aS<|cA "order" R
abbrev DP:aI:=hK<|bK "symbol"<|j1<|bK "data" bv
abbrev DR:aI:=hK<|bK "number"<|j1<|bK "advances"<|f6<|bK "buffer"<|da<|aS<|bK "position" bv
abbrev DT:aI:=mV<|aS<|bK "rows" bv
abbrev DV:aI:=aS<|h8<|cG sI dh bf
abbrev DW:aI:=hK<|h8<|bj<|q1<|gu<|lh<|bK "position" bv
abbrev xF:aI:=bO<|lg<|bz<|db<|bj<|dn<|bO<|bK "position" bv
abbrev DU:aI:=aS<|dz "numbers"<|fe<|et<|gt [5] (aS<|h8<|cn<|dJ<|gs<|bO<|lg<|bj<|iB<|a8 xF<|bO<|lg<|bj<|dU<|a8 (bX<|a8 xF<|bO<|cA "advances"<|a8 xF bv) bv) bv
abbrev DS:aI:=aS<|dz "numbers"<|fe<|et<|gt [4] (aS<|h8<|bO<|dJ<|ix<|bX<|lg<|bz<|iB<|a8 (bX<|lg<|lh<|dn<|dn<|bX<|bK "position" bv)<|bX<|lg<|bj<|iB<|a8 (l4<|bK "position" bv) bv) bv
abbrev DX:aI:=aS<|dz "numbers"<|fe<|et<|gt [5] (aS<|h8<|cn<|dJ<|gs<|bO<|lg<|bz<|bt m0<|a8 (bO<|lg<|bX<|db<|lh<|dn<|dn<|bO<|bK "position" bv)<|bO<|lg<|bj<|iB<|a8 (bj<|bO<|bK "position" bv) bv) bv
@[reducible] def ux:aI:=hK<|bK "buffer"<|bj<|ma<|a8 (da<|aS<|bK "position" bv)<|bj<|oD<|dz "put"<|aS<|bz<|es<|mU<|bj<|dz "size"<|fe<|f7<|pU<|cF<|b0 bv
abbrev Fm:aI:=aS<|cA "buffer"<|kC<|a8 (aS<|cA "buffer"<|bj<|bt o1<|a8 (aS<|cA "buffer"<|oD<|dz "drop"<|aS<|cM<|b0 ux) ux) ux
abbrev DQ:aI:=hK<|bK "most"<|ho<|aS<|bK "markers"<|da<|aS<|bK "last" bv
abbrev Df:aI:=vo<|c3<|qW<|aS<|bj<|cF<|b0 bv
abbrev Fl:aI:=aS<|qW<|ma<|a8 (aM (.ref 133)<|cf<|da<|mS<|cM<|aS<|bK "mark" Df) Df
abbrev Eu:aI:=aS<|qW<|kC<|a8 (aS<|qW<|cA "buffer"<|mR<|bt o1 bf)<|aM (.bool false) bf
abbrev Fh:aI:=aS<|l9<|fd<|aS<|bK "last"<|aM (.ref 133)<|c3<|l9<|mS<|cM<|ix<|vo<|cf<|bX<|eE<|jx<|bD 3 bf
abbrev Dc:aI:=aM (.ref 240)<|cf<|eE<|cM<|b0 bv
abbrev E3:aI:=aM (.ref 247)<|cf<|bj<|fe<|a8 (aS<|oD<|jw<|da<|aM (.ref 254)<|iA<|bj<|qW<|lg<|cF<|cG uN gv<|b0<|aS<|oD<|aS<|cA "most"<|iy<|et<|gt [3] (vo<|cf<|bX<|mR<|da<|cF<|b0 bv)<|aS<|oD<|aS<|cA "most"<|iY<|aS<|bK "markers" Dc) Dc
abbrev EA:aI:=aS<|aM (.ref 278)<|yP x9 dB bf
abbrev EB:aI:=aS<|aM (.ext<|.type "str")<|cG (pF "str") dB bf
abbrev EW:aI:=aS<|ma<|a8 (aM (.int 1) bf)<|aM (.ref 296)<|c3<|fe<|a8 (es<|mc bf)<|aM (.ref 289)<|c3<|fe<|a8 (aS<|cA "number" bf)<|bD 0 bf
abbrev ET:aI:=aS<|cA "is_read_only"<|a8 fm bv
abbrev ES:aI:=aS<|dz "size"<|fe<|bj<|db<|aM (.int 4194304)<|iB<|a8 fm bv
abbrev E9:aI:=eE<|pU<|eE<|mU<|i1<|j4 [3,4]<|bO<|aS<|cA "begv"<|f8<|a8 fm<|bX<|sZ<|iB<|a8 fm<|bO<|bX<|i4 dB bf
abbrev Fs:aI:=aS<|vx<|cG nE dh<|et<|gt [3] (bX<|dz "before_change"<|aS<|eE<|fT<|b0 bv) bv
abbrev Ft:aI:=aS<|dz "touch"<|aM (.bool true)<|iZ<|aS<|vx<|cG nE dh<|et<|gt [4] (bO<|dz "after_change"<|aS<|eE<|bX<|kE<|b0 bv) bv
abbrev Dh:aI:=s6<|dz "delete"<|bj<|fd<|bz<|fd<|cF<|ix<|sZ<|lh<|dn<|dn<|aS<|bK "zv"<|aS<|jZ<|bj<|iB<|a8 (hK<|jZ<|lh<|dn<|dn<|mU<|aS<|bK "point"<|bD 3 bf)<|bD 3 bf
abbrev Fx:aI:=aS<|cA "undo"<|kC<|a8 (aS<|cA "undo"<|dz "text_goes"<|aS<|eE<|fT<|b0 Dh) Dh
abbrev Dg:aI:=s6<|dz "insert"<|bj<|fd<|bz<|jx<|sZ<|bz<|gS<|aS<|bK "zv"<|aS<|jZ<|bj<|iB<|a8 (aS<|jZ<|bz<|gS<|aS<|bK "point" bv) bv
abbrev Fv:aI:=aS<|cA "undo"<|kC<|a8 (aS<|cA "undo"<|dz "text_comes"<|aS<|eE<|df<|fT<|b0 Dg) Dg
abbrev CO:aI:=vw<|kC<|a8 (vw<|dz "text_gone"<|bj<|fd<|bz<|fd<|cF<|b0 bv) bv
abbrev Ex:aI:=s5<|kC<|a8 (s5<|dz "text_gone"<|bj<|fd<|bz<|fd<|cF<|b0 CO) CO
abbrev CN:aI:=vw<|kC<|a8 (vw<|dz "text_came"<|bj<|fd<|j2<|fT<|b0 bv) bv
abbrev Ew:aI:=s5<|kC<|a8 (s5<|dz "text_came"<|bj<|fd<|bz<|cF<|b0 CN) CN
@[reducible] def xQ:aI:=aS<|oD<|dz "inserted"<|bj<|eE<|gS<|kD<|b0<|aM (.ref 366)<|iz<|df<|kD<|b0<|aM (.ref 338)<|iA<|eE<|gS<|da<|fT<|b0 bv
abbrev E5:aI:=aM (.ref 310)<|c3<|fe<|b0<|vp<|iA<|bj<|jx<|bz<|df<|da<|dU<|a8 s9<|aM (.ref 317)<|c3<|bz<|df<|iZ<|aM (.ref 331)<|iA<|bj<|jx<|aM (.ref 352)<|iz<|jx<|bO<|a8 (eE<|gS<|aS<|bK "point" xQ) xQ
abbrev Ez:aI:=aM (.ref 373)<|iz<|bX<|mS<|kE<|b0 bv
abbrev Ey:aI:=aM (.ref 373)<|c3<|aS<|jZ<|eE<|aM (.bool true)<|kE<|b0 bv
abbrev Ec:aI:=aM (.ref 310)<|c3<|fe<|b0<|vp<|iz<|cF<|hq [5,4]<|lj<|dU<|a8 (eT nY bf)<|aM (.ref 331)<|c3<|lj<|jx<|aM (.ref 345)<|c3<|lj<|cF<|ix<|aS<|oD<|dz "deleted"<|lj<|jx<|aM (.ref 359)<|c3<|lj<|jx<|aM (.ref 338)<|c3<|cn<|lj<|cn<|dn<|fT<|b0<|bD 3 bf
abbrev De:aI:=aM (.ref 338)<|h9<|eR<|bX<|gS<|cV<|eR<|dn<|fT<|b0<|bD 5 bf
@[reducible] def xR:aI:=aS<|oD<|dz "replaced"<|eR<|cV<|bX<|df<|fT<|b0<|aM (.ref 366)<|c3<|cV<|bX<|df<|aM (.bool true)<|fT<|b0<|aM (.ref 359)<|h9<|cV<|jx<|bO<|kC<|a8 (s5<|dz "put_rows"<|bO<|cM<|b0 De) De
abbrev Ff:aI:=aM (.ref 310)<|c3<|fe<|b0<|vp<|iz<|cF<|hq [7,6]<|eR<|cV<|dU<|a8 (aM (.ref 381)<|h9<|bX<|jx<|eT nY bf)<|bX<|df<|da<|dU<|a8 (aM (.ref 396)<|h9<|cV<|dV gv bf)<|aM (.ref 317)<|c3<|bX<|df<|cV<|eR<|dn<|dn<|iZ<|aS<|jZ<|b3 8<|aM (.ref 331)<|h9<|cV<|jx<|aM (.ref 345)<|h9<|cV<|cF<|b3 5<|aM (.ref 352)<|h9<|bX<|jx<|bD 8<|cV<|bt m0<|a8 (bD 8<|bX<|gS<|cV<|eR<|dn<|dn<|aS<|bK "point" xR) xR
abbrev EQ:aI:=bj<|b3 2<|nQ (j1<|dz "begin"<|fe<|iB<|a8 (aS<|dz "code_at"<|bz<|fd<|cM<|l7<|bt i6<|a8 (bz<|fd<|b3 2 bv) i3) i3)<|bD 2 bf
abbrev EP:aI:=bj<|b3 2<|nQ (j1<|dz "end"<|fe<|f8<|a8 (aS<|dz "code_at"<|bz<|cM<|l7<|bt i6<|a8 (bz<|f7<|b3 2 bv) i3) i3)<|bD 2 bf
abbrev Fy:aI:=aS<|sY<|dU<|a8 (bz<|eE<|bt oMod<|bt nV bf)<|aS<|aM (.int 32)<|f8<|a8 (aM (.int 2) bf)<|aS<|aM (.int 127)<|dU<|a8 (aM (.int 2) bf)<|aM (.int 127)<|aS<|vB oLt (aM (.int 160)<|f8<|a8 (aM (.int 4) bf)<|aM (.int 1) bf)<|aM (.int 1) bf
abbrev CM:aI:=mT<|g0<|bj<|pW<|pV<|g0<|aM (.str "0")<|cG sF dB<|bt eV bf
abbrev abX:aI:=bj<|jw<|bX<|cG cStr dh<|g0<|aM (.int 4000)<|aM (.str "0")<|cG sH gv<|oH<|b0 bv
abbrev Et:aI:=l7<|aM (.int 4000)<|bt tw<|b3 2<|aS<|cG cAbs dh<|bz<|f8<|a8 (aS<|cG cStr dh bf)<|ho<|b3 1<|aS<|cG cAbs dh<|gs<|nQ (bO<|da<|iB<|a8 fm i3)<|aS<|da<|f8<|a8 (aM (.str "-") CM)<|aM (.str "") CM
abbrev D7:aI:=aS<|aM (.ref 425)<|cf<|hK<|bz<|cF<|bt eV bf
abbrev D6:aI:=da<|gs<|aS<|bj<|iY<|et<|gt [3] (vy<|bO<|bX<|bz<|cF<|b3 4 bv)<|bD 4 bf
abbrev Fi:aI:=s4<|aS<|df<|bj<|dV gv bf
abbrev E2:aI:=da<|ix<|aS<|df<|kF dh<|gt [4] (bX<|bj<|bt m0<|a8 (bD 4 bf)<|vy<|bX<|aS<|bO<|dJ<|bz<|cF<|b3 3 bv)<|aS<|cG ou dh bf
abbrev EY:aI:=aM (.ref 460)<|iz<|cF<|b3 5<|cn<|da<|dU<|a8 (bD 0 bf)<|aS<|cn<|fd<|dJ<|sY<|bt i6<|a8 (bD 0 bf)<|s4<|cn<|bz<|cF<|bj<|bt oLe<|a8 (bD 0 bf)<|s4<|cn<|fd<|bz<|cF<|ix<|s4<|cn<|bz<|cF<|gs<|aS<|cn<|fd<|iY<|oB<|bO<|bX<|dn<|hL<|db<|aS<|cn<|iy<|bt eV bf
abbrev E1:aI:=aS<|oB<|da<|bj<|oE<|c3<|bz<|cM<|dn<|mU<|hL<|bt eV bf
abbrev Ea:aI:=aM (.ref 467)<|iz<|cF<|gs<|aM (.ref 460)<|cf<|bO<|eE<|cF<|ix<|bO<|bX<|iY<|bO<|bX<|iy<|i4 dB bf
abbrev Eb:aI:=oF<|c3<|j2<|cF<|hq [5,7]<|oF<|cf<|cn<|l4<|cF<|hq [4,6]<|bO<|cV<|eR<|i4 gv bf
abbrev Fp:aI:=ho<|b3 5<|bj<|b3 6<|aS<|et<|gt [4] (vy<|cV<|bO<|bz<|cF<|ix<|bO<|sY<|dU<|a8 (cn<|jw<|oB<|bX<|cV<|dn<|hL<|cG qS dB<|b0<|bX<|b3 6 bv)<|cn<|jw<|bO<|oH<|b0<|bX<|b3 6 bv)<|bD 5 bf
abbrev Es:aI:=vq<|iz<|kD<|hq [4,7,8]<|bj<|oE<|cf<|bO<|bX<|cM<|mU<|b3 9<|bD 9<|b3 6<|eR<|et<|gt [5] (vy<|cV<|cn<|bX<|cF<|b3 6 bv)<|oB<|bD 9<|bj<|dn<|hL<|aM (.ref 495)<|cf<|eR<|bD 9<|bX<|cF<|db<|oB<|da<|bz<|cV<|dn<|mU<|hL<|bt eV bf
abbrev Ep:aI:=oE<|c3<|bX<|cM<|bj<|bt oLe<|a8 (bD 0 bf)<|vq<|iz<|kD<|hq [4,5,6]<|bO<|cV<|bt eV bf
abbrev D3:aI:=oE<|c3<|bX<|cM<|bj<|bt oLe<|a8 (bD 0 bf)<|vq<|iz<|kD<|hq [4,5,6]<|bO<|cV<|df<|da<|iB<|a8 (oB<|lh<|dn<|hL<|cV<|db<|bt eV bf)<|ho<|bt eV bf
abbrev EZ:aI:=oE<|c3<|bX<|cM<|bj<|bt oLe<|a8 (bD 0 bf)<|oF<|iA<|bX<|cF<|hq [4,5]<|bO<|oB<|lh<|dn<|hL<|db<|cn<|bt eV bf
abbrev Fg:aI:=vq<|cf<|aM (.ref 474)<|iA<|bO<|cF<|eE<|bO<|fT<|hq [5,6,7]<|cn<|bX<|db<|eR<|bt eV bf
abbrev E6:aI:=oF<|cf<|aM (.ref 474)<|iA<|bX<|cF<|l4<|cF<|hq [4,5]<|bO<|bz<|db<|cn<|bt eV bf
@[reducible] def CE:aI:=bX<|lj<|iy<|bt eV bf
abbrev CF:aI:=bO<|f7<|b3 4 bv
abbrev D5:aI:=oE<|c3<|bz<|cM<|bj<|bt oLe<|a8 (bD 0 bf)<|oF<|iz<|cF<|hq [3,5]<|da<|gs<|nQ (bO<|cn<|df<|f8<|a8 (lj<|dJ<|aM (.int 32)<|dU<|a8 CF<|lj<|dJ<|sY<|dU<|a8 CF i3) i3) CE
abbrev EV:aI:=aM (.ref 432)<|cf<|j1<|gS<|fe<|df<|b3 7<|ho<|gs<|aS<|df<|kF dh<|gt [5] (aM (.ref 432)<|cf<|bz<|cn<|db<|fe<|g0<|eR<|cG sH dB<|q0<|db<|b3 6<|bO<|jw<|aM (.ref 537)<|c3<|cn<|dJ<|bj<|cV<|et<|fV [] (aS<|cG nG dh bf)<|kD<|oH<|b0 bv)<|bD 4 bf
abbrev DZ:aI:=hK<|bK "low"<|j1<|bK "high"<|bX<|aS<|bK "rows"<|bO<|aS<|bK "first"<|cn<|aS<|bK "last" bv
abbrev Fk:aI:=ho<|eT dh<|b3 2<|aS<|et<|gt [1] (bj<|l7<|dU<|a8 (bz<|jw<|ho<|oH<|b0 bv)<|bz<|bz<|df<|fd<|dJ<|jw<|bj<|oH<|b0 bv)<|bD 2 bf
@[reducible] def xS:aI:=bj<|jw<|aS<|bz<|dJ<|cG qS dB<|b0 bv
abbrev Fw:aI:=ho<|b3 1<|aS<|df<|kF dh<|gt [2] (bz<|da<|iB<|a8 (bj<|jw<|l7<|oH<|b0 xS) xS)<|bD 1 bf
abbrev D8:aI:=aM (.ref 411)<|iA<|cM<|ix<|s4<|q2<|bX<|bj<|cF<|l4<|dn<|bz<|dV gv bf
abbrev Fo:aI:=vp<|iz<|cF<|hq [7,8]<|aM (.ref 411)<|h9<|cM<|aM (.ref 418)<|c3<|bD 8<|cM<|i1<|j4 [5,6]<|aM (.ref 591)<|h9<|bX<|cF<|aM (.ref 591)<|c3<|bD 8<|bX<|cF<|eT dB<|cG sI dh<|gs<|aM (.ref 566)<|cf<|cV<|cn<|aM (.ref 577)<|c3<|q2<|cV<|cn<|cF<|fe<|bO<|hJ<|bO<|oC<|dV wh bf
abbrev D9:aI:=da<|ix<|nQ (bX<|j1<|df<|l5<|cG nF gv<|f8<|a8 (aS<|bX<|dJ<|l4<|dJ<|dU<|a8 (bX<|f7<|b3 3 bv) i3) i3)<|bD 3 bf
abbrev E7:aI:=aM (.ref 605)<|cf<|j2<|bO<|cF<|b3 6<|aM (.ref 605)<|cf<|bz<|cV<|iy<|pW<|bX<|cV<|iy<|pW<|cn<|cF<|b3 7<|aM (.ref 404)<|iA<|cV<|db<|eE<|gS<|eR<|dn<|bX<|cV<|f9<|bX<|df<|eR<|dn<|oG<|fT<|b0 bv
abbrev Dd:aI:=eR<|fd<|b3 6 bv
abbrev E8:aI:=bj<|cA "high"<|b3 6<|bz<|df<|fd<|es<|mc<|es<|mc<|kF gv<|gt [9] (bj<|h8<|bD 9<|dJ<|b3 8<|cV<|bD 8<|df<|dn<|b3 7<|bz<|bD 9<|dJ<|bD 8<|bt i6<|a8 (oF<|cf<|bD 8<|bj<|l8<|bO<|cF<|hJ<|df<|b3 5<|aM (.ref 612)<|h9<|bD 8<|bz<|bD 9<|dJ<|cn<|oF<|cf<|bD 8<|bX<|bO<|cF<|oC<|df<|dV o6<|b0 Dd) Dd) bv
abbrev Er:aI:=pT<|kD<|gs<|bO<|h8<|et<|fV [4,3] (aM (.ref 502)<|iA<|l8<|bj<|l9<|bz<|dV iG bf) bf
abbrev Ed:aI:=pT<|kD<|gs<|qZ<|bO<|bO<|h8<|et<|fV [4,3] (aM (.ref 509)<|iA<|l8<|bj<|l9<|bz<|dV iG bf)<|bO<|l9<|bX<|kE<|b0 bv
abbrev EC:aI:=aM (.ref 624)<|iz<|kD<|gs<|aM (.ref 629)<|iz<|kD<|b0<|bD 4 bf
abbrev D2:aI:=pT<|kD<|gs<|qZ<|bO<|bO<|h8<|et<|fV [4,3] (aM (.ref 516)<|iA<|l8<|bj<|l9<|bz<|dV iG bf)<|bO<|l9<|bX<|kE<|b0 bv
abbrev EX:aI:=pT<|kD<|gs<|qZ<|bO<|bO<|h8<|et<|fV [4,3] (aM (.ref 523)<|iA<|l8<|bj<|l9<|bz<|dV iG bf)<|bO<|l8<|bX<|kE<|b0<|aS<|dz "goto"<|eE<|pU<|cM<|b0 bv
abbrev D4:aI:=pT<|kD<|gs<|qZ<|bO<|bO<|h8<|et<|fV [4,3] (aM (.ref 544)<|iA<|l8<|bz<|dV gv bf)<|bO<|l8<|bX<|kE<|b0 bv
abbrev Fq:aI:=pT<|bO<|fT<|b3 7<|eR<|h8<|et<|fV [3,7,4] (aM (.ref 530)<|c3<|bz<|l8<|bz<|l9<|l4<|dV wh bf)<|b3 6<|aM (.ref 619)<|h9<|cV<|eR<|l9<|bO<|kE<|b0<|oF<|cf<|eR<|h8<|cV<|df<|fd<|dJ<|eR<|l9<|bO<|cF<|oC<|df<|b3 5<|eR<|cA "low"<|aM (.ref 584)<|cf<|cV<|fe<|gS<|cn<|dn<|aS<|bK "point" bv
abbrev EU:aI:=pT<|bO<|fT<|b3 5<|qZ<|cn<|aM (.ref 549)<|cf<|cn<|h8<|cn<|l8<|bX<|bO<|fT<|cn<|l8<|bO<|kE<|b0 bv
@[reducible] def Di:aI:=eR<|bX<|gS<|aM (.ref 675)<|cf<|lj<|eE<|fT<|db<|aS<|bK "point" bv
abbrev Dj:aI:=db<|b3 3 Di
@[reducible] def Dk:aI:=aM (.ref 584)<|cf<|cn<|cn<|df<|fd<|iY<|fe<|cn<|df<|es<|iB<|a8 (l7<|eT dh Dj)<|eT nY Dj
@[reducible] def xT:aI:=qZ<|aM (.ref 566)<|cf<|eR<|cV<|bD 9<|bO<|bO<|kE<|cn<|bD 8<|iY<|bO<|bz<|kE<|b0 Dk
@[reducible] def Dl:aI:=bD 8<|l5<|f8<|a8 (aM (.ref 381)<|c3<|cV<|l7<|eT dh<|aM (.ref 584)<|cf<|cn<|bD 8<|iy<|fe<|db<|cF<|b0 xT) xT
abbrev Dm:aI:=bj<|bO<|aS<|dJ<|cn<|dV iG bf
abbrev Fz:aI:=l5<|da<|dU<|a8 s9<|aS<|jZ<|b3 10<|aM (.ref 591)<|c3<|bD 10<|bz<|cF<|gs<|aM (.ref 411)<|c3<|bD 10<|cM<|b3 7<|aM (.ref 418)<|c3<|bD 10<|cM<|b3 6<|l5<|fd<|kF dh<|gt [11] (cV<|sZ<|f8<|a8 (aM (.ref 418)<|c3<|cV<|f7<|cM<|b3 6 bv) bv)<|aM (.ref 577)<|c3<|q2<|eR<|cV<|cF<|fe<|b3 9<|bD 9<|df<|b3 8<|l5<|kF dh<|fV [4,8,9,1,2] (aM (.ref 537)<|c3<|bz<|f8<|a8 (bX<|aS<|bt gc Dm)<|eT nY Dm)<|b3 5 Dl
abbrev D1:aI:=aS<|aS<|df<|fd<|dJ<|b3 5<|aM (.ref 682)<|cf<|bz<|bz<|df<|fd<|dJ<|l4<|cF<|b3 7<|da<|gs<|da<|b3 6<|nQ (bO<|cn<|df<|f8<|a8 (cV<|bj<|eR<|db<|f8<|a8 (bO<|f7<|gs<|oE<|cf<|lj<|iY<|bX<|cM<|b3 6 bv) i3) i3)<|bD 4 bf
abbrev Fj:aI:=oE<|cf<|oB<|bj<|hL<|aS<|db<|bz<|cM<|bj<|bt nV bf
abbrev DY:aI:=mV<|aS<|bK "contents" bv
abbrev Ev:aI:=aS<|cA "contents"<|q6 "dict"<|bj<|mR<|cG uM gv bf
abbrev E4:aI:=j1<|cA "contents"<|bj<|gu bv
abbrev Fa:aI:=aM (.ref 722)<|iA<|oA<|bz<|et<|fV [] (aS<|cG nE dh bf)<|i1<|cF<|b0 bv
abbrev Fu:aI:=aS<|aM (.ext<|.type "str")<|cG (pF "str") dB<|a8 (aS<|et<|fV [] (aS<|cG nG dh bf) bf)<|aS<|cG nE dh bf
abbrev Db:aI:=aS<|cA "marks"<|bj<|bt gc bf
abbrev ER:aI:=aS<|cA "buffers"<|cA "current"<|b3 1<|hK<|cA "marks"<|bt (i5 true)<|a8 (aM (.ref 229)<|cf<|aM (.int 16)<|fe<|aS<|cA "marks"<|bj<|gu Db) Db
abbrev Fn:aI:=aS<|aM (.ext<|.type "int")<|cG (pF "int") dB<|a8 (da<|aS<|vB oLe (aM (.int 4194304)<|f8<|a8 (bD 0 bf) fm) fm) fm
abbrev CH:aI:=jx<|bz<|dz "goto"<|jy<|ma<|a8 (cn<|cM<|b0 bv)<|bO<|cM<|b0 bv
abbrev CI:aI:=bz<|jZ<|gs<|aM (.ref 261)<|cf<|aM (.ref 751)<|c3<|fe<|bz<|jy<|ma<|a8 (bD 4 CH)<|bD 5 CH
abbrev CJ:aI:=aM (.ref 739)<|qX<|jz<|bz<|mS<|fT<|b0 CI
abbrev Ej:aI:=vr<|qX<|aM (.ref 758)<|cf<|jz<|fe<|cM<|aS<|s0<|i1<|j4 [2,3]<|bz<|jZ<|b3 5<|bX<|kC<|a8 (bX<|hJ<|oA<|dU<|a8 (aM (.ref 668)<|cf<|j2<|oC<|kz<|cF<|b0 CI) CJ) CJ
abbrev CG:aI:=i1<|j4 [2,4]<|bz<|mQ<|jy<|bj<|j0<|dJ<|kz<|fT<|ix<|aM (.ref 727)<|qX<|bO<|bX<|cF<|b0 bv
abbrev Eh:aI:=aM (.ref 758)<|cf<|jz<|fe<|bj<|aM (.int 3)<|dJ<|ma<|a8 (aM (.ref 624) CG)<|aM (.ref 636) CG
abbrev Ek:aI:=aM (.ref 624)<|mQ<|jz<|jy<|kz<|fT<|aS<|bK "rectangle"<|aM (.ref 629)<|mQ<|jz<|jy<|kz<|fT<|b0 bv
abbrev Eg:aI:=aM (.ref 624)<|mQ<|jz<|jy<|kz<|fT<|aS<|bK "rectangle" bv
abbrev Ei:aI:=aM (.ref 629)<|mQ<|jz<|jy<|kz<|fT<|b0 bv
abbrev Eo:aI:=aS<|s0<|b3 2<|aM (.ref 261)<|cf<|aM (.ref 751)<|c3<|fe<|bz<|bz<|jZ<|jx<|aM (.ref 668)<|cf<|j1<|cA "rectangle"<|kz<|cF<|b0 bv
abbrev Em:aI:=aM (.ref 646)<|mQ<|jz<|jy<|kz<|fT<|b0 bv
abbrev Ee:aI:=aM (.ref 641)<|mQ<|jz<|jy<|kz<|fT<|b0 bv
abbrev Ef:aI:=aM (.ref 651)<|mQ<|jz<|jy<|kz<|fT<|b0 bv
abbrev En:aI:=aM (.ref 656)<|mQ<|jz<|jy<|aM (.ref 744)<|cf<|bj<|j0<|dJ<|fe<|kz<|kE<|b0 bv
@[reducible] def CK:aI:=aM (.ref 663)<|mQ<|jz<|jy<|bz<|kz<|kE<|b0 bv
abbrev CL:aI:=b3 2 CK
abbrev El:aI:=bj<|j0<|dJ<|ma<|a8 (aM (.int 1) CL)<|aM (.ref 303)<|cf<|bj<|j0<|dJ<|dV dh CL
abbrev DK:aI:=j1<|bK "room"<|bj<|cG nE dh<|da<|eT dh<|bz<|hL<|db<|aS<|bK "cells"<|l5<|aS<|bK "gap_start"<|l5<|bz<|db<|aS<|bK "gap_end" bv
abbrev DN:aI:=kB<|df<|jv<|dn<|iX<|bt eV bf
abbrev DH:aI:=bj<|iX<|f8<|a8 (kB<|bj<|bt gc bf)<|kB<|bj<|iX<|dn<|jv<|db<|bt gc bf
abbrev DI:aI:=jv<|iX<|dn<|ix<|bz<|iX<|bt oLe<|a8 (kB<|bj<|f9<|bz<|f9<|oJ true true bf)<|bj<|iX<|bt m0<|a8 (kB<|l4<|db<|f9<|j2<|db<|f9<|oJ true true bf)<|kB<|bj<|f9<|iX<|oG<|kB<|jv<|f9<|j2<|db<|oG<|bt eV bf
abbrev CD:aI:=hK<|bK "gap_start" bv
abbrev DM:aI:=bj<|iX<|f8<|a8 (kB<|bj<|f9<|iX<|oG<|b3 2<|bz<|kB<|jv<|bz<|df<|dn<|f9<|jv<|f9<|q5 true true<|jv<|bz<|df<|dn<|aS<|bK "gap_end" CD)<|kB<|jv<|f9<|jv<|bj<|db<|iX<|dn<|oG<|b3 2<|bz<|kB<|iX<|f9<|iX<|bz<|gS<|f9<|q5 true true<|jv<|bz<|gS<|aS<|bK "gap_end" CD
abbrev DO:aI:=bj<|jv<|iX<|dn<|dn<|b3 2<|bz<|da<|iB<|a8 (da<|eT dh<|j1<|cA "room"<|db<|hL<|kB<|jv<|f9<|jv<|f9<|q5 true true<|jv<|bz<|db<|aS<|cA "room"<|db<|aS<|bK "gap_end" bv) bv
abbrev DL:aI:=aS<|dz "widen_gap"<|bz<|df<|iZ<|aS<|dz "move_gap"<|bj<|iZ<|bz<|kB<|bj<|f9<|eE<|gS<|f9<|q5 true true<|eE<|gS<|aS<|bK "gap_start" bv
@[reducible] def xE:aI:=jv<|bz<|db<|iX<|dn<|aS<|bK "gap_end"<|hK<|bK "gap_start"<|bD 3 bf
abbrev CC:aI:=bj<|iX<|iB<|a8 (aS<|dz "move_gap"<|bj<|cM<|b0 xE) xE
abbrev DJ:aI:=aS<|q2<|eE<|cF<|ix<|bz<|iX<|f8<|a8 (aS<|dz "move_gap"<|bz<|cM<|b0 CC) CC
abbrev DC:aI:=hK<|bK "number"<|j1<|bK "name"<|aM (.ref 922)<|cf<|ho<|bX<|cM<|aS<|bK "text"<|aM (.ref 201)<|cf<|dV nY<|aS<|bK "markers"<|es<|aS<|bK "point"<|es<|aS<|bK "begv"<|es<|aS<|bK "zv"<|f6<|bK "mark"<|aM (.bool true)<|aS<|bK "is_live"<|mS<|aS<|bK "is_read_only"<|es<|aS<|bK "ticks"<|es<|aS<|bK "codes_ticks"<|es<|aS<|bK "saved_ticks"<|ho<|aS<|bK "listeners"<|f6<|bK "undo"<|f6<|bK "props"<|f6<|bK "overlays"<|f6<|bK "locals"<|f6<|bK "syntax"<|f6<|bK "file" bv
abbrev Dx:aI:=aS<|cA "begv" bf
abbrev DA:aI:=aS<|cA "zv" bf
abbrev DD:aI:=s6<|dz "size"<|dV dh bf
abbrev Dy:aI:=hK<|cA "begv"<|f8<|a8 (es<|mc bf)<|hK<|cA "zv"<|bt m0<|a8 (es<|mc bf)<|s6<|dz "code"<|bj<|fd<|dV dB bf
abbrev Dz:aI:=s6<|q2<|bj<|fd<|bz<|fd<|dV gv bf
abbrev DB:aI:=hK<|cA "begv"<|mU<|sZ<|pU<|aS<|bK "point"<|aS<|cA "point" bf
abbrev DE:aI:=aS<|cA "ticks"<|f7<|aS<|bK "ticks"<|bj<|a8 (aS<|cA "ticks"<|aS<|bK "codes_ticks" bv) bv
abbrev Dt:aI:=mV<|aS<|bK "rows"<|ho<|aS<|bK "order"<|da<|aS<|bK "current"<|da<|aS<|bK "last_number"<|da<|aS<|bK "last_marker"<|ho<|aS<|bK "listeners" bv
abbrev Dr:aI:=aS<|h8<|q6 "dict"<|bj<|cG uM dB bf
abbrev Dq:aI:=vt<|et<|gt [2] (aS<|h8<|bz<|dJ<|cA "name"<|bj<|dU<|a8 (aS<|h8<|bz<|bt gc bf) bv)<|aM .none bf
abbrev Ds:aI:=bj<|mT<|dU<|a8 fm<|aS<|dz "by_name"<|bj<|cM<|kC<|a8 fm<|aS<|cA "last_number"<|f7<|aS<|bK "last_number"<|aM (.ref 1028)<|c3<|cA "last_number"<|bj<|cM<|b3 2<|bz<|vx<|jw<|aS<|vx<|cG qS dB<|b0<|j1<|h8<|bz<|q1<|gu<|vt<|jw<|bz<|q1<|oH<|b0<|bD 2 bf
abbrev Dv:aI:=aS<|dz "set_current"<|bj<|iZ<|vt<|jw<|bj<|q1<|cG yb dB<|b0<|vt<|jw<|da<|bj<|q1<|cG uN gv<|b0 bv
abbrev Dw:aI:=bj<|cA "is_live"<|a8 (bj<|q1<|aS<|bK "current" bv) fm
abbrev Dp:aI:=mT<|aS<|bK "sort"<|da<|aS<|bK "many" bv
abbrev DG:aI:=hK<|bK "buffers"<|j1<|bK "commands"<|bX<|aS<|bK "global_map"<|mV<|aS<|bK "local_maps"<|ho<|aS<|bK "minor_maps"<|f6<|bK "question_map"<|f6<|bK "questions"<|f6<|bK "asker"<|f6<|bK "kills"<|f6<|bK "registers"<|f6<|bK "abbrevs"<|f6<|bK "windows"<|f6<|bK "files"<|f6<|bK "machine"<|f6<|bK "rules"<|f6<|bK "further"<|f6<|bK "matches"<|f6<|bK "loop"<|mV<|aS<|bK "goals"<|mV<|aS<|bK "undoing"<|mV<|aS<|bK "marks"<|aM (.ref 1153)<|cf<|dV nY<|aS<|bK "amalgam"<|mT<|aS<|bK "message"<|mS<|aS<|bK "is_echo_old"<|mS<|aS<|bK "is_shifting"<|f6<|bK "signal_text"<|f6<|bK "panes"<|f6<|bK "modes"<|aM (.int 70)<|aS<|bK "fill_column"<|aM (.int 8)<|aS<|bK "tab_width"<|ho<|aS<|bK "rectangle"<|f6<|bK "last_expansion"<|f6<|bK "replacing" bv
abbrev DF:aI:=aS<|cA "buffers"<|dz "by_number"<|aS<|cA "buffers"<|cA "current"<|dV dB bf
abbrev Du:aI:=aS<|cA "last_marker"<|f7<|aS<|bK "last_marker"<|aM (.ref 133)<|c3<|cA "last_marker"<|bj<|dV dB bf
abbrev EE:aI:=aS<|aM (.int 24)<|f9<|vC false true<|et<|fV [] (j0<|aS<|cG cAbs dh<|hL<|aS<|da<|f8<|a8 (es<|bt eV bf)<|da<|bt eV bf)<|b3 1<|bj<|et<|fV [] (aS<|l7<|aM (.int 120)<|bt tw<|bt oMod bf)<|b3 1<|bj<|et<|S8 [] (aS<|l7<|aM (.int 18)<|bt tw<|bt m0<|a8 (bD 0 bf) bv)<|aM (.int 5)<|l5<|hL<|bj<|cG yc dh<|db<|da<|eT gv bf
abbrev CT:aI:=lh<|bt oMod bf
abbrev EG:aI:=aS<|hJ<|ho<|bt i6<|a8 (aS<|hJ<|hJ<|b3 2<|lh<|bt oDiv<|aS<|hJ<|da<|gu<|aS<|hJ<|hJ<|da<|dU<|a8 (aS<|hJ<|jw<|da<|cG ya dB<|b0 CT) CT)<|aS<|j0<|dJ<|f7<|aS<|j0<|gu<|aS<|oC<|aM (.int 4294967291)<|bt oMod<|aM (.int 2654435761)<|aS<|j0<|dJ<|hL<|db<|aM (.int 4294967291)<|bt oMod<|ix<|bX<|bX<|hL<|aM (.int 40503)<|aS<|j0<|dJ<|hL<|db<|aM (.int 7)<|db<|aM (.int 4294967279)<|bt oMod<|ix<|bX<|bX<|hL<|aM (.int 4294967231)<|bt oMod<|aM (.int 512)<|bt oDiv<|bj<|bt oMod bf
@[reducible] def xG:aI:=cn<|bX<|gS<|lh<|dn<|dn<|aS<|i0<|bO<|gu bv
@[reducible] def xH:aI:=bj<|cn<|f8<|a8 (cn<|bz<|f8<|a8 (hK<|i0<|bO<|gu bv) bv) bv
@[reducible] def xI:aI:=eE<|f8<|a8 (cn<|bz<|bt m0<|a8 xG xH) xH
abbrev ED:aI:=aS<|ky<|bj<|iY<|bX<|db<|aS<|ky<|bz<|iy<|db<|aS<|aM (.str "text")<|gu<|aS<|i0<|yR dh<|gt [4,5] (eE<|dU<|a8 (cn<|bj<|iB<|a8 xG xI) xI) bv
@[reducible] def xP:aI:=eE<|i1<|et<|fV [0] (aS<|bj<|ky<|g0<|l6<|da<|aS<|cG sG iG<|dn<|es<|bt nV bf)<|ix<|cn<|aS<|ky<|cn<|f9<|bO<|oG<|g0<|l6<|cG sJ dB<|bX<|cG nF dh<|bX<|cG ov dh<|i4 iG bf
abbrev EM:aI:=aS<|ky<|g0<|l6<|da<|eE<|pU<|cG sG iG<|f7<|b3 5<|aS<|ky<|g0<|l6<|eE<|mU<|cG uL gv<|gs<|bO<|da<|f8<|a8 (aS<|ky<|df<|b3 4 xP)<|bO<|b3 4 xP
@[reducible] def xN:aI:=bD 9<|fd<|b3 7 bv
@[reducible] def xO:aI:=aM (.ref 1344)<|c3<|bD 9<|cV<|db<|bD 9<|bD 11<|gS<|bD 12<|dn<|bD 10<|cV<|f9<|bD 10<|df<|bD 12<|dn<|oG<|fT<|b0 xN
@[reducible] def CW:aI:=nQ (bD 12<|bD 8<|f8<|a8 (cV<|bD 12<|db<|bD 10<|df<|f8<|a8 (bD 11<|bD 11<|df<|fd<|bD 12<|dn<|dJ<|bD 10<|bD 10<|df<|fd<|bD 12<|dn<|dJ<|dU<|a8 (bD 12<|f7<|b3 12 bv) i3) i3) i3) xO
abbrev EK:aI:=bj<|l6<|g0<|bz<|pV<|gS<|b3 7<|bz<|pW<|bX<|pW<|q7 dB<|gt [11,10] (eR<|bD 11<|df<|dn<|bO<|bD 11<|df<|pU<|da<|i4 gv<|j4 [12,6,9]<|bD 10<|bD 11<|bt i6<|a8 (da<|bD 11<|df<|cn<|dn<|mU<|b3 8 CW) xN) bv
@[reducible] def CX:aI:=aS<|vu<|dU<|a8 (eE<|iY<|l4<|iy<|bt eV bf)<|aS<|qY<|dU<|a8 (eE<|iY<|q0<|bX<|bz<|dn<|hL<|db<|eE<|iy<|bt eV bf)<|aS<|vv<|dU<|a8 (eE<|iY<|eE<|iy<|g0<|q0<|cG sF dB<|bt eV bf)<|eE<|iY<|l5<|bX<|iB<|a8 (q0<|bX<|bz<|dn<|hL<|l4<|iy<|db<|bt eV bf)<|mT<|bt eV bf
abbrev CY:aI:=iy<|bt eV bf
@[reducible] def Mn:aI:=bj<|g0<|bz<|cG pG dB<|b3 1<|eE<|iY<|bO<|db<|hK<|s2<|dU<|a8 (bD 3 CY)<|bD 2 CY
abbrev EL:aI:=aS<|s2<|s3<|i1<|bt (i5 false)<|a8 Mn<|l5<|bz<|bt oLe<|a8 (bD 1 bf) CX
abbrev EN:aI:=aM (.ref 1349)<|iz<|cF<|hq [5,6,3,4]<|cV<|et<|fV [3,4] (aS<|bj<|f9<|bz<|oG<|g0<|lh<|dn<|cG pG dB bf) bf
abbrev CR:aI:=bj<|s2<|dU<|a8 (bD 9<|l6<|g0<|bD 10<|pV<|gS<|da<|bD 11<|es<|mc<|dJ<|df<|bD 8<|dn<|mU<|dn<|aS<|i0<|da<|gu bv) bv
@[reducible] def CS:aI:=bj<|qY<|dU<|a8 (j2<|pU<|aS<|i0<|da<|gu CR) CR
@[reducible] def uw:aI:=bD 11<|bD 12<|q7 dB<|fV [7,8,1] (aM (.ref 1363)<|cf<|bO<|aS<|j2<|bj<|dV wh bf)<|b3 10<|aM (.ref 1356)<|c3<|bD 9<|bD 11<|bD 10<|eR<|cV<|dV o6<|b0 CS
@[reducible] def xJ:aI:=i1<|j4 [6,12]<|bj<|s3<|dU<|a8 (cn<|bD 11<|gS<|cG cStr dh<|df<|b3 13<|bD 11<|df<|kF dh<|fV [5,13] (hK<|db<|cG cStr dh<|g0<|bz<|cG sH dB<|q0<|bt eV bf)<|b3 12 uw) uw
abbrev EF:aI:=aM (.ref 1349)<|c3<|j2<|cF<|hq [9,11,7,8]<|bD 11<|et<|fV [4] (bD 1 bf)<|bj<|qY<|vv<|s3<|i4 gv<|bt (i5 false)<|a8 (bD 7 xJ)<|bD 8 xJ
@[reducible] def xL:aI:=cn<|l6<|g0<|cV<|bX<|db<|es<|mc<|iY<|mT<|eT dh<|db<|pV<|gS<|bz<|db<|bj<|es<|mc<|dJ<|gS<|aS<|i0<|da<|gu bv
@[reducible] def xM:aI:=aM (.ref 1356)<|c3<|cn<|eR<|cV<|bz<|bz<|dV o6<|b0 xL
abbrev EJ:aI:=bj<|ho<|dU<|a8 s9<|aM (.ref 1349)<|c3<|aS<|i0<|hJ<|aS<|i0<|hJ<|cF<|hq [5,7,2,8]<|aS<|ky<|cn<|iy<|g0<|l6<|cG sJ dB<|l5<|iY<|b3 7<|eR<|bj<|q7 dB<|fV [2] (aS<|g0<|bz<|cG pG dB<|bz<|iY<|bj<|db<|aS<|g0<|bz<|cG pG dB<|bz<|iy<|bt eV bf)<|b3 6<|bj<|eR<|df<|iy<|et<|fV [2] (q0<|bj<|hL<|aS<|bt eV bf)<|ix<|bX<|ho<|bt i6<|a8 (aS<|ky<|df<|gs<|aM (.ref 1344)<|c3<|bO<|bO<|l6<|l6<|g0<|bX<|pV<|db<|fT<|b0 xM) xM
abbrev CU:aI:=vr<|qX<|cV<|cM<|bO<|bt i6<|a8 (aM (.bool false) bf) bv
@[reducible] def xK:aI:=aS<|et<|fV [] (aS<|cG nG dh bf) bf
abbrev EH:aI:=aS<|s0<|bz<|oA<|dJ<|et<|fV [] xK<|i1<|j4 [3,5]<|cn<|q2<|es<|cn<|dz "size"<|fe<|f7<|cF<|bz<|ky<|et<|fV [] (aS<|cG nG dh bf)<|bt i6<|a8 (aM (.bool false) bf)<|aS<|cA "rectangle"<|bX<|bt i6<|a8 (aM (.bool false) bf)<|aM (.int 97)<|aM (.int 98)<|i1<|et<|gt [6] (cV<|bz<|s1<|bt (i5 true)<|a8 (mR<|b3 4 CU)<|oA<|bz<|s1<|cV<|dJ<|et<|fV [] xK<|i1<|b3 4 CU)<|cn<|jZ<|fd<|cn<|qW<|lg<|fd<|eT dB<|bj<|et<|fV [] (aS<|lg<|es<|bt nV bf)<|db<|b3 7<|eR<|bz<|i0<|bt oEq bf
@[reducible] def ps:aI:=aM (.ref 1373)<|cf<|l4<|bO<|cn<|bD 8<|cV<|dV o6<|b0 bv
abbrev CZ:aI:=eT dh<|db<|cM<|b0 ps
@[reducible] def Da:aI:=bX<|vu<|dU<|a8 (aM (.ref 793)<|h9<|cM<|b0 ps)<|bX<|qY<|dU<|a8 (aM (.ref 807)<|h9<|cM<|b0 ps)<|bX<|aM (.str "clear")<|dU<|a8 (aM (.ref 814)<|h9<|cM<|b0 ps)<|bX<|vv<|dU<|a8 (aM (.ref 821)<|h9<|cM<|b0 ps)<|bX<|s2<|dU<|a8 (aM (.ref 828)<|h9<|bD 8<|eT dh<|db<|cM<|b0 ps)<|aM (.ref 835)<|h9<|cV<|es<|dU<|a8 (aM .none CZ)<|bD 6 CZ
abbrev EO:aI:=bO<|f7<|cn<|f7<|eT dB<|mT<|aM (.str "x")<|aM (.str "yz")<|aM (.str " xyz")<|eT iG<|kA<|bz<|q3<|cM<|dJ<|es<|aM (.int 8)<|aM (.int 98)<|es<|mc<|eT iG<|kA<|bz<|q3<|cM<|dJ<|i4 gv<|j4 [6,8,7] Da
@[reducible] def CV:aI:=cV<|bj<|j0<|iy<|q7 dB<|gt [5,7] (vo<|cf<|lj<|eR<|f7<|cF<|b0 bv)<|aM (.ref 704)<|cf<|dV nY<|bX<|bK "registers"<|bX<|cV<|aS<|bj<|cG nE dh<|ho<|mV<|yQ ["text","spots","rectangle","kept"] iG<|i4 gv bf
abbrev EI:aI:=aM (.ref 1132)<|cf<|dV nY<|b3 2<|bz<|dz "create"<|aM (.str "a")<|cM<|aM (.ref 1321)<|cf<|bz<|mR<|mR<|cF<|i1<|j4 [3,4]<|bz<|dz "select"<|bO<|iZ<|aM (.ref 389)<|cf<|bO<|aS<|et<|fV [] (aS<|cG nG dh bf)<|iZ<|bO<|dz "goto"<|jz<|f7<|iZ<|aM (.ref 240)<|cf<|bO<|jy<|f7<|iZ<|bz<|dz "new_marker"<|mS<|cM<|bz<|dz "new_marker"<|mS<|cM<|eT dB<|b3 6 CV
noncomputable def A2:List aI:=[DP,DR,DT,DV,DW,DU,DS,DX,Fm,DQ,Fl,Eu,Fh,E3,EA,EB,EW,ET,ES,E9,Fs,Ft,Fx,Fv,Ex,Ew,E5,Ez,Ey,Ec,Ff,EQ,EP,Fy,Et,D7,D6,Fi,E2,EY,E1,Ea,Eb,Fp,Es,Ep,D3,EZ,Fg,E6,D5,EV,DZ,Fk,Fw,D8,Fo,D9,E7,E8,Er,Ed,EC,D2,EX,D4,Fq,EU,Fz,D1,Fj,DY,Ev,E4,Fa,Fu,ER,Fn,Ej,Eh,Ek,Eg,Ei,Eo,Em,Ee,Ef,En,El,DK,DN,DH,DI,DM,DO,DL,DJ,DC,Dx,DA,DD,Dy,Dz,DB,DE,Dt,Dr,Dq,Ds,Dv,Dw,Dp,DG,DF,Du,EE,EG,ED,EM,EK,EL,EN,EF,EJ,EH,EO,EI]
theorem Ik {P:Str->aR->Prop}{h:List (Str×aR)}(C:f1 (λp=>P p.1 p.2) h)(e:h.lookup w=kZ aN):P w aN:=by
 induction C with
 |nil=>exact bY e
 |@cons p h aP bu D=>
  unfold List.lookup at e;cases X:(w==p.1) with
  |true=>replace e:=X▸e;refine J (eq_of_beq X) ?_;exact(kZ.inj e)▸aP
  |false=>replace e:=X▸e;exact D e
theorem Gu {P:Str->Prop}(C:f1 P nm)(e:nm.contains w=true):P w:=by
 induction C with
 |nil=>exact lf e
 |cons aP bu D=>
  rw[qA,eM] at e;rcases e with e|e
  ·exact J (eq_of_beq e) aP
  ·exact D e
theorem T2 (H:a2 c):fP c b6:=⟨H.ok,Ik (P:=oo c) H.gl.sp.1,Gu (P:=qN c) H.eI.sp.1⟩
variable{a4:V}
variable{bx:V}
variable{bN:V}
section
theorem FN {f:aR->cQ}{d:aR}:∀(l:List aR) (i:Nat),eH (f d) (l.map f) i=f (eH d l i)
 |[],_=>rfl
 |_::_,0=>rfl
 |_::l,i+1=>FN l i
def wf (r:lM):aI:=KH b6 r.s r.nm r.b bv
theorem aab:ir.map wf=A2:=by ext
theorem pa:f1 (λ(r:lM)=>wo r.s r.dQ r.nm=true) (ir++iu):=qP (p:=λ(r:lM)=>wo r.s r.dQ r.nm) (λ_ C=>C) (by ext)
theorem bu (n:Nat)(ab:V->az->Prop)(I:az)(H:a2 c)(i:Nat)(a:Addr)(aq:aI)(aa am:List V) (e:((eH f0 ir i).a,eH (wf f0) A2 i,aa.length+(eH f0 ir i).gq.length,aa++(eH f0 ir i).gq++dr ((eH f0 ir i).nm.length -(eH f0 ir i).dQ.length) .aK)=(a,aq,(eH f0 ir i).dQ.length,am)) (C:aq (dI c n ab) am [] I):be c (n+1) (.ref a) aa ab I:=by
 obtain⟨aE,e⟩:=mw.inj e;obtain⟨a1,e⟩:=mw.inj e;obtain⟨an,g⟩:=mw.inj e;obtain⟨c1,ah,hf⟩:=H.r i;have e:eH (wf f0) A2 i=wf (eH f0 ir i):=by rw[<-aab];exact FN (f:=wf) (d:=f0) ir i
 rw[<-aE];refine Ry H.ok hf (tJ<|pa.sp.1.fX (d:=f0) pa.hd i) (M6 (T2 H) _) ah an ?_;show wf (eH f0 ir i) (dI c n ab) _ [] I;rw[<-e,a1,g];exact C
variable(H:a2 c)
def ab0:=bu e ab I H 0 35 DP [ak,aJ,a4] [ak,aJ,a4] (by ext)
def Og {n:Nat}:=bu n ab I H 1 109 DR [ak,aJ,a4] [ak,aJ,a4] (by ext)
def Oi {n:Nat}:=bu n ab I H 2 149 DT [ak] [ak] (by ext)
def Ol {n:Nat}:=bu n ab I H 3 156 DV [ak] [ak] (by ext)
def Om {n:Nat}:=bu n ab I H 4 163 DW [ak,aJ,a4] [ak,aJ,a4] (by ext)
def Oj {n:Nat}:=bu n ab I H 5 184 DU [ak,aJ,a4,bx] [ak,aJ,a4,bx,.aK,.aK] (by ext)
def Oh {n:Nat}:=bu n ab I H 6 191 DS [ak,aJ,a4] [ak,aJ,a4,.aK,.aK] (by ext)
def On {n:Nat}:=bu n ab I H 7 198 DX [ak,aJ,a4,bx] [ak,aJ,a4,bx,.aK,.aK] (by ext)
def PE {n:Nat}:=bu n ab I H 8 212 Fm [ak,aJ,a4] [ak,aJ,a4] (by ext)
def Of {n:Nat}:=bu n ab I H 9 226 DQ [ak,aJ] [ak,aJ] (by ext)
def F9 {n:Nat}:=bu n ab I H 10 240 Fl [ak,aJ] [ak,aJ] (by ext)
def F7 {n:Nat}:=bu n ab I H 11 247 Eu [ak] [ak] (by ext)
def PA {n:Nat}:=bu n ab I H 12 254 Fh [ak,aJ,a4] [ak,aJ,a4,.aK] (by ext)
def Pq {n:Nat}:=bu n ab I H 13 261 E3 [ak,aJ,a4] [ak,aJ,a4,.aK] (by ext)
def OY {n:Nat}:=bu n ab I H 14 289 EA [ak] [ak] (by ext)
def OZ {n:Nat}:=bu n ab I H 15 296 EB [ak] [ak] (by ext)
def Pk {n:Nat}:=bu n ab I H 16 303 EW [ak] [ak] (by ext)
def Ph {n:Nat}:=bu n ab I H 17 310 ET [ak] [ak] (by ext)
def Pg {n:Nat}:=bu n ab I H 18 317 ES [ak,aJ] [ak,aJ] (by ext)
def Pw {n:Nat}:=bu n ab I H 19 324 E9 [ak,aJ,a4] [ak,aJ,a4,.aK,.aK] (by ext)
def PJ {n:Nat}:=bu n ab I H 20 331 Fs [ak,aJ,a4] [ak,aJ,a4,.aK] (by ext)
def PK {n:Nat}:=bu n ab I H 21 338 Ft [ak,aJ,a4,bx] [ak,aJ,a4,bx,.aK] (by ext)
def PO {n:Nat}:=bu n ab I H 22 345 Fx [ak,aJ,a4] [ak,aJ,a4,.aK] (by ext)
def PM {n:Nat}:=bu n ab I H 23 352 Fv [ak,aJ,a4] [ak,aJ,a4] (by ext)
def OV {n:Nat}:=bu n ab I H 24 359 Ex [ak,aJ,a4] [ak,aJ,a4] (by ext)
def OU {n:Nat}:=bu n ab I H 25 366 Ew [ak,aJ,a4,bx] [ak,aJ,a4,bx] (by ext)
def Ps {n:Nat}:=bu n ab I H 26 373 E5 [ak,aJ,a4,bx,bN] [ak,aJ,a4,bx,bN] (by ext)
def OX {n:Nat}:=bu n ab I H 27 381 Ez [ak,aJ,a4] [ak,aJ,a4,.bool false] (by ext)
def OW {n:Nat}:=bu n ab I H 28 389 Ey [ak,aJ] [ak,aJ,.bool false] (by ext)
def OC {n:Nat}:=bu n ab I H 29 396 Ec [ak,aJ,a4] [ak,aJ,a4,.aK,.aK,.aK] (by ext)
def Py {n:Nat}:=bu n ab I H 30 404 Ff [ak,aJ,a4,bx] [ak,aJ,a4,bx,.none,.aK,.aK,.aK,.aK] (by ext)
def Pe {n:Nat}:=bu n ab I H 31 411 EQ [ak,aJ] [ak,aJ,.aK] (by ext)
def Pd {n:Nat}:=bu n ab I H 32 418 EP [ak,aJ] [ak,aJ,.aK] (by ext)
def PP {n:Nat}:=bu n ab I H 33 425 Fy [ak,aJ,a4] [ak,aJ,a4] (by ext)
def OS {n:Nat}:=bu n ab I H 34 432 Et [ak] [ak,.aK,.aK,.aK,.aK] (by ext)
def Ox {n:Nat}:=bu n ab I H 35 439 D7 [ak,aJ,a4] [ak,aJ,a4] (by ext)
def Ow {n:Nat}:=bu n ab I H 36 446 D6 [ak,aJ,a4] [ak,aJ,a4,.aK,.aK] (by ext)
def PB {n:Nat}:=bu n ab I H 37 453 Fi [ak,aJ] [ak,aJ] (by ext)
def Pp {n:Nat}:=bu n ab I H 38 460 E2 [ak,aJ,a4] [ak,aJ,a4,.aK,.aK] (by ext)
def Pm {n:Nat}:=bu n ab I H 39 467 EY [ak,aJ,a4] [ak,aJ,a4,.aK,.aK,.aK] (by ext)
def Po {n:Nat}:=bu n ab I H 40 474 E1 [ak,aJ,a4] [ak,aJ,a4] (by ext)
def OA {n:Nat}:=bu n ab I H 41 481 Ea [ak,aJ,a4] [ak,aJ,a4,.aK,.aK] (by ext)
def OB {n:Nat}:=bu n ab I H 42 488 Eb [ak,aJ,a4,bx] [ak,aJ,a4,bx,.aK,.aK,.aK,.aK] (by ext)
def PH {n:Nat}:=bu n ab I H 43 495 Fp [ak,aJ,a4] [ak,aJ,a4,.aK,.aK,.aK,.aK] (by ext)
def OR {n:Nat}:=bu n ab I H 44 502 Es [ak,aJ,a4,bx] [ak,aJ,a4,bx,.aK,.aK,.aK,.aK,.aK,.aK] (by ext)
def OP {n:Nat}:=bu n ab I H 45 509 Ep [ak,aJ,a4,bx] [ak,aJ,a4,bx,.aK,.aK,.aK] (by ext)
def Ot {n:Nat}:=bu n ab I H 46 516 D3 [ak,aJ,a4,bx] [ak,aJ,a4,bx,.aK,.aK,.aK] (by ext)
def Pn {n:Nat}:=bu n ab I H 47 523 EZ [ak,aJ,a4,bx] [ak,aJ,a4,bx,.aK,.aK] (by ext)
def Pz {n:Nat}:=bu n ab I H 48 530 Fg [ak,aJ,a4,bx,bN] [ak,aJ,a4,bx,bN,.aK,.aK,.aK] (by ext)
def Pt {n:Nat}:=bu n ab I H 49 537 E6 [ak,aJ,a4,bx] [ak,aJ,a4,bx,.aK,.aK] (by ext)
def Ov {n:Nat}:=bu n ab I H 50 544 D5 [ak,aJ,a4] [ak,aJ,a4,.aK,.aK,.aK] (by ext)
def Pj {n:Nat}:=bu n ab I H 51 549 EV [ak,aJ,a4,bx] [ak,aJ,a4,bx,.aK,.aK,.aK,.aK] (by ext)
def Op {n:Nat}:=bu n ab I H 52 563 DZ [ak,aJ,a4,bx,bN,u] [ak,aJ,a4,bx,bN,u] (by ext)
def PD {n:Nat}:=bu n ab I H 53 577 Fk [ak] [ak,.aK,.aK] (by ext)
def PN {n:Nat}:=bu n ab I H 54 584 Fw [ak] [ak,.aK,.aK] (by ext)
def Oy {n:Nat}:=bu n ab I H 55 591 D8 [ak,aJ,a4] [ak,aJ,a4,.aK] (by ext)
def PG {n:Nat}:=bu n ab I H 56 598 Fo [ak,aJ,a4,bx] [ak,aJ,a4,bx,.aK,.aK,.aK,.aK,.aK] (by ext)
def Oz {n:Nat}:=bu n ab I H 57 605 D9 [ak,aJ,a4] [ak,aJ,a4,.aK] (by ext)
def Pu {n:Nat}:=bu n ab I H 58 612 E7 [ak,aJ,a4,bx,bN,u] [ak,aJ,a4,bx,bN,u,.aK,.aK] (by ext)
def Pv {n:Nat}:=bu n ab I H 59 619 E8 [ak,aJ,a4,bx,bN] [ak,aJ,a4,bx,bN,.aK,.aK,.aK,.aK,.aK] (by ext)
def OQ {n:Nat}:=bu n ab I H 60 624 Er [ak,aJ,a4,bx] [ak,aJ,a4,bx,.aK] (by ext)
def OD {n:Nat}:=bu n ab I H 61 629 Ed [ak,aJ,a4,bx] [ak,aJ,a4,bx,.aK] (by ext)
def O0 {n:Nat}:=bu n ab I H 62 636 EC [ak,aJ,a4,bx] [ak,aJ,a4,bx,.aK] (by ext)
def Os {n:Nat}:=bu n ab I H 63 641 D2 [ak,aJ,a4,bx] [ak,aJ,a4,bx,.aK] (by ext)
def Pl {n:Nat}:=bu n ab I H 64 646 EX [ak,aJ,a4,bx] [ak,aJ,a4,bx,.aK] (by ext)
def Ou {n:Nat}:=bu n ab I H 65 651 D4 [ak,aJ,a4,bx] [ak,aJ,a4,bx,.aK] (by ext)
def PI {n:Nat}:=bu n ab I H 66 656 Fq [ak,aJ,a4,bx,bN] [ak,aJ,a4,bx,bN,.aK,.aK,.aK] (by ext)
def Pi {n:Nat}:=bu n ab I H 67 663 EU [ak,aJ,a4,bx,bN] [ak,aJ,a4,bx,bN,.aK] (by ext)
def Ga {n:Nat}:=bu n ab I H 68 668 Fz [ak,aJ,a4] [ak,aJ,a4,.aK,.aK,.aK,.aK,.aK,.aK,.aK,.aK,.aK] (by ext)
def Oq {n:Nat}:=bu n ab I H 69 675 D1 [ak,aJ,a4,bx] [ak,aJ,a4,bx,.aK,.aK,.aK,.aK] (by ext)
def PC {n:Nat}:=bu n ab I H 70 682 Fj [ak,aJ,a4] [ak,aJ,a4] (by ext)
def Oo {n:Nat}:=bu n ab I H 71 701 DY [ak] [ak] (by ext)
def OT {n:Nat}:=bu n ab I H 72 715 Ev [ak,aJ] [ak,aJ] (by ext)
def Pr {n:Nat}:=bu n ab I H 73 722 E4 [ak,aJ,a4] [ak,aJ,a4] (by ext)
def Px {n:Nat}:=bu n ab I H 74 727 Fa [ak,aJ,a4] [ak,aJ,a4] (by ext)
def PL {n:Nat}:=bu n ab I H 75 744 Fu [ak] [ak] (by ext)
def Pf {n:Nat}:=bu n ab I H 76 751 ER [ak] [ak,.aK] (by ext)
def PF {n:Nat}:=bu n ab I H 77 758 Fn [ak] [ak] (by ext)
def OJ {n:Nat}:=bu n ab I H 78 765 Ej [ak,aJ] [ak,aJ,.aK,.aK,.aK,.aK] (by ext)
def OH {n:Nat}:=bu n ab I H 79 772 Eh [ak,aJ] [ak,aJ,.aK,.aK,.aK] (by ext)
def OK {n:Nat}:=bu n ab I H 80 779 Ek [ak,aJ] [ak,aJ] (by ext)
def OG {n:Nat}:=bu n ab I H 81 786 Eg [ak,aJ] [ak,aJ] (by ext)
def OI {n:Nat}:=bu n ab I H 82 793 Ei [ak,aJ] [ak,aJ] (by ext)
def OO {n:Nat}:=bu n ab I H 83 800 Eo [ak,aJ] [ak,aJ,.aK] (by ext)
def OM {n:Nat}:=bu n ab I H 84 807 Em [ak,aJ] [ak,aJ] (by ext)
def OE {n:Nat}:=bu n ab I H 85 814 Ee [ak,aJ] [ak,aJ] (by ext)
def OF {n:Nat}:=bu n ab I H 86 821 Ef [ak,aJ] [ak,aJ] (by ext)
def ON {n:Nat}:=bu n ab I H 87 828 En [ak,aJ] [ak,aJ] (by ext)
def OL {n:Nat}:=bu n ab I H 88 835 El [ak,aJ] [ak,aJ,.aK] (by ext)
def Oa {n:Nat}:=bu n ab I H 89 849 DK [ak,aJ,a4] [ak,aJ,a4] (by ext)
def Od {n:Nat}:=bu n ab I H 90 856 DN [ak] [ak] (by ext)
def N7 {n:Nat}:=bu n ab I H 91 863 DH [ak,aJ] [ak,aJ] (by ext)
def N8 {n:Nat}:=bu n ab I H 92 870 DI [ak,aJ,a4] [ak,aJ,a4,.aK] (by ext)
def Oc {n:Nat}:=bu n ab I H 93 877 DM [ak,aJ] [ak,aJ,.aK] (by ext)
def Oe {n:Nat}:=bu n ab I H 94 884 DO [ak,aJ] [ak,aJ,.aK] (by ext)
def Ob {n:Nat}:=bu n ab I H 95 891 DL [ak,aJ,a4] [ak,aJ,a4] (by ext)
def N9 {n:Nat}:=bu n ab I H 96 898 DJ [ak,aJ,a4] [ak,aJ,a4,.aK] (by ext)
def N0 {n:Nat}:=bu n ab I H 97 941 DC [ak,aJ,a4] [ak,aJ,a4,.int 8] (by ext)
def NV {n:Nat}:=bu n ab I H 98 962 Dx [ak] [ak] (by ext)
def NY {n:Nat}:=bu n ab I H 99 969 DA [ak] [ak] (by ext)
def F6 {n:Nat}:=bu n ab I H 100 976 DD [ak] [ak] (by ext)
def NW {n:Nat}:=bu n ab I H 101 983 Dy [ak,aJ] [ak,aJ] (by ext)
def NX {n:Nat}:=bu n ab I H 102 990 Dz [ak,aJ,a4] [ak,aJ,a4] (by ext)
def NZ {n:Nat}:=bu n ab I H 103 997 DB [ak,aJ] [ak,aJ] (by ext)
def N4 {n:Nat}:=bu n ab I H 104 1025 DE [ak,aJ] [ak,aJ] (by ext)
def NR {n:Nat}:=bu n ab I H 105 1044 Dt [ak] [ak] (by ext)
def NP {n:Nat}:=bu n ab I H 106 1051 Dr [ak,aJ] [ak,aJ] (by ext)
def NO {n:Nat}:=bu n ab I H 107 1058 Dq [ak,aJ] [ak,aJ,.aK] (by ext)
def NQ {n:Nat}:=bu n ab I H 108 1065 Ds [ak,aJ] [ak,aJ,.aK] (by ext)
def NT {n:Nat}:=bu n ab I H 109 1087 Dv [ak,aJ] [ak,aJ] (by ext)
def NU {n:Nat}:=bu n ab I H 110 1094 Dw [ak,aJ] [ak,aJ] (by ext)
def NN {n:Nat}:=bu n ab I H 111 1150 Dp [ak] [ak] (by ext)
def N6 {n:Nat}:=bu n ab I H 112 1171 DG [ak,aJ,a4,bx] [ak,aJ,a4,bx] (by ext)
def N5 {n:Nat}:=bu n ab I H 113 1178 DF [ak] [ak] (by ext)
def NS {n:Nat}:=bu n ab I H 114 1122 Du [ak,aJ] [ak,aJ] (by ext)
def O3 {n:Nat}:=bu n ab I H 115 1330 EE [ak] [ak,.aK] (by ext)
def O5 {n:Nat}:=bu n ab I H 116 1337 EG [ak,aJ] [ak,aJ,.aK,.aK] (by ext)
def O2 {n:Nat}:=bu n ab I H 117 1344 ED [ak,aJ,a4,bx] [ak,aJ,a4,bx,.aK,.aK] (by ext)
def Pa {n:Nat}:=bu n ab I H 118 1349 EM [ak,aJ,a4] [ak,aJ,a4,.aK,.aK,.aK] (by ext)
def O9 {n:Nat}:=bu n ab I H 119 1356 EK [ak,aJ,a4,bx,bN,u] [ak,aJ,a4,bx,bN,u,.aK,.aK,.aK,.aK,.aK,.aK,.aK] (by ext)
def F8 {n:Nat}:=bu n ab I H 120 1363 EL [ak,aJ,a4,bx,bN] [ak,aJ,a4,bx,bN] (by ext)
def Pb {n:Nat}:=bu n ab I H 121 1368 EN [ak,aJ,a4] [ak,aJ,a4,.aK,.aK,.aK,.aK] (by ext)
def O4 {n:Nat}:=bu n ab I H 122 1373 EF [ak,aJ,a4,bx,bN,u] [ak,aJ,a4,bx,bN,u,.aK,.aK,.aK,.aK,.aK,.aK,.aK,.aK] (by ext)
def O8 {n:Nat}:=bu n ab I H 123 1378 EJ [ak,aJ] [ak,aJ,.aK,.aK,.aK,.aK,.aK,.aK,.aK] (by ext)
def O6 {n:Nat}:=bu n ab I H 124 1383 EH [ak,aJ,a4] [ak,aJ,a4,.aK,.aK,.aK,.aK,.aK] (by ext)
def Pc {n:Nat}:=bu n ab I H 125 1397 EO [ak,aJ,a4,bx,bN,u] [ak,aJ,a4,bx,bN,u,.aK,.aK,.aK] (by ext)
def O7 {n:Nat}:=bu n ab I H 126 1409 EI [ak,aJ] [ak,aJ,.aK,.aK,.aK,.aK,.aK,.aK] (by ext)
end
theorem gb (C:e<=100000):e<=1000000:=nf C (by decide)
abbrev tl (k:KK)(P:List V->az->Prop)(R:aI):KK:=HI k<|kI P<|mX k R []
def eC (E:aR->List V)(P:aR->az->Prop)(am:List V)(I:az):Prop:=∃a,am=E a/\P a I
theorem eC.mk {E:aR->List V}{P:aR->az->Prop}(a:aR)(C:P a I):eC E P (E a) I:=(bb a rfl C)
theorem zb (E:Nat->aR->List V)(P:Nat->aR->az->Prop){a:aR}(e:am=E 0 a)(h0:P 0 a I)(an:∀k a I,P k a I->I ae=kZ (.list aa)) (ax:∀k a I u,P k a I->aa[k]?=kZ u->bT ((E k a).set i u) (kI (eC (E<|k+1)<|P<|k+1) dk) I)(he:∀a I,P aa.length a I->dk .next (E aa.length a) I):jR (.list ae) [i] bT dk am I:= zt (λk=>eC (E k)<|P k) (bb a e h0) (λk q I A=>bg A λa q C=>an k a I C) (λk q I u A aQ=>bg A λa e C=>e▸ax k a I u C aQ) λq I A=>bg A λa e C=>e▸he a I C
theorem HQ (E:Nat->aR->List V)(P:Nat->aR->az->Prop)(e:am=E 0 aN)(h0:P 0 aN I) (ax:∀k aN I,P k aN I->k<aD->bT ((E k aN).set i<|.int<|pt+st*k) (kI (eC (E<|k+1)<|P<|k+1) dk) I)(he:∀aN I,P aD aN I->dk .next (E aD aN) I):jR (.ka pt aD st) [i] bT dk am I:= Ip (λk=>eC (E k)<|P k) (bb aN e h0) (λk q I A ap=>bg A λaN e C=>e▸ax k aN I C ap) λq I A=>bg A λaN e C=>e▸he aN I C
def jp (E:aR->List V)(P:aR->Prop)(ar:az)(am:List V)(I:az):Prop:=∃a,am=E a/\P a/\I=ar
theorem jp.mk {E:aR->List V}{P:aR->Prop}(a:aR)(C:P a):jp E P I (E a) I:=(c7 a rfl C rfl)
theorem zc (E:Nat->aR->List V)(P:Nat->aR->Prop){a:aR}(e:am=E 0 a)(h0:P 0 a)(an:I ae=kZ (.list aa)) (ax:∀k a u,P k a->aa[k]?=kZ u->bT ((E k a).set i u) (kI (jp (E<|k+1) (P<|k+1) I) dk) I)(he:∀a,P aa.length a->dk .next (E aa.length a) I):jR (.list ae) [i] bT dk am I:= zt (λk=>jp (E k) (P k) I) (c7 a e h0 rfl) (λk q q A=>eK A λa q q C=>C▸an) (λk q q u A aQ=>eK A λa e C X=>e▸X▸ax k a u C aQ) λq q A=>eK A λa e C X=>e▸X▸he a C
theorem T7 (E:Nat->aR->List V)(P:Nat->aR->Prop)(e:am=E 0 aN)(h0:P 0 aN) (ax:∀k aN,P k aN->k<aD->bT ((E k aN).set i<|.int<|pt+st*k) (kI (jp (E<|k+1) (P<|k+1) I) dk) I)(he:∀aN,P aD aN->dk .next (E aD aN) I):jR (.ka pt aD st) [i] bT dk am I:= Ip (λk=>jp (E k) (P k) I) (c7 aN e h0 rfl) (λk q q A ap=>eK A λaN e C X=>e▸X▸ax k aN C ap) λq q A=>eK A λaN e C X=>e▸X▸he aN C
variable{bq:KK}{U:aI}
theorem HT (E:Nat->aR->List V)(P:Nat->aR->Prop){k:Nat}{a:aR}(e:am=E k a)(h0:P k a) (ax:∀k a,P k a->k9 (A0 bq (λam aS=>∃j,j<k/\jp (E j) (P j) I am aS) U aa) (E k a) [] I):xw bq k9 U aa am I:= (e5 (λk=>jp (E k) (P k) I) k (c7 a e h0 rfl) λk q q A=>eK A λa e C X=>e▸X▸ax k a C)
theorem HR (E:Nat->aR->List V)(P:Nat->aR->az->Prop){a:aR}(e:am=E 0 a)(h0:P 0 a I) (ax:∀k a I,P k a I->k<b->bT ((E k a).set i<|.int (k:Nat)) (kI (eC (E<|k+1)<|P<|k+1) dk) I)(he:∀a I,P b a I->dk .next (E b a) I):jR (.ka 0 b 1) [i] bT dk am I:= HQ E P e h0 (λk a I C ap=>by refine J (by rw[Bt,r2]:(0:Int)+1*(k:Nat)=(k:Nat)) ?_;exact ax k a I C ap) he
theorem HS (E:Nat->aR->List V)(P:Nat->aR->Prop){a:aR}(e:am=E 0 a)(h0:P 0 a) (ax:∀k a,P k a->k<b->bT ((E k a).set i<|.int (k:Nat)) (kI (jp (E<|k+1) (P<|k+1) I) dk) I)(he:∀a,P b a->dk .next (E b a) I):jR (.ka 0 b 1) [i] bT dk am I:= T7 E P e h0 (λk a C ap=>by refine J (by rw[Bt,r2]:(0:Int)+1*(k:Nat)=(k:Nat)) ?_;exact ax k a C ap) he
theorem m6 {m:Nat}(ai:m<=100000)(C:Q 0 m 1):nN [.int (m:Nat)]/\∃a cnt st,mK [.int (m:Nat)] a cnt st/\Q a cnt st:=Yw (dG 658615) (bM 3222519976 ai) C
def FC (N:Nat)(E:Nat->aR->List V)(P:Nat->aR->az->Prop)(k:Nat)(am:List V)(I:az):Prop:=∃l a,k=N -l/\l<=N/\am=E l a/\P l a I
def py (N:Nat)(E:Nat->aR->List V)(P:Nat->aR->az->Prop)(j:Nat)(am:List V)(I:az):Prop:=∃i,i<N -j/\FC N E P i am I
theorem py.mk {E:Nat->aR->List V}{P:Nat->aR->az->Prop}(a:aR)(bi:j<e)(C:P (j+1) a I):py e E P j (E (j+1) a) I:=(⟨_,(Nat.sub_lt_sub_left bi<|BL j),_,a,rfl,bi,rfl,C⟩)
theorem vO (N:Nat)(E:Nat->aR->List V)(P:Nat->aR->az->Prop){a:aR}(e:am=E 0 a)(h0:P 0 a I) (ax:∀j a I,j<=N->P j a I->k9 (A0 bq (py N E P j) U aa) (E j a) [] I):xw bq k9 U aa am I:= (e5 (FC N E P) N (gA (0) a rfl (BK _) e h0) λk q I A=>cq A λj a a8 bi bo C=>by subst a8 bo;exact ax j a I bi C)
theorem o0 (C:u≠.aK)(aP:G):rx u G:=by cases u<;>first|exact aP|exact(C rfl).elim
theorem eW (m:hF ae a l a1 Z I)(hd:fS c.K ae w=true)(aj:dN (a1.length+1) 900=true)(ad:let e:=bF w u a1;∀D,hF ae a l e Z D->cd D): ∃ae l a1,I a=kZ (.inst ae l)/\I l=kZ (.attrs ae a1)/\fS c.K ae w=true/\a1.length<900/\∀D,Upd I D l (.attrs ae<|bF w u a1)->cd D:=(qr ae l a1 m.d3 m.id hd (r6 aj) λD k=>ad D<|m.step k)
theorem gm (m:hF ae a l a1 Z I)(hd:fS c.K ae w=true)(aj:dN (a1.length+1) 900=true)(ad:let e:=bF w u a1;∀D,(∀{b b4},I b=kZ b4->b4≠.attrs ae a1->D b=kZ b4)->hF ae a l e Z D->cd D): ∃ae l a1,I a=kZ (.inst ae l)/\I l=kZ (.attrs ae a1)/\fS c.K ae w=true/\a1.length<900/\∀D,Upd I D l (.attrs ae<|bF w u a1)->cd D:=(qr ae l a1 m.d3 m.id hd (r6 aj) λD k=>ad D (λC n=>k.keep m.id C n)<|m.step k)
theorem hF.as {b:List (Str×V)}(m:hF ae a l b Z I)(e:b=a1):hF ae a l a1 Z I:=e▸m
theorem gd (C:I a=kZ (.list aa))(ad:lH (.list a) I):srcOf (.ref a) lH I:=.inl<|bb aa C ad
theorem dA (aO:aa.length=e)(aA:dN e 1000=true)(ad:∀a D,bp I D->I a=By->D a=kZ (.list aa)->ch a D):aa.length<=gW/\∀a D,ei I D a (.list aa)->ch a D:= ⟨gV<|by refine J aO ?_;exact aA,λa D e=>ad a D e.ext e.1 e.at⟩
theorem fy (aO:aa.length=e)(aA:dN e 1000=true)(ad:∀a D,bp I D->I a=By->D a=kZ (.tup aa)->ch a D):aa.length<=gW/\∀a D,ei I D a (.tup aa)->ch a D:= ⟨gV<|by refine J aO ?_;exact aA,λa D e=>ad a D e.ext e.1 e.at⟩
theorem ll {k:Nat}(C:I a=kZ (.list<|bm xs))(aQ:xs[k]?=kZ pt)(aj:xs.length<=1000000)(ad:ab (.int pt) I):gc (.ref a) (.int k) ab I:=cE C (by refine J ta<|J aQ ?_;rfl) (by refine J eb ?_;exact bM 2617326594 aj) ad
theorem Hv {k:Nat}(C:I a=kZ (.list<|bm xs))(e:pt=k)(aQ:xs[k]?=kZ last)(aj:xs.length<=1000000)(ad:ab (.int last) I):gc (.ref a) (.int pt) ab I:=by subst e;exact ll C aQ aj ad
theorem Ke (C:xs.length<=100000):(bm xs).length<=gW:=by refine J eb<|J wT ?_;exact bM 201427969 C
theorem vZ {m:Int}(e:max pt last=m)(C:ab (.int m) I):ov [.int pt,.int last] ab I:=by subst e;exact C
theorem Tg {n:Nat}(C:xs.length<=1000000:=by lia):(bm xs).length<2^62:=by refine J eb ?_;exact bM 2617326594 C
theorem q9 (C:xs.length<=1000000:=by lia):(bm xs).length<=gW:=by refine J eb<|J wT ?_;exact bM 2617347073 C
theorem x1 (C:I l=kZ (.list aa))(aj:aa.length<=100001)(ad:∀D,Upd I D l (.list<|aa++[u])->ab .none D):qR [.ref l,u] ab I:=(c7 _ C (by refine J wT ?_;exact bM 6872029781396481 aj) ad)
theorem MC (C:I l=kZ (.list<|bm xs))(aj:xs.length<=1000000)(ad:∀D,Upd I D l (.list<|bm<|xs++[pt])->ab .none D):qR [.ref l,.int pt] ab I:= (c7 _ C (q9 aj) λD u=>ad D<|by refine a6 pY ?_;exact u)
theorem aal (C:I l=kZ (.list<|bm xs))(av:I a=kZ (.list<|bm A))(aj:(xs++A).length<=1000000)(ad:∀D,Upd I D l (.list<|bm<|xs++A)->ab .none D):qS [.ref l,.ref a] ab I:= (gA _ _ C av (by refine a6 nb<|J pY ?_;exact q9 aj) λD u=>ad D<|by refine a6 pY ?_;exact u)
theorem FG (C:I l=kZ (.list<|bm xs))(aj:xs.length<=100000)(ad:∀D,Upd I D l (.list<|bm<|xs++[pt])->ab .none D):(V.ref l).ty I=kZ "list"/\qR [.ref l,.int pt] ab I:= (⟨(ty_list C),_,C,(Ke aj),(λD u=>ad D<|by refine a6 pY ?_;exact u)⟩)
theorem kO {p:Prop}[Decidable p](aP:p)(C:G):hj (decide p) G B:=cx (λq=>C) λX=>(X aP).elim
theorem cr {p:Prop}[Decidable p](aP:¬ p)(C:B):hj (decide p) G B:=cx (λX=>(aP X).elim) λq=>C
theorem up {k:Nat}(C:I l=kZ (.list<|bm xs))(aj:xs.length<=1000000)(ad:∀a D,bp I D->I a=By->D a=kZ (.list<|bm<|xs.take k)->ch a D):∃aa,I l=kZ (.list aa)/\aa.length<=gW/\∀a D,ei I D a (.list<|cut By (kZ (k:Int)) aa)->ch a D:= tS C (q9 aj) λa D n=>ad a D n.ext n.1<|J n.at<|J u0<|J yX rfl
theorem tR {k:Nat}(C:I l=kZ (.list<|bm xs))(aj:xs.length<=1000000)(ad:∀a D,bp I D->I a=By->D a=kZ (.list<|bm<|xs.drop k)->ch a D):∃aa,I l=kZ (.list aa)/\aa.length<=gW/\∀a D,ei I D a (.list<|cut (kZ (k:Int)) By aa)->ch a D:= tS C (q9 aj) λa D n=>ad a D n.ext n.1<|J n.at<|J ys<|J yW rfl
theorem fZ {k:Nat}(C:aw.length<=e):(aw.take k).length<=e:=by refine J qC ?_;exact nf (BV ..) C
theorem ZQ (C:e<=b):(aw.take e).length<=b:=by refine J qC ?_;exact nf (abi ..) C
theorem fl (C:aw.length<=b):(aw.drop e).length<=b:=by refine J BU ?_;exact nf (BW ..) C
variable{bw:List aR}
theorem pA {n:Nat}(C:aw.length<=e)(av:bw.length<=n):(aw++bw).length<=e+n:=by refine J nb ?_;exact abj C av
theorem lz (C:e<=b):(dr e aN).length<=b:=by refine J hA ?_;exact C
theorem pc (C:e<=i):e -b<=i:=nf (BW ..) C
theorem hu {bw:List Int}(C:I l=kZ (.list<|bm xs))(av:I ae=kZ (.list<|bm bw))(aE:xs.length<=e)(aA:bw.length<=b)(aj:dN (e+b) 1000000=true)(ad:∀e D,bp I D->I e=By->D e=kZ (.list<|bm<|xs++bw)->ab (.ref e) D):eV (.ref l) (.ref ae) ab I:= qd C av (by refine J eb<|J eb<|J wT ?_;have:=r6 aj;lia) λe D n=>ad e D n.ext n.1<|J n.at<|J pY rfl
theorem zV (C:I l=kZ (.list [.int 32]))(ai: -100000<=pt)(ao:pt<=100000)(ad:∀a D,bp I D->I a=By->D a=kZ (.list<|bm<|dr pt.toNat 32)->ab (.ref a) D):m1 (.ref l) (.int pt) ab I:= rt C (c4 3413142711 ai) (c4 201813000 ao) (by simp;exact c4 201821191 ao) λa D n=>ad a D n.ext n.1<|J n.at<|J Kl<|J Hw rfl
theorem zW (C:I a=kZ (.list [.int 32]))(an:e<=100000)(hf:b<=100000)(ad:∀a D,bp I D->I a=By->D a=kZ (.list<|bm<|dr (e -b) 32)->ab (.ref a) D):m1 (.ref a) (.int<|(e:Int) -b) ab I:= zV C (bC 212281454038199 hf) (bC 13198637533847 an) (by refine J (by exact bS 14097088401957123 rfl rfl:((e:Int) -b).toNat=e -b) ?_;exact ad)
theorem I0 (C:I a=kZ (.list [.int 32]))(an:e<=100000)(ad:∀a D,bp I D->I a=By->D a=kZ (.list<|bm<|dr (e -b) 32)->ab (.ref a) D):m1 (.ref a) (.int<|max 0<|(e:Int) -(b:Nat)) ab I:= zV C (gF 7330027476618423 rfl) (gF 30023792544417123335 an rfl) (by refine J (by exact H2 17167717345209746542851 rfl rfl rfl:(max 0<|(e:Int) -(b:Nat)).toNat=e -b) ?_;exact ad)
theorem WB (C:I a=kZ (.list [.int 32]))(an:e<=50000)(ad:∀a D,bp I D->I a=By->D a=kZ (.list<|bm<|dr e 32)->ab (.ref a) D):m1 (.ref a) (.int (e:Nat)) ab I:=zV C (dG 658615) (bM 54975726881915047 an) ad
theorem gz (C:e<=100000):e<2^62:=il C (by decide)
theorem tD (C:0<e):(e:Int) -1=(e -1:Nat):=bC 58569949889497753 C rfl
theorem yV {k:Nat}(C:I a=kZ (.list aa))(e:pt=k)(aQ:aa[k]?=kZ u)(aj:aa.length<2^62)(ad:ab u I):gc (.ref a) (.int pt) ab I:=by subst e;exact cE C aQ aj ad
theorem fx {m:Nat}(C:I l=kZ (.list [.int pt]))(e:last=m)(hm:m<=1000000)(ad:∀a D,bp I D->I a=By->D a=kZ (.list<|bm<|dr m pt)->ab (.ref a) D):m1 (.ref l) (.int last) ab I:= rt C (dZ 2693819575 e) (dZ 171528277289992 e hm) (by refine J e ?_;refine(?_:1*m<=16777216);exact bM 2744487323374305 hm) λa D n=>ad a D n.ext n.1<|J n.at<|J Kl<|J e<|J (w1 _)<|J Hw rfl
theorem Jb (aQ:u.plain)(C:ab (.bool u.isNone) I):tv u .none ab I:=by refine J WP ?_;exact Ag aQ C
theorem z4 (aQ:u.plain)(C:ab (.bool (!u.isNone)) I):o1 u .none ab I:=by refine J WO ?_;exact Ag aQ C
theorem uR {b:Bool}(C:b=true->G)(av:b=false->B):hj b G B:=Qm C av
theorem Nd (C:G):hj true G B:=C
theorem kN {n:Int}(C:G):dE (.int n) G:=C
theorem XA (C:G):dE (.bool cD) G:=C
theorem ed (C:I l=kZ (.list<|bm xs))(aj:xs.length<=1000000)(ad:ab (.int (xs.length:Nat)) I):ou [.ref l] ab I:=li C (Tg (n:=0) aj) (by refine J eb ?_;exact ad)
theorem gJ {m:Int}(e:pt -last=m)(C:ab (.int m) I):nV (.int pt) (.int last) ab I:=by subst e;exact C
theorem jq {m:Int}(e:pt+last=m)(C:ab (.int m) I):eV (.int pt) (.int last) ab I:=by subst e;exact C
theorem VY (e:min pt last=cnt)(C:ab (.int cnt) I):nF [.int pt,.int last] ab I:=by subst e;exact C
theorem mM:pt+1 -1=pt:=sa ..
theorem qa (C:e<=b):(e:Int)+1<=(b+1:Nat):=qD.mpr<|t4 C
theorem oU (C:e<=b):(e:Int)+1<=(b:Int)+1:=qD.mpr<|t4 C
theorem one_le:(1:Int)<=(e:Int)+1:=qD.mpr<|t4<|BK e
theorem Kx (C:I l=kZ (.list<|bm xs))(aj:xs.length<=1000000)(ad:∀a D,bp I D->I a=By->D a=kZ (.list<|bm xs.reverse)->ch a D):∃aa,I l=kZ (.list aa)/\aa.length<=gW/\∀a D,ei I D a (.list aa.reverse)->ch a D:= (c7 _ C (q9 aj) λa D n=>ad a D n.ext n.1<|J n.at<|J Tf rfl)
theorem MA:(e:Int)+1+b=((e+b:Nat):Int)+1:=lp 58837788229937289
theorem ZI (C:i<=b):(e:Int)+1+b -i=((e+b -i:Nat):Int)+1:=bS 10222927350232429125937301657 C rfl
theorem wy (C:b<=e):(e:Int) -b=(e -b:Nat):=(e6 C).symm
theorem I1 (C:i<=e -b)(hf:b<=e):b+(e -b -i)=e -i:=ff 101942930308026539495788675 C hf rfl rfl rfl
theorem p5 (C:i<=e -b)(hf:b<=e):b<=e -i:=dH 4851011577684562177 C hf rfl rfl
theorem zL (C:i<=e -b):i<=e:=nf C<|BW ..
theorem T6 (E:Nat->aR->List V)(P:Nat->aR->az->Prop){a:aR}(e:am=E b a)(h0:P b a I) (ax:∀k a I,P (k+1) a I->k<b->bT ((E (k+1) a).set i<|.int (k:Nat)) (kI (eC (E k)<|P k) dk) I)(he:∀a I,P 0 a I->dk .next (E 0 a) I):jR (.ka ((b:Int) -1) b (-1)) [i] bT dk am I:= HQ (λj=>E<|b -j) (λj=>P<|b -j) e h0 (λj a I C bi=>by
  obtain⟨k,e⟩:∃k,b -j=k+1:=⟨b -j -1,(kf<|LJ bi).symm⟩;have aW:b -(j+1)=k:=by refine J (w6 _ _ _)<|J e ?_;rfl
  refine J (by rw[w3];exact bS 76550710185460797319561 e rfl:(b:Int) -1+ -1*(j:Nat)=(k:Nat))<|J aW ?_;rw[e] at C⊢;exact ax k a I C<|by refine a6 aW ?_;exact Nat.sub_lt (il (BK j) bi)<|Lu j) λa I C=>by rw[abk] at C⊢;exact he a I C
theorem Yy (ai:e<=100000)(C:Q ((e:Int) -1) e (-1)):nN [.int<|(e:Int) -1,.int (-1),.int (-1)]/\∃a cnt st,mK [.int<|(e:Int) -1,.int (-1),.int (-1)] a cnt st/\Q a cnt st:= Yx (dG 3500739767) (bM 824965925528 ai) (j5 14355639) (j5 249272) (by refine J (by exact bC 241693539492099 rfl:((e:Int) -1 - -1).toNat=e) ?_;exact C)
theorem wF {k:Nat}(C:I l=kZ (.list aa))(aj:aa.length<=100000)(ad:∀a D,bp I D->I a=By->D a=kZ (.list<|aa.take k)->ch a D):∃aa,I l=kZ (.list aa)/\aa.length<=gW/\∀a D,ei I D a (.list<|cut By (kZ (k:Int)) aa)->ch a D:= tS C (by refine J wT ?_;exact nf aj<|by decide) λa D n=>ad a D n.ext n.1<|J n.at<|J u0 rfl
theorem wD {k:Nat}(C:I l=kZ (.list aa))(aj:aa.length<=100000)(ad:∀a D,bp I D->I a=By->D a=kZ (.list<|aa.drop k)->ch a D):∃aa,I l=kZ (.list aa)/\aa.length<=gW/\∀a D,ei I D a (.list<|cut (kZ (k:Int)) By aa)->ch a D:= tS C (by refine J wT ?_;exact nf aj<|by decide) λa D n=>ad a D n.ext n.1<|J n.at<|J ys rfl
theorem Vd (P:List V->az->Prop)(aj:e<=100000)(h0:P [] I) (ax:∀ag I,P ag I->ag.length<e->ck (.int (ag.length:Nat)::e7) (λw Z=>P (ag++[w]) Z) I)(he:∀ag I,P ag I->ag.length=e->fj ag I):km (.ka 0 e 1) ck e7 fj I:= zq P (by refine J wT ?_;exact nf aj<|by decide) h0 (λag I C an=>by refine J (by rw[Bt,r2]:(0:Int)+1*(ag.length:Nat)=(ag.length:Nat)) ?_;exact ax ag I C an) he
theorem qe (C:G):dE (.ref a) G:=C
theorem XB (C:G):dE .none G:=C
theorem WW (C:ab (.bool false) I):o1 (.ref a) (.ref a) ab I:=⟨rfl,C⟩
theorem Qx (e:cD=true)(C:G):hj cD G B:=by subst e;exact C
theorem Ja:min (e:Int) b=(min e b:Nat):=by rcases dR e b with C|C;(· exact J (ke C)<|J (nk<|qD.mpr C) rfl);(· exact J (mx C)<|J (xe<|qD.mpr C) rfl)
theorem I9:max (e:Int) b=(max e b:Nat):=by rcases dR e b with C|C;(· exact J (pl C)<|J (LU<|qD.mpr C) rfl);(· exact J (abA C)<|J (LZ<|qD.mpr C) rfl)
def lQ (x:Int):Prop:=32<=x/\x<127
theorem lQ.zI (C:lQ pt):pt≠9:=by have:=C.1;exact c4 946781347871 this
theorem Jn:lQ 32:=⟨by decide,by decide⟩
def bU (xs:List Int):Prop:=∀x∈xs,lQ x
theorem bU.get (C:bU xs)(e:xs[b]?=kZ pt):lQ pt:=C pt<|jI e
theorem oK (e:(bm xs)[b]?=kZ u):∃x,xs[b]?=kZ x/\u=.int x:=by rw[ta] at e;refine bg (ud.mp e) λx C O=>?_;refine a6 O ?_;exact bb x C rfl
theorem aaf (H:a2 c)(C:lQ pt)(ad:ab (.int 1) I):be c 1 (.ref 425) [.int pt,.int last,.int 8] ab I:= PP (n:=0) H<|cr (by have:=C.1;exact c4 946781347871 this)<|cr (by have:=C.1;exact c4 231201802 this)<|cr (by have:=C.2;exact c4 2235171981025311 this)<|(cr (by have:=C.2;exact c4 139698241007850 this)<|ad)
theorem uV (H:a2 c)(C:lQ pt)(ad:ab (.int<|last+1) I):be c 2 (.ref 439) [.int last,.int pt,.int 8] ab I:= Ox (n:=1) H<|ci (H.f 33)<|aaf H C ad
variable{aC:List Int}
theorem Gp (H:a2 c)(aB:I ae=kZ (.list<|bm aC))(aP:bU aC)(ap:e<=aC.length)(aj:aC.length<=100000) (ad:∀Z,bp I Z->ab (.int e) Z):be c 3 (.ref 446) [.ref ae,.int e,.int 8] ab I:=by
 refine Ow (n:=2) H<|up aB (gb aj) λa au U q aI=>gd aI ?_;let E:Nat->V->List V:=λj u=>[.ref ae,.int e,.int 8,u,.int j];refine zc E (λq q=>True) rfl trivial aI (λj a u q aQ=>?_) λa q=>?_
 ·refine bg (oK aQ) λx Q O=>?_;refine J O ?_;exact ci (H.f 35)<|uV H (aP x<|BX<|jI Q)<|jp.mk (E:=E<|j+1) (.int x) trivial
 ·refine(?_:ab (.int ((bm<|aC.take e).length:Nat)) au);refine J eb<|J qC<|J (ke ap) ?_;exact ad _ U
theorem o9 (H:a2 c)(aB:I a=kZ (.list<|bm aC))(aP:bU aC)(aj:aC.length<=100000) (ad:∀Z,bp I Z->ab (.int aC.length) Z):be c 4 (.ref 453) [.ref a,.int 8] ab I:= PB (n:=3) H ⟨(H.f 36),ed aB (gb aj)<|ca<|Gp H aB aP (nu _) aj ad⟩
theorem Jo (H:a2 c)(aB:I a=kZ (.list<|bm aC))(aP:bU aC)(aj:aC.length<=100000) (ad:ab (.int (min aD aC.length:Nat)) I):be c 3 (.ref 460) [.ref a,.int aD,.int 8] ab I:=by
 refine Pp (n:=2) H<|ed aB (gb aj)<|m6 aj ?_;let E:Nat->V->List V:=λj u=>[.ref a,.int aD,.int 8,.int j,u];refine HS E (λj q=>j<=aD) rfl (BK _) (λj u bi aG=>?_) λu bi=>?_
 ·refine cx (λC=>?_) λC=>?_
  ·rw[ke<|nf (qD.mp C)<|rW aG,<-t9 bi (qD.mp C)] at ad;exact ad
  ·have Q:aC[j]?=kZ aC[j]:=Lw aG;exact⟨(H.f 35),ll aB Q (gb aj)<|ca<|uV H (aP.get Q)<|jp.mk (E:=E<|j+1) (.int j)<|qG.mp<|LK.mp C⟩
 ·rw[mx bi] at ad;exact ed aB (gb aj) ad
theorem Xh (H:a2 c)(aB:I a=kZ (.list<|bm aC))(aP:bU aC)(aj:aC.length<=100000)
 (ad:ab (.ref a) I):be c 4 (.ref 467) [.ref a,.int aD,.int 8] ab I:=by
 refine Pm (n:=3) H<|ci (H.f 38)<|Jo H aB aP aj<|cx (λq=>ad) λC=>?_
 have hm:=BV aD aC.length
 cases e:min aD aC.length with
 |zero=>rw[e] at C;exact(C rfl).elim
 |succ j=>rw[e] at hm;have Q:aC[j]?=kZ aC[j]:=Lw hm;exact Hv aB (k:=j) (sa (j:Int) 1) Q (gb aj)<|mn (λq=>ad) λe=>((aP.get Q).zI e).elim
noncomputable def pad (aC:List Int)(aD:Nat):List Int:=aC++dr (aD -aC.length) 32
theorem Ji (H:a2 c)(aB:I ae=kZ (.list<|bm aC))(aP:bU aC)(aj:aC.length<=100000)(N:aD<=100000) (ad:lR ab I (pad aC aD)):be c 5 (.ref 474) [.ref ae,.int aD,.int 8] ab I:=by refine Po (n:=4) H<|dA rfl rfl λa au U s aI=>ci (H.f 37)<|o9 H (U _ _ aB) aP aj λaS aR=>dC<|tm<|I0 (aR _ _ aI) N λb aM bj a9 bn=>?_;have x:=(U.trans aR).trans bj;exact hu (x _ _ aB) bn aj (lz<|pc N) rfl λd ay bf bq a3=>ad _ _ (x.trans bf) (x.none bq) a3
theorem o5 (C:bU aC):bU (pad aC aD):=λx Q=>by
 rcases bc.mp Q with Q|Q
 ·exact C x Q
 ·refine J (kg.mp Q).2 ?_;exact Jn
theorem Ac:(pad aC aD).length=max aC.length aD:=by unfold pad;exact J nb<|J hA<|J (w7 _ _)<|a6 (Nat.sub_add_eq_max _ _)<|J (jg _ _) rfl
theorem o4 (C:aC.length<=100000)(av:aD<=100000):(pad aC aD).length<=100000:=by refine J Ac ?_;exact abl.mpr ⟨C,av⟩
theorem ox (H:a2 c)(aB:I ae=kZ (.list<|bm aC))(aP:bU aC)(aj:aC.length<=100000) (ad:∀t a b Z,bp I Z->I t=By->I a=By->I b=By->Z t=kZ (.tup [.ref a,.ref b])->Z a=kZ (.list<|bm<|aC.take aD)->Z b=kZ (.list<|bm<|aC.drop aD)->ab (.ref t) Z): be c 5 (.ref 481) [.ref ae,.int aD,.int 8] ab I:=by
 refine OA (n:=4) H<|ci (H.f 39)<|Xh H aB aP aj<|ci (H.f 38)<|Jo H aB aP aj ?_;have e:aC.take (min aD aC.length)=aC.take aD/\aC.drop (min aD aC.length)=aC.drop aD:=by
  rcases dR aD aC.length with C|C
  ·refine J (ke C) ?_;exact⟨rfl,rfl⟩
  ·refine J (mx C)<|J (pj<|nu _)<|J (pj C)<|J (jf<|nu _)<|J (jf C) ?_;exact⟨rfl,rfl⟩
 refine up aB (gb aj) λa au U s aI=>tR (U _ _ aB) (gb aj) λb aS aR aT bd=>fy rfl rfl λt aM bj a9 bn=>?_;rw[e.1] at aI;rw[e.2] at bd;have x:=U.trans aR;exact ad _ _ _ _ (x.trans bj) (x.none a9) s (U.none aT) bn (bj _ _<|aR _ _ aI)<|bj _ _ bd
theorem bU.take (C:bU xs)(k:Nat):bU (xs.take k):=λx Q=>C x<|BX Q
theorem bU.drop (C:bU xs)(k:Nat):bU (xs.drop k):=λx Q=>C x<|od Q
theorem bU.append (C:bU xs)(av:bU A):bU (xs++A):=λx Q=>(bc.mp Q).elim (C x)<|av x
theorem bU.Zp:bU (dr e 32):=λx Q=>by refine J (kg.mp Q).2 ?_;exact Jn
theorem bU.nil:bU []:=λx Q=>by cases Q
theorem uZ (H:a2 c)(aB:I ae=kZ (.list<|bm aC))(aP:bU aC)(aj:aC.length<=100000)(g:e<=aD) (ad:∀t a i b Z,bp I Z->I t=By->I a=By->I i=By->I b=By->Z t=kZ (.tup [.ref a,.ref i,.ref b])->Z a=kZ (.list<|bm<|aC.take e)->Z i=kZ (.list<|bm<|(aC.take aD).drop e)->Z b=kZ (.list<|bm<|aC.drop aD)->ab (.ref t) Z): be c 6 (.ref 488) [.ref ae,.int e,.int aD,.int 8] ab I:=by refine OB (n:=5) H<|ci (H.f 41)<|ox H aB aP aj λt a b au U L na aZ bu aE aA=>eY bu rfl<|bJ ?_;intro v;refine ci (H.f 41)<|ox H aE (aP.take _) (fZ aj) λF aI y aS aR av aq ar ao ai a8=>eY ao rfl<|fy rfl rfl λl aM bj a9 bn=>?_;have x:=aR.trans bj;replace ai:=(ke g)▸abm▸ai;exact ad _ _ _ _ _ (U.trans x) (U.none<|aR.none a9) (U.none aq) (U.none ar) aZ bn (bj _ _ ai) (bj _ _ a8)<|x _ _ aA
theorem Zu (H:a2 c)(aB:I ae=kZ (.list<|bm aC))(aP:bU aC)(aj:aC.length<=100000) (ad:lR ab I aC):be c 3 (.ref 495) [.ref ae,.int pt,.int 8] ab I:=by
 refine PH (n:=2) H<|dA rfl rfl λa au U s aI=>gd (U _ _ aB) ?_;let E:Nat->V×V×Int->List V:=λq p=>[.ref ae,.int pt,.int 8,p.1,p.2.1,.ref a,.int p.2.2];let P:Nat->V×V×Int->az->Prop:=λj q Z=>bp I Z/\Z a=kZ (.list<|bm<|aC.take j);refine zb E P (a:=(.aK,.aK,pt)) rfl ⟨U,aI⟩ (λj q Z C=>C.1 _ _ aB) (λj p aS u C aQ=>?_) λp aS C=>?_
 ·refine bg (oK aQ) λx Q O=>?_;refine J O ?_;exact ci (H.f 35)<|uV H (aP.get Q)<|cr (aP.get Q).zI<|FG C.2 (fZ aj) λaM i=>eC.mk (E:=E<|j+1) (P:=P<|j+1) (.int<|p.2.2+1,.int x,p.2.2+1) ⟨i.ext C.1 s,by refine J i.at<|J jH<|J Q ?_;rfl⟩
 ·have bd:=C.2;replace bd:=oe▸eb▸bd;exact ad _ _ C.1 s bd
noncomputable def l1 (aC:List Int)(f l:Nat):List Int:=(aC.take l).drop f++dr (l -f -((aC.take l).drop f).length) 32
theorem Rs (H:a2 c)(aB:I ae=kZ (.list<|bm aC))(aP:bU aC)(aj:aC.length<=100000)(g:e<=aD)(an:aD<=100000) (ad:lR ab I (l1 aC e aD)):be c 7 (.ref 502) [.ref ae,.int e,.int aD,.int 8] ab I:=by
 refine OR (n:=6) H<|ci (H.f 42)<|uZ H aB aP aj g λt a i b au U L na rt aZ bu aE aL aA=>eY bu rfl<|bJ ?_;intro v;refine ci (H.f 37)<|o9 H aE (aP.take _) (fZ aj) λaS aR=>vZ (m:=e) (LZ<|qD.mpr<|ZQ<|nu _) ?_;have p:=aR _ _ aL;let E:Nat->V->List V:=λj w=>[.ref ae,.int e,.int aD,.int 8,.ref a,w,.int (e+j:Nat),.ref i,.ref b,.int e];refine gd p<|zc E (λq q=>True) rfl trivial p (λj w u q aQ=>?_) λw q=>?_
 ·refine bg (oK aQ) λx Q O=>?_;refine J O ?_;exact ci (H.f 35)<|uV H (((aP.take _).drop _).get Q)<|jp.mk (E:=E<|j+1) (.int x) trivial
 ·refine dA rfl rfl λk aM bj a9 bn=>dC<|zW bn (nf g an) (nf g an) λo ay bf bq a3=>ci (H.f 43)<|Zu H (bf _ _<|bj _ _ p) ((aP.take _).drop _) (fl<|fZ aj) λd bh bD d5 hd=>?_;refine hu (bD _ _ a3) hd (lz<|pc<|nf g an) (fl<|fZ aj) rfl λr bv bL h az=>dA rfl rfl λl bO bw aI B=>dC<|tm<|I0 B an λy bz aN aV bk=>?_;have x:=((((((U.trans aR).trans bj).trans bf).trans bD).trans bL).trans bw).trans aN;refine hu (aN _ _<|bw _ _ az) bk (pA (lz<|pc<|nf g an)<|fl<|fZ aj) (lz<|pc an) rfl λz aO s S aU=>ad _ _ (x.trans s) (x.none S) ?_;replace aU:=(g7<|Nat.sub_sub _ _ _)▸eb▸(abk _)▸aU;exact aU
theorem Q6 (H:a2 c)(aB:I ae=kZ (.list<|bm aC))(aP:bU aC)(aj:aC.length<=100000)(g:e<=aD)(an:aD<=100000) (ad:pu ab I ae (aC.take e++aC.drop aD)):be c 7 (.ref 509) [.ref ae,.int e,.int aD,.int 8] ab I:=by
 refine OP (n:=6) H<|ci (H.f 37)<|o9 H aB aP aj λau U=>cx (λC=>?_) λq=>ci (H.f 42)<|uZ H (U _ _ aB) aP aj g λt a i b aS aR L na rt aZ bu aE aL aA=>eY bu rfl ?_
 ·exact ad _ _ U (.inl rfl)<|J (U _ _ aB)<|J (pj<|qD.mp C)<|J (jf<|nf (qD.mp C) g)<|J (Bs _) rfl
 ·have x:=U.trans aR;exact hu aE aA (fZ aj) (fl aj) rfl λd aM bj a9 bn=>ad _ _ (x.trans bj) (.inr<|x.none a9) bn
noncomputable def gR (aC:List Int)(f l:Nat):List Int:=aC.take f++(if l<aC.length then dr (l -f) 32++aC.drop l else[])
theorem Qb (H:a2 c)(aB:I ae=kZ (.list<|bm aC))(aP:bU aC)(aj:aC.length<=100000)(g:aD<=j)(an:j<=100000) (ad:pu ab I ae (gR aC aD j)):be c 7 (.ref 516) [.ref ae,.int aD,.int j,.int 8] ab I:=by
 refine Ot (n:=6) H<|ci (H.f 37)<|o9 H aB aP aj λau U=>cx (λC=>?_) λq=>ci (H.f 42)<|uZ H (U _ _ aB) aP aj g λt a i b aS aR L na rt aZ bu aE aL aA=>eY bu rfl<|bJ ?_
 ·refine ad _ _ U (.inl rfl) ?_;unfold gR;exact J (U _ _ aB)<|J (pj<|qD.mp C)<|J (if_neg<|ep.mpr<|nf (qD.mp C) g)<|J (Bs _) rfl
 intro v;have x:=U.trans aR;unfold gR at ad;refine ed aA (gb<|fl aj)<|cx (λav=>?_) λav=>?_
 ·replace av:=BU▸av;replace ad:=(if_pos<|abn<|qG.mp av)▸ad;refine dA rfl rfl λk aM bj a9 bn=>dC<|zW bn an (nf g an) λo ay bf bq a3=>?_;have O:=bj.trans bf;refine hu a3 (O _ _ aA) (lz<|pc an) (fl aj) rfl λr bh bD y bE=>?_;have O:=O.trans bD;exact hu (O _ _ aE) bE (fZ aj) (pA (lz<|pc an)<|fl aj) rfl λl bv bL h az=>ad _ _ ((x.trans O).trans bL) (.inr<|(x.trans O).none h) az
 ·replace av:=BU▸av;replace ad:=(if_neg λe=>av<|qG.mpr<|LJ e)▸ad;exact dA rfl rfl λk aM bj a9 bn=>hu (bw:=[]) (bj _ _ aE) bn (fZ aj) (BK 0) rfl λl bv bL h az=>ad _ _ ((x.trans bj).trans bL) (.inr<|(x.trans bj).none h) az
noncomputable def ht (aC:List Int)(f l:Nat):List Int:=if aC.length<=f then aC else aC.take f++dr (l -f) 32++aC.drop f
theorem Xi (H:a2 c)(aB:I ae=kZ (.list<|bm aC))(aP:bU aC)(aj:aC.length<=100000)(g:i<=aD)(an:aD<=100000) (ad:pu ab I ae (ht aC i aD)):be c 7 (.ref 523) [.ref ae,.int i,.int aD,.int 8] ab I:=by
 refine Pn (n:=6) H<|ci (H.f 37)<|o9 H aB aP aj λau U=>cx (λC=>?_) λC=>ci (H.f 41)<|ox H (U _ _ aB) aP aj λt a b aS aR L na aZ bu aE aA=>eY bu rfl ?_
 ·refine ad _ _ U (.inl rfl) ?_;unfold ht;exact J (U _ _ aB)<|J (if_pos<|qD.mp C) rfl
 have x:=U.trans aR;unfold ht at ad;replace ad:=(if_neg λe=>C<|qD.mpr e)▸ad;refine dA rfl rfl λk aM bj a9 bn=>dC<|zW bn an (nf g an) λo ay bf bq a3=>?_;have O:=bj.trans bf;refine hu (O _ _ aE) a3 (fZ aj) (lz<|pc an) rfl λr bh bD y bE=>?_;have O:=O.trans bD;exact hu bE (O _ _ aA) (pA (fZ aj)<|lz<|pc an) (fl aj) rfl λl bv bL h az=>ad _ _ ((x.trans O).trans bL) (.inr<|(x.trans O).none h) az
def qk (aC:List Int)(f l:Nat)(a:List Int):List Int:=(pad aC f).take f++a++(pad aC f).drop l
theorem Yq (H:a2 c)(aB:I ae=kZ (.list<|bm aC))(ap:I cl=kZ (.list<|bm A))(aP:bU aC)(aj:aC.length<=100000)(g:e<=aD)(an:aD<=100000)(j:A.length<=100000) (ad:lR ab I (qk aC e aD A)):be c 7 (.ref 530) [.ref ae,.int e,.int aD,.ref cl,.int 8] ab I:=by refine Pz (n:=6) H ⟨(H.f 42),ci (H.f 40)<|Ji H aB aP aj (nf g an) λd au U d5 hd=>ca<|uZ H hd (o5 aP) (o4 aj<|nf g an) g λt a i b aS aR L na rt aZ bu aE aL aA=>eY bu rfl ?_⟩;have x:=U.trans aR;refine hu aE (x _ _ ap) (fZ<|o4 aj<|nf g an) j rfl λk aM bj a9 bn=>?_;have x:=x.trans bj;exact hu bn (bj _ _ aA) (pA (fZ<|o4 aj<|nf g an) j) (fl<|o4 aj<|nf g an) rfl λo ay bf bq a3=>ad _ _ (x.trans bf) (x.none bq) a3
def jD (aC:List Int)(aD:Nat)(a:List Int):List Int:=(pad aC aD).take aD++a++(pad aC aD).drop aD
theorem Jw (H:a2 c)(aB:I ae=kZ (.list<|bm aC))(ap:I l=kZ (.list<|bm A))(aP:bU aC)(aj:aC.length<=100000)(an:aD<=100000)(j:A.length<=100000) (ad:lR ab I (jD aC aD A)):be c 7 (.ref 537) [.ref ae,.int aD,.ref l,.int 8] ab I:=by refine Pt (n:=6) H ⟨(H.f 41),ci (H.f 40)<|Ji H aB aP aj an λd au U d5 hd=>ca<|ox H hd (o5 aP) (o4 aj an) λt a b aS aR L na aZ bu aE aA=>eY bu rfl ?_⟩;have x:=U.trans aR;refine hu aE (x _ _ ap) (fZ<|o4 aj an) j rfl λk aM bj a9 bn=>?_;have x:=x.trans bj;exact hu bn (bj _ _ aA) (pA (fZ<|o4 aj an) j) (fl<|o4 aj an) rfl λo ay bf bq a3=>ad _ _ (x.trans bf) (x.none bq) a3
theorem dropWhile_at:∀{xs:List Int} {j:Nat},(∀x∈xs.take j,x=32)->(∀x,xs[j]?=kZ x->x≠32)->xs.drop j=xs.dropWhile (· ==32):=by
 intro h;induction h with
 |nil=>intro j l d;simp
 |cons x xs D=>
  intro f;cases f with
  |zero=>intro s C;have:=C x rfl;exact J kW<|J (List.dropWhile_cons_of_neg<|by simpa using this) rfl
  |succ j=>intro C av;have e:x=32:=C x (by simp);exact J List.drop_succ_cons<|J (List.dropWhile_cons_of_pos<|by simpa using e)<|D (λy G=>C y<|by simp[G]) λy G=>av y (by simpa using G)
noncomputable def cls (aC:List Int)(f:Nat):List Int:=if aC.length<=f then aC else aC.take f++(aC.drop f).dropWhile (· ==32)
theorem Qe {ab:V->az->Prop}{c:cz}{I:az}(H:a2 c){r:Addr}{aC:List Int}{f:Nat}(aB:I r=kZ (.list<|bm aC))(aP:bU aC)(aj:aC.length<=100000) (ad:pu ab I r (cls aC f)):be c 7 (.ref 544) [.ref r,.int f,.int 8] ab I:=by
 refine Ov (n:=6) H<|ci (H.f 37)<|o9 H aB aP aj λau U=>cx (λC=>?_) λC=>ci (H.f 41)<|ox H (U _ _ aB) aP aj λt a b aS aR L na aZ bu aE aA=>eY bu rfl ?_
 ·refine ad _ _ U (.inl rfl) ?_;unfold cls;exact J (U _ _ aB)<|J (if_pos<|qD.mp C) rfl
 have x:=U.trans aR;unfold cls at ad;replace ad:=(if_neg λe=>C<|qD.mpr e)▸ad;let E:Nat->Unit->List V:=λj q=>[.ref r,.int f,.int 8,.ref a,.int (j:Nat),.ref b];refine vO (aC.drop f).length E (λj q Z=>Z=aS/\∀y∈(aC.drop f).take j,y=32) (a:=()) rfl ⟨rfl,λy G=>by replace G:=w8▸G;cases G⟩ λj q Z bi m=>?_;obtain⟨rfl,m⟩:=m;have out:(∀y,(aC.drop f)[j]?=kZ y->y≠32)->CE (dI c 6 ab) (E j ()) [] Z:=λaX=>by replace ad:=(g7<|dropWhile_at m aX)▸ad;exact tR aA (gb<|fl aj) λd aM bj a9 bn=>hu (bj _ _ aE) bn (fZ aj) (fl<|fl aj) rfl λe ay bf bq a3=>ad _ _ ((x.trans bj).trans bf) (.inr<|(x.trans bj).none bq) a3
 refine ed aA (gb<|fl aj)<|cx (λaG=>?_) λag=>out λy G=>?_
 ·have g:=qG.mp aG;have Q:(aC.drop f)[j]?=kZ (aC.drop f)[j]:=Lw g;refine ll aA Q (gb<|fl aj) (cx (λhe=>(py.mk (E:=E) () g ⟨rfl,λy G=>?_⟩)) λaX=>ll aA Q (gb<|fl aj)<|cr ((aP.drop f).get Q).zI<|(out λy G=>?_))
  ·replace G:=Q▸jH▸G;rcases bc.mp G with G|G
   ·exact m y G
   ·exact(aaO.mp G).trans he
  ·replace G:=Q▸G;cases G;exact aX
 ·exact(ag<|qG.mpr (xn.mp G).1).elim
noncomputable def mZ (n:Int):Str:=pi<|toString n
theorem WI:∀n∈g9 204,(mZ<|(n:Int) -3).cps.toList.all (λx=>decide<|32<=x/\x<127)=true/\(mZ<|(n:Int) -3).cps.size<=3:=by decide+kernel
theorem rz {n:Int}(ai: -3<=n)(ao:n<=200):(∀x∈(mZ n).cps.toList,32<=x/\x<127)/\(mZ n).cps.size<=3:=by obtain⟨a,b⟩:=WI (n+3).toNat<|Ls.mpr<|dZ 13549095404813684226 ao rfl;rw[show(((n+3).toNat:Nat):Int) -3=n by exact dZ 3468568300227770714777 ai rfl] at a b;refine⟨λx Q=>?_,b⟩;have:=abe.mp a x Q;simpa using this
theorem zG (ai: -3<=pt)(ao:pt<=200):pt.natAbs<=200:=by
 rcases Int.natAbs_eq pt with e|e
 ·exact dZ 136369675009025 e ao
 ·exact dZ 3319909510118401 e ai
theorem GY (H:a2 c)(ai: -3<=pt)(ao:pt<=200)(ad:ab (.str<|mZ pt) I):be c 1 (.ref 432) [.int pt] ab I:=by
 refine OS (n:=0) H ⟨by decide,by decide,by decide,λB x=>cx (λq=>⟨?_,ad⟩) λC=>(C ?_).elim⟩
 ·have:=zG ai ao;exact il (nf (LL _) this) (by decide)
 ·refine J x ?_;have C:(10:Nat)^3<=10^4000:=Nat.pow_le_pow_right (by decide) (by decide);have:(10:Int)^3<=(10:Int)^(4000:Int).toNat:=by exact_mod_cast C
  exact w9 (qG.mpr<|il (zG ai ao) (by decide:200<1000)) this
noncomputable def fp (s:Str):List Int:=s.cps.toList.map uq
def nT (w n:Int):Str:=tC (mZ n) ((mZ w).length:Int)++" "
def ry (w n:Int):List Int:=fp<|nT w n
theorem Xq:(tC w pt).cps.toList=dr (pt.toNat -w.cps.size) 32++w.cps.toList:=by
 unfold tC;split
 ·rename_i C;have av:pt<=(w.cps.size:Int):=C;refine J (by exact me 810478878097155 av rfl rfl:pt.toNat -w.cps.size=0) ?_;simp
 ·unfold kV;refine(?_:(LM (pt.toNat -w.cps.size) 32++w.cps++LM 0 32).toList=_);simp
theorem ZE:(w++name).cps.toList=w.cps.toList++name.cps.toList:=by refine(?_:(w.cps++name.cps).toList=_);simp
theorem tt {w n:Int}(ai: -3<=n)(ao:n<=200)(a7: -3<=w)(bR:w<=200):(∀x∈(nT w n).cps.toList,32<=x/\x<127)/\(nT w n).cps.toList.length<=7:=by
 obtain⟨a,b⟩:=rz ai ao;obtain⟨-,y⟩:=rz a7 bR;have a1:((mZ w).length:Int).toNat<=3:=by refine(?_:((mZ w).cps.size:Int).toNat<=3);exact bC 28650587143169 y rfl
 have aG:(" ":Str).cps.toList=[32]:=by decide+kernel
 unfold nT;refine J ZE<|J Xq<|J aG ?_;refine⟨λx Q=>?_,?_⟩
 ·rcases bc.mp Q with Q|Q
  ·rcases bc.mp Q with Q|Q
   ·refine J (kg.mp Q).2 ?_;exact⟨j5 904641,j5 133230018⟩
   ·exact a x Q
  ·cases aaO.mp Q;exact⟨j5 904641,j5 133230018⟩
 ·simp only[nb,hA,hC,uc,aaU];exact b1 5577663233075238822830213249 b a1 rfl
theorem ZC (C:∀x∈w.cps.toList,32<=x/\x<127):bU (fp w):=λx Q=>by refine bg (yB.mp Q) λn aO O=>?_;refine a6 O ?_;have:=C n aO;refine(?_:32<=(n:Int)/\(n:Int)<127);exact⟨bM 3692080583 this.1,bM 2235170370412712 this.2⟩
theorem z7 (aj:w.cps.toList.length<=gW)(C:fj (bm<|fp w) I):km (.str w) (ow bq<|bD 0<|cG nG dh bf) e7 fj I:=by
 refine(dM (λbq ag Z=>Z=I/\bq<=w.cps.toList.length/\ag=(bm<|fp w).take bq) w.cps.toList.length aj ⟨rfl,BK _,rfl⟩ ?_);intro bq ag l aM;refine hO aM λa ap O=>?_;clear aM;subst a;subst O;have an:(bm<|fp w).length=w.cps.toList.length:=by simp[fp]
 refine⟨r5<|by refine J qC<|J an ?_;exact b1 141836751107 ap rfl,ap,λe=>⟨?_,?_⟩,λaG=>?_⟩
 ·refine(?_:By=_);refine J e<|a6 nc<|J (w0<|nu _) ?_;rfl
 ·refine J e<|J (pj<|bC 1061121 an) ?_;exact C
 ·have Q:w.cps[bq]?=kZ w.cps.toList[bq]:=by refine a6 nc ?_;exact Lw aG
  refine(bb [.str ⟨#[w.cps.toList[bq]]⟩] (by refine(?_:kZ _=_);refine J Q ?_;rfl) ?_);refine⟨rfl,rfl,aG,?_⟩;have e:(bm<|fp w)[bq]?=kZ (.int (w.cps.toList[bq]:Nat)):=by unfold fp;refine J qw<|J qw<|J (Lw aG) ?_;rfl
  refine J jH<|J e ?_;rfl
noncomputable def ab1 (aW ba:V):List (Str×V):=[(("sort":Str),aW),(("many":Str),ba)]
noncomputable def e2 (aW ba bh bL ce ct cH cI bG aZ ar bB a5 Q U af aq aH bn bA:V):List (Str×V):=[(("number":Str),aW),(("name":Str),ba),(("text":Str),bh),(("markers":Str),bL),(("point":Str),ce),(("begv":Str),ct),(("zv":Str),cH),(("mark":Str),cI),(("is_live":Str),bG),(("is_read_only":Str),aZ),(("ticks":Str),ar),(("codes_ticks":Str),bB),(("saved_ticks":Str),a5),(("listeners":Str),Q),(("undo":Str),U),(("props":Str),af),(("overlays":Str),aq),(("locals":Str),aH),(("syntax":Str),bn),(("file":Str),bA)]
variable{ba bh bL ce ct cH cI bG aZ ar bB a5 Q U af aq aH bn bA:V}
theorem Ig:(e2 aW ba bh bL ce ct cH cI bG aZ ar bB a5 Q U af aq aH bn bA).lookup ("text":Str)=kZ bh:=by ext
theorem Ie:(e2 aW ba bh bL ce ct cH cI bG aZ ar bB a5 Q U af aq aH bn bA).lookup ("markers":Str)=kZ bL:=by ext
theorem UO:(e2 aW ba bh bL ce ct cH cI bG aZ ar bB a5 Q U af aq aH bn bA).lookup ("point":Str)=kZ ce:=by ext
theorem XO:bF "point" u (e2 aW ba bh bL ce ct cH cI bG aZ ar bB a5 Q U af aq aH bn bA)=e2 aW ba bh bL u ct cH cI bG aZ ar bB a5 Q U af aq aH bn bA:=by ext
theorem UJ:(e2 aW ba bh bL ce ct cH cI bG aZ ar bB a5 Q U af aq aH bn bA).lookup ("begv":Str)=kZ ct:=by ext
theorem UR:(e2 aW ba bh bL ce ct cH cI bG aZ ar bB a5 Q U af aq aH bn bA).lookup ("zv":Str)=kZ cH:=by ext
theorem XR:bF "zv" u (e2 aW ba bh bL ce ct cH cI bG aZ ar bB a5 Q U af aq aH bn bA)=e2 aW ba bh bL ce ct u cI bG aZ ar bB a5 Q U af aq aH bn bA:=by ext
theorem UM:(e2 aW ba bh bL ce ct cH cI bG aZ ar bB a5 Q U af aq aH bn bA).lookup ("mark":Str)=kZ cI:=by ext
theorem XN:bF "mark" u (e2 aW ba bh bL ce ct cH cI bG aZ ar bB a5 Q U af aq aH bn bA)=e2 aW ba bh bL ce ct cH u bG aZ ar bB a5 Q U af aq aH bn bA:=by ext
theorem UK:(e2 aW ba bh bL ce ct cH cI bG aZ ar bB a5 Q U af aq aH bn bA).lookup ("is_read_only":Str)=kZ aZ:=by ext
theorem Ih:(e2 aW ba bh bL ce ct cH cI bG aZ ar bB a5 Q U af aq aH bn bA).lookup ("ticks":Str)=kZ ar:=by ext
theorem XQ:bF "ticks" u (e2 aW ba bh bL ce ct cH cI bG aZ ar bB a5 Q U af aq aH bn bA)=e2 aW ba bh bL ce ct cH cI bG aZ u bB a5 Q U af aq aH bn bA:=by ext
theorem XM:bF "codes_ticks" u (e2 aW ba bh bL ce ct cH cI bG aZ ar bB a5 Q U af aq aH bn bA)=e2 aW ba bh bL ce ct cH cI bG aZ ar u a5 Q U af aq aH bn bA:=by ext
theorem UL:(e2 aW ba bh bL ce ct cH cI bG aZ ar bB a5 Q U af aq aH bn bA).lookup ("listeners":Str)=kZ Q:=by ext
theorem UQ:(e2 aW ba bh bL ce ct cH cI bG aZ ar bB a5 Q U af aq aH bn bA).lookup ("undo":Str)=kZ U:=by ext
theorem UP:(e2 aW ba bh bL ce ct cH cI bG aZ ar bB a5 Q U af aq aH bn bA).lookup ("props":Str)=kZ af:=by ext
theorem UN:(e2 aW ba bh bL ce ct cH cI bG aZ ar bB a5 Q U af aq aH bn bA).lookup ("overlays":Str)=kZ aq:=by ext
theorem Wi:(e2 aW ba bh bL ce ct cH cI bG aZ ar bB a5 Q U af aq aH bn bA).lookup ("begin":Str)=By:=by ext
theorem Wj:(e2 aW ba bh bL ce ct cH cI bG aZ ar bB a5 Q U af aq aH bn bA).lookup ("end":Str)=By:=by ext
theorem IV:(e2 aW ba bh bL ce ct cH cI bG aZ ar bB a5 Q U af aq aH bn bA).lookup ("size":Str)=By:=by ext
theorem IU:(e2 aW ba bh bL ce ct cH cI bG aZ ar bB a5 Q U af aq aH bn bA).lookup ("code_at":Str)=By:=by ext
theorem zP:(e2 aW ba bh bL ce ct cH cI bG aZ ar bB a5 Q U af aq aH bn bA).lookup ("codes":Str)=By:=by ext
theorem v5:(e2 aW ba bh bL ce ct cH cI bG aZ ar bB a5 Q U af aq aH bn bA).lookup ("goto":Str)=By:=by ext
theorem Wk:(e2 aW ba bh bL ce ct cH cI bG aZ ar bB a5 Q U af aq aH bn bA).lookup ("touch":Str)=By:=by ext
theorem H5:(e2 aW ba bh bL ce ct cH cI bG aZ ar bB a5 Q U af aq aH bn bA).length=20:=rfl
theorem Vl:bF "file" bA (bF "syntax" bn<|bF "locals" aH<|bF "overlays" aq<|bF "props" af<|bF "undo" U<|bF "listeners" Q<|bF "saved_ticks" a5<|bF "codes_ticks" bB<|bF "ticks" ar<|bF "is_read_only" aZ<|bF "is_live" bG<|bF "mark" cI<|bF "zv" cH<|bF "begv" ct<|bF "point" ce<|bF "markers" bL<|bF "text" bh<|bF "name" ba<|bF "number" aW<|[])=e2 aW ba bh bL ce ct cH cI bG aZ ar bB a5 Q U af aq aH bn bA:=by ext
noncomputable def mN (aW ba bh bL ce ct:V):List (Str×V):=[(("rows":Str),aW),(("order":Str),ba),(("current":Str),bh),(("last_number":Str),bL),(("last_marker":Str),ce),(("listeners":Str),ct)]
theorem UI:(mN aW ba bh bL ce ct).lookup ("rows":Str)=kZ aW:=by ext
theorem UH:(mN aW ba bh bL ce ct).lookup ("current":Str)=kZ bh:=by ext
theorem Wh:(mN aW ba bh bL ce ct).lookup ("by_number":Str)=By:=by ext
theorem Vm:bF "listeners" ct (bF "last_marker" ce<|bF "last_number" bL<|bF "current" bh<|bF "order" ba<|bF "rows" aW<|[])=mN aW ba bh bL ce ct:=by ext
noncomputable def jt (aW ba bh bL ce ct cH cI bG aZ ar bB a5 Q U af aq aH bn bA cm cp cy cL b9 cR cY a b c d e f:V):List (Str×V):=[(("buffers":Str),aW),(("commands":Str),ba),(("global_map":Str),bh),(("local_maps":Str),bL),(("minor_maps":Str),ce),(("question_map":Str),ct),(("questions":Str),cH),(("asker":Str),cI),(("kills":Str),bG),(("registers":Str),aZ),(("abbrevs":Str),ar),(("windows":Str),bB),(("files":Str),a5),(("machine":Str),Q),(("rules":Str),U),(("further":Str),af),(("matches":Str),aq),(("loop":Str),aH),(("goals":Str),bn),(("undoing":Str),bA),(("marks":Str),cm),(("amalgam":Str),cp),(("message":Str),cy),(("is_echo_old":Str),cL),(("is_shifting":Str),b9),(("signal_text":Str),cR),(("panes":Str),cY),(("modes":Str),a),(("fill_column":Str),b),(("tab_width":Str),c),(("rectangle":Str),d),(("last_expansion":Str),e),(("replacing":Str),f)]
variable{cm cp cy cL b9 cR cY bu:V}
theorem US:(jt aW ba bh bL ce ct cH cI bG aZ ar bB a5 Q U af aq aH bn bA cm cp cy cL b9 cR cY ak aJ u a4 bx bu).lookup ("buffers":Str)=kZ aW:=by ext
theorem UV:(jt aW ba bh bL ce ct cH cI bG aZ ar bB a5 Q U af aq aH bn bA cm cp cy cL b9 cR cY ak aJ u a4 bx bu).lookup ("registers":Str)=kZ aZ:=by ext
theorem XT:bF "registers" u (jt aW ba bh bL ce ct cH cI bG aZ ar bB a5 Q U af aq aH bn bA cm cp cy cL b9 cR cY ak aJ a4 bx bu bN)=jt aW ba bh bL ce ct cH cI bG u ar bB a5 Q U af aq aH bn bA cm cp cy cL b9 cR cY ak aJ a4 bx bu bN:=by ext
theorem UT:(jt aW ba bh bL ce ct cH cI bG aZ ar bB a5 Q U af aq aH bn bA cm cp cy cL b9 cR cY ak aJ u a4 bx bu).lookup ("marks":Str)=kZ cm:=by ext
theorem UW:(jt aW ba bh bL ce ct cH cI bG aZ ar bB a5 Q U af aq aH bn bA cm cp cy cL b9 cR cY ak aJ u a4 bx bu).lookup ("tab_width":Str)=kZ u:=by ext
theorem UU:(jt aW ba bh bL ce ct cH cI bG aZ ar bB a5 Q U af aq aH bn bA cm cp cy cL b9 cR cY ak aJ u a4 bx bu).lookup ("rectangle":Str)=kZ a4:=by ext
theorem XS:bF "rectangle" u (jt aW ba bh bL ce ct cH cI bG aZ ar bB a5 Q U af aq aH bn bA cm cp cy cL b9 cR cY ak aJ a4 bx bu bN)=jt aW ba bh bL ce ct cH cI bG aZ ar bB a5 Q U af aq aH bn bA cm cp cy cL b9 cR cY ak aJ a4 u bu bN:=by ext
theorem Wl:(jt aW ba bh bL ce ct cH cI bG aZ ar bB a5 Q U af aq aH bn bA cm cp cy cL b9 cR cY ak aJ u a4 bx bu).lookup ("current":Str)=By:=by ext
theorem UD:(jt aW ba bh bL ce ct cH cI bG aZ ar bB a5 Q U af aq aH bn bA cm cp cy cL b9 cR cY ak aJ u a4 bx bu).length=33:=rfl
theorem Vn:bF "replacing" bu (bF "last_expansion" bx<|bF "rectangle" a4<|bF "tab_width" u<|bF "fill_column" aJ<|bF "modes" ak<|bF "panes" cY<|bF "signal_text" cR<|bF "is_shifting" b9<|bF "is_echo_old" cL<|bF "message" cy<|bF "amalgam" cp<|bF "marks" cm<|bF "undoing" bA<|bF "goals" bn<|bF "loop" aH<|bF "matches" aq<|bF "further" af<|bF "rules" U<|bF "machine" Q<|bF "files" a5<|bF "windows" bB<|bF "abbrevs" ar<|bF "registers" aZ<|bF "kills" bG<|bF "asker" cI<|bF "questions" cH<|bF "question_map" ct<|bF "minor_maps" ce<|bF "local_maps" bL<|bF "global_map" bh<|bF "commands" ba<|bF "buffers" aW<|[])=jt aW ba bh bL ce ct cH cI bG aZ ar bB a5 Q U af aq aH bn bA cm cp cy cL b9 cR cY ak aJ u a4 bx bu:=by ext
noncomputable def hk (aW ba bh bL:V):List (Str×V):=[(("room":Str),aW),(("cells":Str),ba),(("gap_start":Str),bh),(("gap_end":Str),bL)]
theorem U0:(hk aW ba bh bL).lookup ("room":Str)=kZ aW:=by ext
theorem UX:(hk aW ba bh bL).lookup ("cells":Str)=kZ ba:=by ext
theorem UZ:(hk aW ba bh bL).lookup ("gap_start":Str)=kZ bh:=by ext
theorem XV:bF "gap_start" u (hk aW ba bh bL)=hk aW ba u bL:=by ext
theorem UY:(hk aW ba bh bL).lookup ("gap_end":Str)=kZ bL:=by ext
theorem XU:bF "gap_end" u (hk aW ba bh bL)=hk aW ba bh u:=by ext
theorem IX:(hk aW ba bh bL).lookup ("size":Str)=By:=by ext
theorem Wm:(hk aW ba bh bL).lookup ("code":Str)=By:=by ext
theorem IW:(hk aW ba bh bL).lookup ("codes":Str)=By:=by ext
theorem zQ:(hk aW ba bh bL).lookup ("move_gap":Str)=By:=by ext
theorem Wp:(hk aW ba bh bL).lookup ("widen_gap":Str)=By:=by ext
theorem Wo:(hk aW ba bh bL).lookup ("insert":Str)=By:=by ext
theorem Wn:(hk aW ba bh bL).lookup ("delete":Str)=By:=by ext
theorem H6:(hk aW ba bh bL).length=4:=rfl
theorem Vo:bF "gap_end" bL (bF "gap_start" bh<|bF "cells" ba<|bF "room" aW<|[])=hk aW ba bh bL:=by ext
noncomputable def ab2 (aW:V):List (Str×V):=[(("number":Str),aW)]
noncomputable def mO (aW ba bh:V):List (Str×V):=[(("most":Str),aW),(("markers":Str),ba),(("last":Str),bh)]
theorem U3:(mO aW ba bh).lookup ("most":Str)=kZ aW:=by ext
theorem U2:(mO aW ba bh).lookup ("markers":Str)=kZ ba:=by ext
theorem XX:bF "markers" u (mO aW ba bh)=mO aW u bh:=by ext
theorem U1:(mO aW ba bh).lookup ("last":Str)=kZ bh:=by ext
theorem XW:bF "last" u (mO aW ba bh)=mO aW ba u:=by ext
theorem H7:(mO aW ba bh).length=3:=rfl
theorem Vp:bF "last" bh (bF "markers" ba<|bF "most" aW<|[])=mO aW ba bh:=by ext
noncomputable def f5 (aW ba bh bL:V):List (Str×V):=[(("number":Str),aW),(("advances":Str),ba),(("buffer":Str),bh),(("position":Str),bL)]
theorem U5:(f5 aW ba bh bL).lookup ("number":Str)=kZ aW:=by ext
theorem U4:(f5 aW ba bh bL).lookup ("advances":Str)=kZ ba:=by ext
theorem vT:(f5 aW ba bh bL).lookup ("buffer":Str)=kZ bh:=by ext
theorem XY:bF "buffer" u (f5 aW ba bh bL)=f5 aW ba u bL:=by ext
theorem U6:(f5 aW ba bh bL).lookup ("position":Str)=kZ bL:=by ext
theorem Ju:bF "position" u (f5 aW ba bh bL)=f5 aW ba bh u:=by ext
theorem zi:(f5 aW ba bh bL).length=4:=rfl
theorem Vq:bF "position" bL (bF "buffer" bh<|bF "advances" ba<|bF "number" aW<|[])=f5 aW ba bh bL:=by ext
noncomputable def lb (aW:V):List (Str×V):=[(("rows":Str),aW)]
theorem Ii:(lb aW).lookup ("rows":Str)=kZ aW:=by ext
theorem zR:(lb aW).lookup ("numbers":Str)=By:=by ext
theorem Wt:(lb aW).lookup ("put":Str)=By:=by ext
theorem Ws:(lb aW).lookup ("inserted":Str)=By:=by ext
theorem Wr:(lb aW).lookup ("deleted":Str)=By:=by ext
theorem Wu:(lb aW).lookup ("replaced":Str)=By:=by ext
theorem Vr:bF "rows" aW ([])=lb aW:=by ext
noncomputable def u7 (aW:V):List (Str×V):=[(("contents":Str),aW)]
theorem Ij:(u7 aW).lookup ("contents":Str)=kZ aW:=by ext
theorem Vs:bF "contents" aW ([])=u7 aW:=by ext
noncomputable def oz (aW ba bh bL ce:V):List (Str×V):=[(("low":Str),aW),(("high":Str),ba),(("rows":Str),bh),(("first":Str),bL),(("last":Str),ce)]
theorem Va:(oz aW ba bh bL ce).lookup ("low":Str)=kZ aW:=by ext
theorem U8:(oz aW ba bh bL ce).lookup ("high":Str)=kZ ba:=by ext
theorem Vb:(oz aW ba bh bL ce).lookup ("rows":Str)=kZ bh:=by ext
theorem U7:(oz aW ba bh bL ce).lookup ("first":Str)=kZ bL:=by ext
theorem U9:(oz aW ba bh bL ce).lookup ("last":Str)=kZ ce:=by ext
theorem Vt:bF "last" ce (bF "first" bL<|bF "rows" bh<|bF "high" ba<|bF "low" aW<|[])=oz aW ba bh bL ce:=by ext
theorem Do (H:a2 c)(el:ak≠.aK)(dg:aJ≠.aK)(g2:u≠.aK)(ap:aW≠.aK)(o:ba≠.aK) (ad:∀a d Z,hF 566 a d (oz ak aJ u aW ba) I Z->ab (.ref a) Z):be c 2 (.ref 566) [ak,aJ,u,aW,ba] ab I:=by refine mY H.ok (H.k 9) λa d au m=>Op (n:=0) H<|o0 el<|eW m (H.d 75) (by ext) ?_;intro p aS m;refine o0 dg<|eW m (H.d 76) (by ext) ?_;intro f aM m;refine o0 g2<|eW m (H.d 77) (by ext) ?_;intro w ay m;refine o0 ap<|eW m (H.d 78) (by ext) ?_;intro g bh m;refine o0 o<|eW m (H.d 79) (by ext) ?_;intro x bv m;exact⟨rfl,ad _ _ _<|m.as Vt⟩
noncomputable def fF:Nat->List Int->List Int->Nat
 |m+1,x::xs,y::bw=>if x=y then fF m xs bw+1 else 0
 |_,_,_=>0
theorem yi {m:Nat}:∀{xs bw:List Int},fF m xs bw<=m/\fF m xs bw<=xs.length/\fF m xs bw<=bw.length:=by
 have z {a b d:Nat}:0<=a/\0<=b/\0<=d:=⟨BK _,BK _,BK _⟩;induction m with
 |zero=>exact z
 |succ m D=>intro xs bw;cases xs with
  |nil=>exact z
  |cons x xs=>cases bw with
   |nil=>exact z
   |cons y bw=>
    by_cases C:x=y
    ·have e:fF (m+1) (x::xs) (y::bw)=fF m xs bw+1:=if_pos C;refine J e ?_;exact⟨t4 D.1,t4 D.2.1,t4 D.2.2⟩
    ·have e:fF (m+1) (x::xs) (y::bw)=0:=if_neg C;exact J e z
theorem Gj {m:Nat}:∀{xs bw:List Int},xs.take (fF m xs bw)=bw.take (fF m xs bw):=by
 induction m with
 |zero=>exact rfl
 |succ m D=>intro xs bw;cases xs with
  |nil=>exact rfl
  |cons x xs=>cases bw with
   |nil=>exact rfl
   |cons y bw=>
    by_cases C:x=y
    ·have e:fF (m+1) (x::xs) (y::bw)=fF m xs bw+1:=if_pos C;refine J e ?_;exact J C (congrArg (y:: ·) D)
    ·have e:fF (m+1) (x::xs) (y::bw)=0:=if_neg C;exact J e rfl
theorem sM:∀{m j:Nat} {xs bw:List Int},(∀x y,j<m->xs[j]?=kZ x->bw[j]?=kZ y->x≠y)->fF (m -j) (xs.drop j) (bw.drop j)=0:=by
 intro m j xs bw C;cases e:m -j with
 |zero=>rfl
 |succ k=>
  cases a8:xs.drop j with
  |nil=>rfl
  |cons x a=>
   cases bo:bw.drop j with
   |nil=>rfl
   |cons y b=>exact if_neg<|C x y (abn<|e▸sb k) (by rw[<-abo,a8];rfl) (by rw[<-abo,bo];rfl)
theorem Gi (hm:j<e)(ai:xs[j]?=kZ pt)(ao:A[j]?=kZ pt):fF (e -j) (xs.drop j) (A.drop j)=fF (e -(j+1)) (xs.drop<|j+1) (A.drop<|j+1)+1:=by obtain⟨Q,ex⟩:=xn.mp ai;obtain⟨G,d⟩:=xn.mp ao;rw[show e -j=e -(j+1)+1 from(Nat.succ_pred_eq_of_pos<|LJ hm).symm,abp Q,abp G,ex,d];exact if_pos rfl
theorem Gq (H:a2 c)(aB:I ae=kZ (.list<|bm xs))(ax:I l=kZ (.list<|bm A))(aj:xs.length<=200000)(N:A.length<=200000) (ad:ab (.int<|fF e xs A) I):be c 1 (.ref 605) [.ref ae,.ref l,.int e] ab I:=by
 refine Oz (n:=0) H ?_;let E:Nat->Unit->List V:=λj q=>[.ref ae,.ref l,.int e,.int (j:Nat)];refine vO xs.length E (λj q Z=>Z=I/\fF e xs A=j+fF (e -j) (xs.drop j) (A.drop j)) (a:=()) rfl ⟨rfl,(BI _).symm⟩ λj q Z bi aU=>?_;obtain⟨rfl,aU⟩:=aU;refine jA ?_;intro b;have fin:fF (e -j) (xs.drop j) (A.drop j)=0->ab (.int (j:Nat)) Z:=λC=>by replace aU:=(xa _)▸C▸aU;rw[<-aU];exact ad
 refine li aB (by rw[eb];exact il aj<|by decide)<|li ax (by rw[eb];exact il N<|by decide) ?_;rw[eb,eb];refine cx (p:=(j:Int)<min (min (e:Int) (xs.length:Nat)) (A.length:Nat)) (λaG=>?_) λag=>fin<|sM λx y hm ex d=>?_
 ·have ao:j<A.length:=qG.mp<|w9 aG<|abq ..;have a7:=w9 aG<|BY ..;have ai:j<xs.length:=qG.mp<|w9 a7<|abq ..;have h0:j<e:=qG.mp<|w9 a7<|BY ..;have Q:xs[j]?=kZ xs[j]:=Lw ai;have G:A[j]?=kZ A[j]:=Lw ao;refine ll aB Q (nf aj<|by decide) (ll ax G (nf N<|by decide)<|cx (λhe=>(py.mk (E:=E) () ai ⟨rfl,?_⟩)) λaX=>(fin<|sM λx y q ex d=>?_))
  ·rw[aU,Gi h0 Q<|he▸G,jg _ 1,<-BZ]
  ·replace ex:=Q▸ex;replace d:=G▸d;cases ex;cases d;exact aX
 ·have ai:=(xn.mp ex).1;have ao:=(xn.mp d).1;exact(ag<|xb.mpr ⟨xb.mpr ⟨qG.mpr hm,qG.mpr ai⟩,qG.mpr ao⟩).elim
theorem YB (H:a2 c)(aB:I ae=kZ (.list<|bm xs))(aP:bU xs)(aj:xs.length<=50000)(N:aD<=50000) (ad:∀Z,bp I Z->ab (.int xs.length) Z):be c 5 (.ref 682) [.ref ae,.int aD,.int 8] ab I:=by refine PC (n:=4) H ⟨(H.f 37),dA rfl rfl λa au U s aI=>WB aI N λb aS aR aT bd=>?_⟩;have x:=U.trans aR;refine hu bd (x _ _ aB) (lz N) aj rfl λd aM bj a9 bn=>ca<|o9 H bn (bU.Zp.append aP) (pA (lz N) aj) λay bf=>dC ?_;rw[nb,hA,t7,mv,sa];exact ad _<|(x.trans bj).trans bf
variable{bs:Addr}
theorem MR (H:a2 c)(hf:I ae=kZ (.list aa))(ax:I cl=kZ (.list am))(an:aa.getLast?=kZ (.ref l))(aB:am.getLast?=kZ (.ref bs))(Q:I l=kZ (.list<|bm xs))(G:I bs=kZ (.list<|bm A)) (g:bU xs)(i:bU A)(d:aa.length<=100000)(h:am.length<=100000)(b:xs.length<=100000)(o:A.length<=50000)(pf:aD<=50000) (ad:∀Z,bp I Z->ab (.int (min xs.length (aD+A.length):Nat)) Z):be c 6 (.ref 675) [.ref ae,.int aD,.ref cl,.int 8] ab I:=by
 have m:aa[aa.length -1]?=kZ (.ref l):=by rw[<-an,B0]
 have lw:am[am.length -1]?=kZ (.ref bs):=by rw[<-aB,B0]
 have z:0<aa.length:=by cases aa with|nil=>exact bY an|cons=>exact sb _
 have r:0<am.length:=by cases am with|nil=>exact bY aB|cons=>exact sb _
 refine Oq (n:=5) H<|li hf (gz d)<|yV hf (tD z) m (gz d) ⟨(H.f 70),li ax (gz h)<|yV ax (tD r) lw (gz h)<|ca<|YB H G i o pf λau U=>?_⟩;let E:Nat->Unit->List V:=λj q=>[.ref ae,.int aD,.ref cl,.int 8,.int (j:Nat),.ref l,.int (j:Nat),.int A.length];refine vO xs.length E (λj q Z=>bp I Z/\j<=aD+A.length) (a:=()) rfl ⟨U,BK _⟩ λj q aS bi C=>jA ?_;intro p;have aR:=C.1;refine ed (aR _ _ Q) (gb b)<|cx (λaG=>?_) λag=>?_
 ·have aG:=qG.mp aG;refine cx (λe=>⟨(H.f 37),up (k:=j+1) (aR _ _ Q) (gb b) λa aM bj a9 bn=>ca<|o9 H bn (g.take _) (fZ b) λay bf=>?_⟩) λag=>?_
  ·rw[qC,ke aG];exact py.mk (E:=E) () aG ⟨(aR.trans bj).trans bf,qG.mp e⟩
  ·have:=ad _ aR;rwa[<-t9 C.2 (qD.mp<|aa1.mp ag),mx bi] at this
 ·have:=ad _ aR;rw[<-t9 bi (qD.mp<|aa1.mp ag),ke C.2] at this;exact this
noncomputable def iJ:List (List Int)×List Int->Int->List (List Int)×List Int:=λs x=>if x=10 then(s.1++[s.2],[]) else(s.1,s.2++[x])
def hS (cs:List Int):List (List Int)×List Int:=cs.foldl iJ ([],[])
def dW (cs:List Int):List (List Int):=(hS cs).1++[(hS cs).2]
theorem AC:hS (A++[pt])=iJ (hS A) pt:=by unfold hS;refine J LN ?_;rfl
theorem J1 {cs:List Int}:(hS cs).1.length<=cs.length/\(hS cs).2.length<=cs.length:=by
 have g:∀(n:Nat) (cs:List Int),cs.length=n->(hS cs).1.length<=n/\(hS cs).2.length<=n:=by
  intro n;induction n with
  |zero=>intro cs C;cases gB.mp C;simp[hS]
  |succ n D=>intro cs C;obtain⟨bw,y,rfl⟩:∃bw y,cs=bw++[y]:=⟨cs.dropLast,cs.getLast (λe=>by rw[e] at C;cases C),(LO _).symm⟩;have:=D bw (by simpa using C);refine J AC ?_;unfold iJ;split<;>simp<;>(first|exact bC 1052929 this.1|exact⟨bC 270342145 this.1,bC 1052929 this.2⟩)
 exact g _ cs rfl
noncomputable def aY:List (List Int)->List Int
 |[]=>[]
 |[r]=>r
 |r::s::o=>r++10::aY (s::o)
theorem oR:∀{o:List (List Int)} {r:List Int},aY (o++[r])=if o=[] then r else aY o++10::r
 |[],r=>rfl
 |[s],r=>rfl
 |s::t::o,r=>by have:=@oR (t::o) r;rw[if_neg λX=>by cases X] at this;refine(?_:s++10::aY ((t::o)++[r])=_);refine J this<|J (if_neg λX=>by cases X)<|(?_:_=(s++10::aY (t::o))++10::r);simp
theorem Te:bm xs≠aa++[.ref l]:=λC=>by
 have:V.ref l∈bm xs:=by refine J C ?_;simp
 refine bg (yB.mp this) λx q e=>?_;cases e
theorem FE {d aP:aR->cQ->Prop}:∀{as:List aR} {bE:List cQ},cc d as bE->(∀a b,a∈as->d a b->aP a b)->cc aP as bE:=by
 intro h;induction h with
 |nil=>
  intro f;cases f with
  |nil=>intro s l;exact trivial
  |cons _ _=>intro c k;first|exact c.elim|exact k.elim|cases c|cases k
 |cons e i D=>
  intro f;cases f with
  |nil=>intro c k;first|exact c.elim|exact k.elim|cases c|cases k
  |cons j n=>intro g C;obtain⟨x,y⟩:=g;exact⟨C _ _ (.head _) x,D y λa b m=>C a b<|.tail _ m⟩
def hW (ar I:az)(u:V)(xs:List Int):Prop:=∃a,u=.ref a/\ar a=By/\I a=kZ (.list<|bm xs)
theorem hW.oO (C:hW Z I u xs)(M:eF aF Z):IsL aF I u xs:=eK C λa e n g=>⟨a,e,M.fresh n,g⟩
theorem hW.MI (C:hW au I u xs)(x:bp Z au):hW Z I u xs:=eK C λa e n g=>⟨a,e,x.none n,g⟩
theorem hW.on (C:hW au I u xs)(k:∀b,u=.ref b->au b=By->I b=kZ (.list<|bm xs)->Z b=kZ (.list<|bm xs)):hW au Z u xs:=eK C λa e n g=>⟨a,e,n,k a e n g⟩
structure ny (I Z:az)(a:Addr)(s:List (List Int)×List Int)(aa:List V)(l:Addr):Prop where
 x:bp I Z
 aE:Z a=kZ (.list (aa++[.ref l]))
 nl:I l=By
 vP:l≠a
 ne:∀w∈aa,w≠.ref l
 an:Z l=kZ (.list (bm s.2))
 all:cc (hW I Z) aa s.1
variable{Q:List (List Int)×List Int}
theorem ny.more {bh:az}(C:ny I Z a Q aa l)(na:I a=By)(bf:bp Z au)(bq:Z ae=By)(a3:au ae=kZ (.list []))(t:Upd au bh a (.list<|(aa++[.ref l])++[.ref ae])):ny I bh a (iJ Q 10) (aa++[.ref l]) ae:=by
 have c:ae≠a:=(de C.aE bq).symm;refine⟨t.ext (C.x.trans bf) na,t.at,C.x.none bq,c,λw a1 e=>?_,(t.ne c).trans a3,cc.append (C.all.mono λw bw av=>av.on λb e q aA=>?_) ⟨(c7 l rfl C.nl<|(t.ne C.vP).trans<|bf _ _ C.an),trivial⟩⟩
 ·subst e;rcases bc.mp a1 with a1|a1
  ·obtain⟨k,ap⟩:=qE.mp a1;refine bP λbz aN=>kL (C.all.get' ap) λbw q b e q aA=>aN ?_;cases e;exact de aA bq rfl
  ·cases aaO.mp a1;exact de C.an bq rfl
 ·exact(t.ne<|oY aA C.aE λX=>Te<|O.list.inj X).trans<|bf _ _ aA
theorem ny.step (C:ny I Z a Q aa l)(G:pt≠10)(aU:Upd Z au l (.list<|bm<|Q.2++[pt])):ny I au a (iJ Q pt) aa l:=by unfold iJ;exact J (if_neg G)<|⟨aU.ext C.x C.nl,(aU.ne<|us C.vP).trans C.aE,C.nl,C.vP,C.ne,aU.at,FE C.all λw bw a1 av=>av.on λb e q aA=>(aU.ne λX=>C.ne w a1<|J e<|J X rfl).trans aA⟩
theorem JH (H:a2 c)(aB:I ae=kZ (.list<|bm A))(aj:A.length<=100000) (ad:∀a aa Z,bp I Z->I a=By->Z a=kZ (.list aa)->cc (hW I Z) aa (dW A)->ab (.ref a) Z):be c 1 (.ref 577) [.ref ae] ab I:=by
 refine PD (n:=0) H<|dA rfl rfl λl au U s aI=>dA rfl rfl λa aS aR aT bd=>gd (aR _ _<|U _ _ aB) ?_;have na:I a=By:=U.none aT;let E:Nat->V×List V×Addr->List V:=λq p=>[.ref ae,p.1,.ref a];let P:Nat->V×List V×Addr->az->Prop:=λj p Z=>ny I Z a (hS<|A.take j) p.2.1 p.2.2;refine zb E P (a:=(.aK,[],l)) rfl ⟨U.trans aR,bd,s,de aI aT,iE,aR _ _ aI,trivial⟩ (λj p Z C=>C.x _ _ aB) (λj p aM u C aQ=>?_) λp aM C=>?_
 ·refine hr ?_;intro b;refine bg (oK aQ) λy Q O=>?_;refine J O ?_;have a0:hS (A.take<|j+1)=iJ (hS<|A.take j) y:=by refine J jH<|J Q ?_;exact AC
  have bF:=@J1<|A.take j;have bi:=fZ (k:=j) aj;have aW:p.2.1.length<=100000:=C.all.length▸nf bF.1 bi;have z:(p.2.1++[V.ref p.2.2]).length<=100001:=pA (n:=1) aW<|nu 1;refine cx (λhe=>⟨ty_list C.aE,dA rfl rfl λg ay bf bq a3=>x1 (bf _ _ C.aE) z λbh t=>eC.mk (E:=E<|j+1) (P:=P<|j+1) (.int y,p.2.1++[.ref p.2.2],g) ?_⟩) λaX=>li C.aE (il z<|by decide)<|dC<|yV C.aE (k:=p.2.1.length) ?_ List.getElem?_concat_length (il z<|by decide)<|FG C.an (nf bF.2 bi) λay aU=>eC.mk (E:=E<|j+1) (P:=P<|j+1) (.int y,p.2.1,p.2.2) ?_
  ·refine(?_:ny I bh a (hS<|A.take<|j+1) _ g);refine J a0<|J he ?_;exact C.more na bf bq a3 t
  ·refine J nb ?_;exact sa (p.2.1.length:Int) 1
  ·refine(?_:ny I ay a (hS<|A.take<|j+1) _ p.2.2);refine J a0 ?_;exact C.step aX aU
 ·have an:=C.an;have m:=C.all;rw[eb,oe] at an m;exact ad _ _ _ C.x na C.aE<|m.append ⟨(c7 _ rfl C.nl an),trivial⟩
def hG (I:az)(u:V)(xs:List Int):Prop:=∃a,u=.ref a/\I a=kZ (.list<|bm xs)
theorem hG.ext (C:hG I u xs)(x:bp I Z):hG Z u xs:=bg C λa e g=>⟨a,e,x _ _ g⟩
theorem IsL.rw (C:IsL aF I u xs):hG I u xs:=eK C λa e q g=>⟨a,e,g⟩
theorem re {o:List (List Int)}:∀{k:Nat},(aY<|o.take k).length<=(aY o).length:=by
 induction o with
 |nil=>intro k;cases k<;>exact nu _
 |cons r o D=>intro k;cases k with
  |zero=>exact BK _
  |succ k=>cases o with
   |nil=>cases k<;>exact nu _
   |cons s o=>cases k with
    |zero=>refine(?_:r.length<=(r++10::aY (s::o)).length);exact J nb<|w2 _ _
    |succ k=>refine(?_:(r++10::aY ((s::o).take<|k+1)).length<=(r++10::aY (s::o)).length);exact J nb<|J nb<|pk (t4<|D (k:=k+1)) _
theorem TR (C:h[b]?=kZ A):aY (h.take<|b+1)=if b=0 then A else aY (h.take b)++10::A:=by
 have ap:=(xn.mp C).1;refine J jH<|J C<|J (abr _)<|J oR ?_;by_cases h0:b=0
 ·refine J h0 ?_;simp
 ·rw[if_neg h0,if_neg];intro e;have:=congrArg xc e;rw[qC,uc] at this;exact b1 1163883906134508111 ap h0 this rfl
theorem AR (H:a2 c)(aB:I a=kZ (.list aa))(L:cc (hG I) aa h)(aj:h.length<=100000)(bi:(aY h).length<=1000000) (ad:lR ab I (aY h)):be c 1 (.ref 584) [.ref a] ab I:=by
 have an:=L.length;refine PN (n:=0) H<|dA rfl rfl λb au U s aI=>li (U _ _ aB) (gz<|an▸aj)<|m6 (an▸aj) ?_;let E:Nat->V->List V:=λq u=>[.ref a,.ref b,u];let P:Nat->V->az->Prop:=λj q Z=>bp I Z/\Z b=kZ (.list<|bm<|aY<|h.take j);refine HR E P rfl ⟨U,aI⟩ (λk u aS C ap=>?_) λu aS C=>?_
 ·have Q:=Lw<|an▸ap;refine bP λbz aN=>?_;refine p9 (L.get Q) λw a1 d a3 hd=>?_;subst a3;refine aN ?_;have e:=TR Q;have bF:=nf (@re h<|k+1) bi;have last:∀{aM:az} {cs:List Int},bp I aM->aM b=kZ (.list<|bm cs)->cs++h[k]'(an▸ap)=aY (h.take<|k+1)->xS (tl (dI c 0 ab) (eC (E<|k+1)<|P<|k+1)<|bD 1 bf) [.ref a,.ref b,.int (k:Nat)] [] aM:=λbj bn aW=>by refine⟨ty_list bn,cE (bj _ _ aB) a1 (gz<|an▸aj)<|aal bn (bj _ _ hd) (by refine J aW ?_;exact bF) λay aU=>eC.mk (E:=E<|k+1) (P:=P<|k+1) (.int k) ⟨aU.ext bj s,?_⟩⟩;exact J aU.at<|J aW rfl
  refine cx (λh0=>?_) λh0=>?_
  ·rw[if_neg λX=>by rw[X] at h0;exact absurd h0<|by decide] at e;refine⟨ty_list C.2,MC C.2 ?_ λaM i=>last (i.ext C.1 s) i.at (by refine J e<|J (aaG _ _ _) ?_;rfl)⟩;rw[e,nb] at bF;exact nf (w2 ..) bF
  ·have f:k=0:=Nat.le_zero.mp<|qD.mp<|aa1.mp h0;rw[if_pos f] at e;have ao:=C.2;rw[f,w8] at ao;exact last C.1 ao (by refine J e ?_;rfl)
 ·have ao:=C.2;rw[an,oe] at ao;exact ad _ _ C.1 s ao
def jB (M:List (List Int))(f:Nat)(b:Int):List (List Int):=M.mapIdx λk aC=>jD aC f<|ry (b+M.length)<|b+k
theorem WK (H:a2 c)(aB:I ae=kZ (.list aa))(L:cc (hG I) aa h)(aP:∀aC∈h,bU aC/\aC.length<=100000)(hf:i<=100000)(aA: -3<=pt)(a8:pt+h.length<=200) (ad:∀a ag Z,bp I Z->I a=By->Z a=kZ (.list ag)->cc (hW I Z) ag (jB h i pt)->ab (.ref a) Z):be c 8 (.ref 549) [.ref ae,.int i,.int pt,.int 8] ab I:=by
 have an:=L.length;have kc:aa.length<=100000:=gF 4786649184381166881793 aA a8 an;have b:pt+(h.length:Nat)<=200:=a8;have m: -3<=pt+(h.length:Nat):=abT aA<|LP<|oh _;refine Pj (n:=7) H ⟨(H.f 34),li aB (gz kc) ?_⟩;refine J an ?_;have a1:=(rz m b).2;refine ca<|GY H m b ⟨il a1<|by decide,dA rfl rfl λa au U na aI=>li (U _ _ aB) (gz kc)<|m6 kc ?_⟩;let E:Nat->V×V->List V:=λq p=>[.ref ae,.int i,.int pt,.int 8,.ref a,p.1,p.2,.int (mZ<|pt+h.length).length];let P:Nat->V×V->az->Prop:=λk q Z=>∃ag,bp I Z/\Z a=kZ (.list ag)/\cc (hW I Z) ag ((jB h i pt).take k)/\∀v∈ag,v≠.ref a;refine HR E P (a:=(.aK,.aK)) rfl (kR ([]) U aI trivial iE) (λk p aS C ap=>?_) λp aS C=>?_
 ·refine hr ?_;intro x;intros N;refine nW C λag aR bd aV bS=>?_;clear C;have g:k<h.length:=an▸ap;have Q:=Lw g;refine bP λbz aN=>?_;refine p9 (L.get Q) λv aF d a3 hd=>?_;subst a3;obtain⟨bg,s⟩:=aP _<|jI Q;refine aN ?_;have l:pt+(k:Nat)<=200:=abT (Int.add_le_add_left (qD.mpr<|rW g) pt) b;have o: -3<=pt+(k:Nat):=abT aA<|LP<|oh _;have ax:=tt o l m b;have aQ:=(rz o l).2;have aH:ag.length<=100000:=by rw[aV.length,qC,jB,xd];exact nf (abi ..) (nf (rW ap) kc)
  have B:(nT (pt+h.length)<|pt+k).length<=gW:=nf ax.2 (by refine J wT ?_;decide);refine⟨(H.f 34),ca<|GY H o l ⟨rfl,qI (qD.mpr a1)<|by decide,il aQ<|by decide,w9 (by decide)<|oh _,?_,B⟩⟩;refine⟨ty_list bd,(H.f 49),cE (aR _ _ aB) aF (gz kc) ⟨?_,z7 B λe aM a9=>?_⟩⟩
  ·refine(?_:(nT (pt+h.length)<|pt+k).cps.all _=true);refine a6 ug<|m5 abe ?_;exact λy G=>decide_eq_true<|uh (ax.1 y G).2 (by decide)
  ·have j3:(fp<|nT (pt+h.length)<|pt+k).length<=100000:=by unfold fp;refine J (aa0 _) ?_;exact nf ax.2 (by decide)
   have bj:=aR.trans a9.ext;have bn:=a9.ext _ _ bd;refine ca<|Jw H (bj _ _ hd) a9.at bg s hf j3 λw ay bf r u=>x1 (bf _ _ bn) (nf aH<|by decide) λbh t=>eC.mk (E:=E<|k+1) (P:=P<|k+1) (.int k,_)<|kR _ (t.ext (bj.trans bf) na) t.at ?_ λv j X=>?_
   ·have bt:(jB h i pt)[k]?=kZ (jD h[k] i<|ry (pt+h.length)<|pt+k):=by unfold jB;refine J ui<|J Q ?_;rfl
    refine J jH<|J bt ?_;exact cc.append (FE aV λv xs hm av=>av.on λpt aW q av=>(t.ne λX=>bS v hm<|J aW<|J X rfl).trans<|bf _ _<|a9.ext _ _ av) ⟨(c7 w rfl (bj.none r)<|(t.ne<|us<|de bn r).trans u),trivial⟩
   ·rcases bc.mp j with j|j
    ·exact bS v j X
    ·cases aaO.mp j;cases X;exact de bn r rfl
 ·refine nW C λag aR bd aV bS=>?_;clear C;rw[pj<|by unfold jB;refine J xd<|J an ?_;exact nu _] at aV;exact ad _ _ _ aR na bd aV
theorem tL {l:List aR}(C:e<=b):l.take e++(l.take b).drop e=l.take b:=by have:=rV e<|l.take b;rwa[abm,ke C] at this
theorem J0 {a b:Nat}{l:List aR}(C:a<=b):l.take a++(l.take b).drop a++l.drop b=l:=J (tL C)<|J (rV _ _) rfl
theorem Qz {a b d:Nat}{l:List aR}(ai:a<=b)(ao:b<=d)(a7:b<=l.length):(l.take d).drop a=(l.take b).drop a++(l.take d).drop b:=by exact a6 (tL ao (l:=l))<|J (B1<|by rw[qC];exact bS 881134571360513 ai a7 rfl)<|J (tL ao) rfl
theorem FH {e:Nat}{aw post pre:List aR}(C:e<=pre.length):(pre++aw++post).take e=(pre++post).take e:=by exact J (aaG _ _ _)<|J (xf C)<|J (xf C) rfl
theorem Hf {e:Nat}{aw post pre:List aR}(C:pre.length<=e):(pre++aw++post).take (e+aw.length)=pre++aw++post.take (e -pre.length):=by exact J (by rw[nb];exact bS 2320763463917899907 C rfl:e+aw.length=(pre++aw).length+(e -pre.length))<|J (B2 _) rfl
theorem yJ (C:pre.length<=e)(aH:List aR):(pre++aw++aH).drop (e+aw.length)=aH.drop (e -pre.length):=by exact J (by rw[nb];exact bS 2320763463917899907 C rfl:e+aw.length=(pre++aw).length+(e -pre.length))<|J (LQ _) rfl
theorem Ae {e:Nat}{post pre:List aR}(C:pre.length<=e):(pre++post).take e=pre++post.take (e -pre.length):=by conv=>lhs;rw[show e=pre.length+(e -pre.length) by exact b1 17751117797379 C rfl,B2]
theorem Ad (C:pre.length<=e)(aH:List aR):(pre++aH).drop e=aH.drop (e -pre.length):=by conv=>lhs;rw[show e=pre.length+(e -pre.length) by exact b1 17751117797379 C rfl,LQ]
theorem SR {e s:Nat}{aw post pre:List aR}(C:pre.length<=s)(av:s<=e):((pre++aw++post).take<|e+aw.length).drop (s+aw.length)=((pre++post).take e).drop s:=by exact J (Hf<|nf C av)<|J (yJ C _)<|J (Ae<|nf C av)<|J (Ad C _) rfl
theorem pre_take {b c a:List aR}:(a++b++c).take a.length=a:=J (aaG _ _ _)<|J B3 rfl
theorem yK {e:Nat}{aw post pre:List aR}(C:pre.length<=e):((pre++aw++post).take<|e+aw.length).drop (pre.length+aw.length)=post.take (e -pre.length):=by exact J (Hf C)<|J (yJ (nu _) _)<|J (abk _)<|J kW rfl
theorem Jq {b c a:List aR}:(a++b++c).drop (a.length+b.length)=c:=a6 nb<|J abt rfl
theorem SQ {e s:Nat}{aw post pre:List aR}(C:s<=pre.length)(av:pre.length<=e):((pre++aw++post).take pre.length).drop s++((pre++aw++post).take<|e+aw.length).drop (pre.length+aw.length)=((pre++post).take e).drop s:=by exact J pre_take<|J (yK av)<|J (Ae av)<|J (B1 C) rfl
theorem V8 {aw post pre:List aR}{k:Nat}(C:k<=pre.length):(pre++aw++post).take (k+aw.length)++((pre++aw++post).take pre.length).drop k++(pre++aw++post).drop (max (k+aw.length)<|pre.length+aw.length)= (pre++aw++post).take k++((pre++aw++post).take<|k+aw.length).drop k++(((pre++aw++post).take pre.length).drop k++(pre++aw++post).drop (pre.length+aw.length)):=by exact J (pl<|xg C _)<|J (tL<|w2 k _)<|J (aaG _ _ _) rfl
theorem V9 {aw post pre:List aR}{k:Nat}(C:k<=pre.length):((pre++aw++post).take pre.length).drop k++(pre++aw++post).drop (pre.length+aw.length)=(pre++post).drop k:=by exact J pre_take<|J Jq<|J (B1 C) rfl
theorem Wb {aw post pre:List aR}{k:Nat}(C:pre.length<=k):(pre++aw++post).take pre.length++((pre++aw++post).take<|k+aw.length).drop (pre.length+aw.length)++(pre++aw++post).drop (max pre.length k)= (pre++aw++post).take pre.length++((pre++aw++post).take<|k+aw.length).drop (pre.length+aw.length)++((pre++aw++post).take<|k+aw.length).drop k++(pre++aw++post).drop (k+aw.length):=by
 refine J (pl C)<|J (aaG _ (LR k _) _) ?_;congr 1;have:=congrArg (LR k)<|rV (k+aw.length)<|pre++aw++post;by_cases X:k<=((pre++aw++post).take<|k+aw.length).length
 ·rw[B1 X] at this;exact this.symm
 ·rw[qC,nb,nb] at X;refine J (jf<|by simp only[nb];exact dH 155994979156774407440513 X rfl)<|J (jf<|by simp only[qC,nb];exact bC 114945 X)<|J (jf<|by simp only[nb];exact dH 39934714664134240102320257 X rfl) ?_;rfl
theorem Wc {aw post pre:List aR}{k:Nat}(C:pre.length<=k):(pre++aw++post).take pre.length++((pre++aw++post).take<|k+aw.length).drop (pre.length+aw.length)=(pre++post).take k:=by exact J pre_take<|J (yK C)<|J (Ae C) rfl
theorem Wa {aw post pre:List aR}{k:Nat}(C:pre.length<=k):(pre++aw++post).drop (k+aw.length)=(pre++post).drop k:=J (yJ C _)<|J (Ad C _) rfl
theorem aad {aR:Type}{aw post pre:List aR}{m:List aR}:(pre++aw++post).take (pre.length+aw.length)++m++(pre++aw++post).drop (max (pre.length+aw.length)<|pre.length+aw.length)=pre++(aw++m)++post:=by exact J (Nat.max_self _)<|J Jq<|a6 nb<|J B3<|J (aaG pre _ _) rfl
theorem Tl {aR:Type}{W B aw:List aR}{k:Nat}{cs:List aR}(C:W.length=k)(av:cs.length<=aw.length):(W++aw++B).take k++cs++(W++aw++B).drop (max k<|k+cs.length)=W++cs++aw.drop cs.length++B:=by exact a6 C<|J pre_take<|J (pl<|w2 _ _)<|J (aaG W aw _)<|J (LQ _)<|J (B1 av)<|J (aaG (W++cs) _ _) rfl
theorem QD {e s:Nat}{post pre:List aR}(C:s<=pre.length)(av:pre.length<=e):(pre++post).take s++(pre++post).drop e=pre.take s++post.drop (e -pre.length):=by exact J (xf C)<|J (Ad av _) rfl
theorem QE {aw post pre:List aR}{k s:Nat}(C:s<=pre.length):pre++aw++post=pre.take s++(pre.drop s++aw++post.take k)++post.drop k:=by simp only[<-aaG,rV];simp only[aaG,rV]
theorem VT (C:e<=pre.length -b):aw++pre.take e++(pre.take<|pre.length -b).drop e++(pre.drop (pre.length -b)++bw)=aw++pre++bw:=by exact J (aaG aw _ _)<|J (tL C)<|J (aaG aw _ _)<|a6 (aaG (B4 _ _) _ _)<|J (rV _ _)<|J (aaG aw _ _) rfl
def xW (L D ae:Addr->Prop)(a:Addr):O->Prop
 |.list _=>¬ L a
 |.cu _=>¬ D a
 |.gD _=>¬ D a
 |.attrs K _=>¬ ae K
 |_=>True
structure Fr (L D ae:Addr->Prop)(I Z:az):Prop where
 keep:∀a o,I a=kZ o->xW L D ae a o->Z a=kZ o
 hI:∀a o,I a=kZ o->∃q,Z a=kZ q
variable{D:Addr->Prop}
theorem Fr.cv (x:bp I Z):Fr L D aF I Z:=⟨λa o C q=>x a o C,λa o C=>⟨o,x a o C⟩⟩
theorem Fr.trans (x:Fr L D aF I au)(y:Fr L D aF au Z):Fr L D aF I Z:= ⟨λa o C s=>y.keep a o (x.keep a o C s) s,λa o C=>cO (x.hI a o C) λq av=>y.hI a q av⟩
theorem Fr.none (x:Fr L D aF I Z)(C:Z a=By):I a=By:=by
 cases e:I a with
 |none=>rfl
 |some o=>obtain⟨q,aW⟩:=x.hI a o e;rw[aW] at C;exact g4 C
theorem Fr.upd {h q:O}(u:Upd I Z a q)(C:I a=kZ h)(ax:¬ xW L D aF a h):Fr L D aF I Z:=by
 refine⟨λb b4 aA s=>?_,λb b4 aA=>?_⟩
 ·by_cases X:b=a
  ·subst X;rw[aA] at C;cases C;exact(ax s).elim
  ·refine J (u.ne X) ?_;exact aA
 ·by_cases X:b=a
  ·clear C ax;subst X;exact⟨_,u.at⟩
  ·exact⟨b4,by refine J (u.ne X) ?_;exact aA⟩
theorem Fr.lB {q:O}(u:Upd I Z a q)(C:I a=kZ (.list aa))(ax:L a):Fr L D aF I Z:=.upd u C λs=>s ax
theorem Fr.iK {ae:Addr->Prop}{q:O}(u:Upd I Z a q)(C:I a=kZ (.attrs l a1))(ax:ae l):Fr L D ae I Z:=.upd u C λs=>s ax
theorem Fr.tT {q:O}(u:Upd I Z a q)(C:I a=kZ (.cu aP))(ax:D a):Fr L D aF I Z:=.upd u C λs=>s ax
variable{aH:Addr->Prop}
theorem Fr.mono {c:Addr->Prop}{b:Addr->Prop}(x:Fr L D c I Z)(cj:∀a,L a->aF a)(O:∀a,D a->aH a)(H:∀a,c a->b a):Fr aF aH b I Z:= ⟨λa o C s=>x.keep a o C (by clear C;cases o<;>first|exact trivial|exact λX=>s (cj _ X)|exact λX=>s (O _ X)|exact λX=>s<|H _ X),x.hI⟩
theorem Fr.list {ae D L:Addr->Prop}{I Z:az}(x:Fr L D ae I Z){a:Addr}{aa:List V}(C:I a=kZ (.list aa))(n:¬ L a):Z a=kZ (.list aa):=x.keep _ _ C n
theorem Fr.inst (x:Fr L D aF I Z)(C:I a=kZ (.inst l cl)):Z a=kZ (.inst l cl):=x.keep _ _ C trivial
theorem Fr.tup {ae D L:Addr->Prop}{I Z:az}(x:Fr L D ae I Z){a:Addr}{aa:List V}(C:I a=kZ (.tup aa)):Z a=kZ (.tup aa):=x.keep _ _ C trivial
theorem Fr.attrs (x:Fr L D aF I Z)(C:I a=kZ (.attrs l a1))(n:¬ aF l):Z a=kZ (.attrs l a1):=x.keep _ _ C n
theorem Fr.cu (x:Fr L D aF I Z)(C:I a=kZ (.cu aP))(n:¬ D a):Z a=kZ (.cu aP):=x.keep _ _ C n
theorem eF.fr {ae:Addr->Prop}(C:eF aF I)(x:Fr L D ae I Z):eF aF Z:=λa m=>cO (C a m) λo e=>x.hI a o e
theorem IsL.fr {ae:Addr->Prop}(C:IsL aF I u xs)(x:Fr L D ae I Z)(M:∀a,L a->aF a):IsL aF Z u xs:= eK C λa e n g=>⟨a,e,n,x.list g λl=>n<|M a l⟩
structure hb (g bs cl:Addr)(I:az)(pre aw post:List Int):Prop where
 aL:I g=kZ (.inst 922 bs)
 hd:I bs=kZ (.attrs 922 (hk (.int 8) (.ref cl) (.int (pre.length:Nat)) (.int (pre.length+aw.length:Nat))))
 aU:I cl=kZ (.list (bm (pre++aw++post)))
 aj:pre.length+aw.length+post.length<=150000
abbrev b2 (cl:Addr):Addr->Prop:=λa=>a=cl
abbrev No:Addr->Prop:=λq=>False
abbrev lI:Addr->Prop:=λa=>a=922
variable{t:List Int}
theorem hb.grow (G:hb a bs cl I t A xs)(x:bp I Z):hb a bs cl Z t A xs:=⟨x _ _ G.aL,x _ _ G.hd,x _ _ G.aU,G.aj⟩
theorem hb.an (G:hb a bs cl I t A xs):(t++A++xs).length<=150000:=by refine J nb<|J nb ?_;exact G.aj
structure ip (g bs cl:Addr)(I:az)(xs:List Int)(a b:Nat):Prop where
 aL:I g=kZ (.inst 922 bs)
 hd:I bs=kZ (.attrs 922 (hk (.int 8) (.ref cl) (.int a) (.int b)))
 aU:I cl=kZ (.list (bm xs))
theorem hb.n (G:hb a bs cl I t A xs):ip a bs cl I (t++A++xs) t.length (t.length+A.length):=⟨G.aL,G.hd,G.aU⟩
theorem ip.grow (G:ip ae bs cl I xs e b)(x:bp I Z):ip ae bs cl Z xs e b:=⟨x _ _ G.aL,x _ _ G.hd,x _ _ G.aU⟩
theorem kQ (e:pt=last)(C:ab (.int last) I):ab (.int pt) I:=e▸C
theorem kw (G:ip ae bs cl I xs e b)(C:ad (.ref cl)):d2 I ae "cells" ad:=di G.aL G.hd UX C
theorem iw (G:ip ae bs cl I xs e b)(C:ad (.int e)):d2 I ae "gap_start" ad:=di G.aL G.hd UZ C
theorem ju (G:ip ae bs cl I xs e b)(C:ad (.int b)):d2 I ae "gap_end" ad:=di G.aL G.hd UY C
theorem He (G:ip ae bs cl I xs e b)(C:ad (.int 8)):d2 I ae "room" ad:=di G.aL G.hd U0 C
theorem vj (H:a2 c)(G:ip l bs cl I xs aD b)(k:Nat)(e:pt=k)(C:∀Z,Fr (b2 cl) No lI I Z->ip l bs cl Z xs k b->cd Z): ∃aF d ah,I l=kZ (.inst aF d)/\I d=kZ (.attrs aF ah)/\fS c.K aF "gap_start"=true/\ah.length<900/\∀D,Upd I D d (.attrs aF<|bF "gap_start" (.int pt) ah)->cd D:= ie G.aL G.hd (H.d 63) (by refine J H6 ?_;decide) λD u=>C D (.iK u G.hd rfl) ⟨u.keep G.hd G.aL,J u.at<|J XV<|J e rfl,u.keep G.hd G.aU⟩
theorem vk (H:a2 c)(G:ip l bs cl I xs aD b)(k:Nat)(e:pt=k)(C:∀Z,Fr (b2 cl) No lI I Z->ip l bs cl Z xs aD k->cd Z): ∃aF d ah,I l=kZ (.inst aF d)/\I d=kZ (.attrs aF ah)/\fS c.K aF "gap_end"=true/\ah.length<900/\∀D,Upd I D d (.attrs aF<|bF "gap_end" (.int pt) ah)->cd D:= ie G.aL G.hd (H.d 64) (by refine J H6 ?_;decide) λD u=>C D (.iK u G.hd rfl) ⟨u.keep G.hd G.aL,J u.at<|J XU<|J e rfl,u.keep G.hd G.aU⟩
theorem Xw (aO:aa.length=e):m3 (gI e (kZ (i:Int))<|kZ (b:Int)).1 (gI e (kZ (i:Int))<|kZ (b:Int)).2 am aa=aa.take i++am++aa.drop (max i b):=by
 unfold m3 gI;simp only[cg,uT];subst aO;congr 1
 ·congr 1;refine m5 BS ?_;exact bS 3368917491971 rfl rfl
 ·by_cases C:max i b<=aa.length
  ·exact J (by exact hN 42719198665143610566054147 C rfl rfl rfl rfl:max (min i aa.length) (min b aa.length)=max i b) rfl
  ·exact J (jf (by exact bC 114945 C:aa.length<=max i b))<|J (jf<|by exact hN 4032982141682710722298113 C rfl rfl rfl rfl) rfl
theorem qp (C:I l=kZ (.list<|bm xs))(T c:Nat)(f:pt=T)(a:last=c)(aj:xs.length<=1000000)(ad:∀e D,bp I D->I e=By->D e=kZ (.list<|bm<|(xs.take c).drop T)->ch e D): ∃aa,I l=kZ (.list aa)/\aa.length<=gW/\∀e D,ei I D e (.list<|cut (kZ pt) (kZ last) aa)->ch e D:= tS C (q9 aj) λe D n=>ad e D n.ext n.1<|J n.at<|J f<|J a<|J Gv<|J yX<|J yW rfl
theorem vi (G:ip l bs cl I xs e b)(hm:I ae=kZ (.list<|bm A))(aX:ae≠cl)(T c:Nat)(f:pt=T)(a:last=c)(aj:xs.length+A.length<=1000000) (C:∀Z,Fr (b2 cl) No lI I Z->ip l bs cl Z (xs.take T++A++xs.drop (max T c)) e b->Z ae=kZ (.list<|bm A)->cd Z): ∃aa d,cl≠ae/\I cl=kZ (.list aa)/\I ae=kZ (.list d)/\aa.length+d.length<=gW/\∀D,Upd I D cl (.list<|m3 (gI aa.length (kZ pt)<|kZ last).1 (gI aa.length (kZ pt)<|kZ last).2 d aa)->cd D:= (AY _ _ (us aX) G.aU hm (by refine J eb<|J eb<|J wT ?_;exact nf aj<|by decide) λD u=>C D (.lB u G.aU rfl) ⟨u.keep G.aU G.aL,u.keep G.aU G.hd,J u.at<|J f<|J a<|J (Xw rfl)<|J yX<|J yW<|J pY<|J pY rfl⟩<|(u.ne aX).trans hm)
theorem JU (H:a2 c)(G:hb a bs cl I t A xs)(ad:ab (.int (t++xs).length) I):be c 1 (.ref 856) [.ref a] ab I:= Od (n:=0) H<|kw G.n<|ed G.aU (nf G.an<|by decide)<|ju G.n<|dC<|iw G.n<|dt<|kQ (by refine J nb<|J nb<|J nb ?_;exact lq 9603881460338440841609) ad
theorem Qn (H:a2 c)(G:hb a bs cl I t A xs)(ap:(t++xs)[e]?=kZ pt)(ad:ab (.int pt) I):be c 1 (.ref 863) [.ref a,.int e] ab I:=by
 have N:(t++A++xs).length<=1000000:=nf G.an (by decide);refine N7 (n:=0) H<|iw G.n<|cx (λC=>kw G.n<|ll G.aU ?_ N ad) λC=>kw G.n<|iw G.n<|dC<|ju G.n<|dt<|Hv G.aU (k:=e+A.length) (lq 146545214564116873) ?_ N ad
 ·have C:=qG.mp C;refine J (aaG _ _ _)<|J (Bu C) ?_;rwa[Bu C] at ap
 ·have C:=qD.mp<|aa1.mp C;refine J (kU<|by rw[nb];exact xg C _)<|J nb<|J (Nat.add_sub_add_right _ _ _) ?_;rwa[kU C] at ap
theorem Gn (H:a2 c)(G:hb ae bs cl I t A xs)(ax:i<=e)(he:e<=(t++xs).length)(ad:lR ab I (((t++xs).take e).drop i)):be c 1 (.ref 870) [.ref ae,.int i,.int e] ab I:=by
 have N:(t++A++xs).length<=1000000:=nf G.an (by decide);refine N8 (n:=0) H<|ju G.n<|iw G.n<|dC<|iw G.n<|cx (λC=>kw G.n<|qp G.aU i e rfl rfl N λa au U s aI=>?_) λC=>iw G.n<|cx (λav=>kw G.n<|qp G.aU (i+A.length) (e+A.length) (lq 146544705460046473) (lq 146544705460046473) N λa au U s aI=>?_) λav=>kw G.n<|iw G.n<|qp G.aU i t.length rfl rfl N λa au U s aI=>?_
 ·rw[FH<|qD.mp C] at aI;exact ad _ _ U s aI
 ·rw[SR (qD.mp av) ax] at aI;exact ad _ _ U s aI
 ·have f:=G.n.grow U;refine kw f<|ju f<|qp f.aU (t.length+A.length) (e+A.length) rfl (lq 146544705460046473) N λb aS aR aT bd=>hu (aR _ _ aI) bd (fl<|fZ G.an) (fl<|fZ G.an) rfl λd aM bj a9 bn=>?_;rw[SQ (rW<|qG.mp<|LK.mp av)<|rW<|qG.mp<|LK.mp C] at bn;exact ad _ _ ((U.trans aR).trans bj) ((U.trans aR).none a9) bn
theorem ip.p (G:ip ae bs cl I (t++A++xs) e b)(aE:e=t.length)(aA:b=e+A.length)(aj:(t++xs).length+A.length<=150000):hb ae bs cl I t A xs:= ⟨G.aL,J G.hd<|J aA<|J aE rfl,G.aU,by rw[nb] at aj;exact b1 12398982077136046209 aj⟩
theorem VV (C:e+b<=aw.length):((aw.take<|e+b).drop e).length=b:=J BU<|J qC<|J (ke C)<|J (kh _ _) rfl
theorem zF (H:a2 c)(G:hb ae bs cl I t A xs)(ap:e<=t.length+xs.length) (ad:∀i Z,Fr (b2 cl) No lI I Z->hb ae bs cl Z ((t++xs).take e) i ((t++xs).drop e)->i.length=A.length->ab .none Z):be c 1 (.ref 877) [.ref ae,.int e] ab I:=by
 have aj:=G.aj;have N:(t++A++xs).length<=1000000:=nf G.an (by decide);have bt:((((t++A++xs).take<|e+A.length).drop e)).length=A.length:=VV (by refine J nb<|J nb ?_;exact bS 14214568239173761 ap);have fin:∀{au:az},Fr (b2 cl) No lI I au->ip ae bs cl au ((t++xs).take e++((t++A++xs).take<|e+A.length).drop e++(t++xs).drop e) e (e+A.length)->ab .none au:=λF f=> ad _ _ F (f.p (J qC<|J nb<|J (ke ap) rfl) (J bt rfl)<|by refine J (rV _ _)<|J bt<|J nb ?_;exact b1 12398982077136046209 aj) bt;refine Oc (n:=0) H<|iw G.n<|cx (λC=>kw G.n<|iw G.n<|qp G.aU e t.length rfl rfl N λa au U s aI=>?_) λC=>kw G.n<|ju G.n<|ju G.n<|dt<|iw G.n<|dC<|qp G.aU (t.length+A.length) (e+A.length) rfl (lq 83493213453199513) N λa au U s aI=>?_
 ·have C:=rW<|qG.mp C;have f:=G.n.grow U;have hm:(((t++A++xs).take t.length).drop e).length=t.length -e:=J pre_take<|J BU rfl;have h:(((t++A++xs).take t.length).drop e).length<=150000:=by refine J hm ?_;exact dH 4685340318508362753 aj rfl
  refine kw f<|ju f<|ed aI (nf h<|by decide)<|dC<|ju f<|vi f aI (de G.aU s).symm (e+A.length) (t.length+A.length) (by refine J hm ?_;exact bS 3637709724032631980460697 ‹_› rfl) rfl (nf (abj G.an h)<|by decide) λaS g d bd=>?_;refine ju d<|ed bd (nf h<|by decide)<|dC<|vk H d (e+A.length) (by refine J hm ?_;exact bS 3637709724032631980460697 ‹_› rfl) λaM a7 B=>vj H B e rfl λay bK aq=>?_;rw[V8 C,FH C,V9 C] at aq;exact fin (((Fr.cv U).trans g).trans<|a7.trans bK) aq
 ·have C:=qD.mp<|aa1.mp C;have f:=G.n.grow U;have hm:(((t++A++xs).take<|e+A.length).drop<|t.length+A.length).length=e -t.length:=by refine J (yK C)<|J qC ?_;exact dH 4685487529233879299 ap rfl rfl
  have h:(((t++A++xs).take<|e+A.length).drop<|t.length+A.length).length<=150000:=by refine J hm ?_;exact dH 2495083779879608249330689 ap aj rfl
  refine kw f<|iw f<|iw f<|ed aI (nf h<|by decide)<|dt<|vi f aI (de G.aU s).symm t.length e rfl (by refine J hm ?_;exact b1 2400597453122964105 ‹_› rfl) (nf (abj G.an h)<|by decide) λaS g d bd=>?_;refine ju d<|ed bd (nf h<|by decide)<|dt<|vk H d (e+A.length) (by refine J hm ?_;exact bS 237605856929437380020873 ‹_› rfl) λaM a7 B=>vj H B e rfl λay bK aq=>?_;rw[Wb C,Wc C,Wa C] at aq;exact fin (((Fr.cv U).trans g).trans<|a7.trans bK) aq
theorem aae (H:a2 c)(G:hb ae bs cl I t A xs)(ap:t.length+xs.length+e<=140000) (ad:∀i Z,Fr (b2 cl) No lI I Z->hb ae bs cl Z t i xs->e<=i.length->ab .none Z):be c 1 (.ref 884) [.ref ae,.int e] ab I:=by have aj:=G.aj;refine Oe (n:=0) H<|ju G.n<|iw G.n<|dC<|dC<|cx (p:=0<(e:Int) -(((t.length+A.length:Nat):Int) -(t.length:Nat))) (λC=>dA rfl rfl λa au U s aI=>?_) λC=>ad A I (.cv .refl) G<|b1 189477365819089153 C;intros y;have f:=G.n.grow U;obtain⟨m,hm⟩:∃m:Nat,m=e -A.length+8:=⟨_,rfl⟩;have h:m<=150000:=ff 432360763766190366657342632984947713 ap hm rfl;refine He f<|dt<|fx aI (m:=m) (dH 47162152407877586325427283566938069675522722408841 C hm rfl) (nf h<|by decide) λb aS aR aT bd=>?_;have d:=f.grow aR;have an:(A++dr m (0:Int)).length=A.length+m:=J nb<|J hA rfl;refine kw d<|ju d<|ju d<|vi d bd (de f.aU aT).symm (t.length+A.length) (t.length+A.length) rfl rfl (nf (abj G.an<|lz h)<|by decide) λaM a7 B bn=>ju B<|dt<|He B<|dt<|vk H B (t.length+(A.length+m)) (dH 1834887646486207952841545045546100049855089155930153042880649 C hm rfl) λay bK aq=>?_;rw[aad] at aq;exact ad _ ay (((Fr.cv<|U.trans aR).trans a7).trans bK) (aq.p rfl (J an rfl)<|by refine J an<|J nb ?_;exact ff 890861828219507601329977311943438429489485806231535814785 ap C hm rfl) (by refine J an ?_;exact bS 18685576568590440449 hm rfl)
def gO (g bs cl:Addr)(I:az)(A:List Int):Prop:=∃aC xs t,A=aC++t/\hb g bs cl I aC xs t
theorem hb.So (G:hb a bs cl I t A xs)(x:Fr L D aF I Z)(cj:¬ L cl)(H:¬ aF 922):hb a bs cl Z t A xs:=⟨x.inst G.aL,x.attrs G.hd H,x.list G.aU cj,G.aj⟩
theorem Tp (H:a2 c)(G:gO ae bs cl I A)(aB:I a=kZ (.list<|bm xs))(s:a≠cl)(ap:e<=A.length)(aj:A.length+xs.length<=100000) (ad:∀Z,Fr (b2 cl) No lI I Z->gO ae bs cl Z (A.take e++xs++A.drop e)->ab .none Z):be c 2 (.ref 891) [.ref ae,.int e,.ref a] ab I:=by refine bP λbz aN=>?_;obtain⟨pre,aw,post,rfl,G⟩:=G;refine aN ?_;rw[nb] at ap aj;have j:xs.length<=1000000:=b1 13203140615169 aj;refine Ob (n:=1) H<|dd G.aL G.hd Wp (H.m 9)<|ed aB j<|ca<|aae H G (b1 14663104808313209091065985 aj) λh au ba f bt=>dd f.aL f.hd zQ (H.m 8)<|ca<|zF H f ap λq aS g d l=>?_;have i:=g.list (ba.list aB s) s;have a5:((pre++post).take e).length=e:=J qC<|J nb<|J (ke ap) rfl;have z:xs.length<=q.length:=l▸bt;refine kw d.n<|ed i j<|dt<|vi d.n i s e (e+xs.length) rfl rfl (nf (abj d.an<|nf (w4 ..) aj)<|by decide) λaM a7 B b=>ed b j<|dt<|vj H B (e+xs.length) rfl λay bK aq=>?_;rw[Tl a5 z] at aq;have o:=d.aj;exact ad ay (((ba.trans g).trans a7).trans bK)<|i9 _ _ _ rfl<|aq.p (J nb<|J a5 rfl) (J a5<|J BU<|J (BZ _ _ _)<|J (iN z) rfl) (by simp only[nb,BU,a5] at o⊢;exact ff 430182970482049234367034604685441 bt l o rfl)
theorem QJ (H:a2 c)(G:gO ae bs cl I A)(ax:b<=e)(he:e<=A.length)
  (ad:∀a Z,Fr (b2 cl) No lI I Z->gO ae bs cl Z (A.take b++A.drop e)->I a=By->Z a=kZ (.list<|bm<|(A.take e).drop b)->ab (.ref a) Z):be c 2 (.ref 898) [.ref ae,.int b,.int e] ab I:=by
 refine bP λbz aN=>?_
 obtain⟨pre,aw,post,rfl,G⟩:=G
 refine aN<|N9 (n:=1) H<|dd G.aL G.hd IW (H.m 7)<|ca<|Gn H G ax he λa au U na aE=>?_
 rw[nb] at he
 have f:=G.grow U
 have aX:a≠cl:=(de G.aU na).symm
 --ce last two u,from b<=s<=e on
 have last:∀{h i j:List Int} {aS:az},Fr (b2 cl) No lI au aS->hb ae bs cl aS h i j->h++j=pre++post->b<=h.length->h.length<=e->xE (dI c 1 ab) [.ref ae,.int b,.int e,.ref a] [] aS:=λ{h i j aS} g d a8 ai ao=>by
  have r:h.length+j.length=pre.length+post.length:=a6 nb<|J a8<|J nb rfl
  have t:e -h.length<=j.length:=ff 24208196848858330960129 he r rfl
  have cj:(h.drop b++i++j.take (e -h.length)).length=h.length -b+i.length+(e -h.length):=J nb<|J nb<|J BU<|J qC<|J (ke t) rfl
  refine ju d.n<|dt<|iw d.n<|dC<|vk H d.n (i.length+e) (lq 151047207863756953) λaM a7 B=>vj H B b rfl λay bK aq=>?_
  rw[QE (k:=e -h.length) ai] at aq
  have o:=d.aj
  refine ad a ay (((Fr.cv U).trans g).trans<|a7.trans bK) (i9 _ _ _ (by refine a6 a8 ?_;exact QD ai ao)<|aq.p (J qC<|J (ke ai) rfl) (by refine J cj ?_;exact ff 184246435485743254805036929155 ai ao rfl rfl)<|by refine J cj<|J nb<|J qC<|J BU<|J (ke ai) ?_;exact hN 1750957170817423284162759629194626402433 ai t o rfl rfl) na<|(g.trans<|a7.trans bK).list aE aX
 have L:∀{k},(pre++post).take k++(pre++post).drop k=pre++post:=rV ..
 refine iw f.n<|cx (λC=>dd f.aL f.hd zQ (H.m 8)<|ca<|zF H f he λq aS g d l=>iw d.n ?_) λC=>iw f.n<|cx (λav=>dd f.aL f.hd zQ (H.m 8)<|ca<|zF H f (nf ax he) λq aS g d l=>?_) λav=>?_
 ·have a5:((pre++post).take e).length=e:=by exact J qC<|J nb<|J (ke he) rfl
  exact cr (p:=((((pre++post).take e).length:Nat):Int)<(b:Nat)) (by refine J a5 ?_;exact λC=>ep.mpr ax<|qG.mp C)<|last g d L (by refine J a5 ?_;exact ax) (by refine J a5 ?_;exact nu _)
 ·have a5:((pre++post).take b).length=b:=by exact J qC<|J nb<|J (ke<|nf ax he) rfl
  exact last g d L (by refine J a5 ?_;exact nu _) (by refine J a5 ?_;exact ax)
 ·exact last (.cv .refl) f rfl (qD.mp<|aa1.mp av)<|qD.mp<|aa1.mp C
theorem Mh (H:a2 c)(aB:I ae=kZ (.list []))(ad:∀l bs cl Z,bp I Z->I l=By->I bs=By->I cl=By->gO l bs cl Z []->ab (.ref l) Z):be c 2 (.ref 922) [.ref ae,.int 8] ab I:=by refine mY H.ok (H.k 4) λa d au m=>Oa (n:=0) H<|eW m (H.d 61) (by ext) ?_;intro p aS e;have i:=e.ext _ _ aB;refine(c7 _ (.inl i) (BK _) λb aM a9=>dA rfl rfl λq ay bf bq a3=>fx a3 (m:=8) rfl (by decide) λR bh bD y bE=>hu (xs:=[]) (bD _ _<|bf _ _ a9.at) bE (nu 0) (lz<|nu 8) rfl λcl bv bL h az=>?_);have x:=((a9.ext.trans bf).trans bD).trans bL;have aD:I cl=By:=e.ext.none<|((a9.ext.trans bf).trans bD).none h;refine gm (e.grow x) (H.d 62) (by ext) ?_;intro f bO t o;refine ed (xs:=[]) (o.ext _ _ aB) (BK _)<|gm o (H.d 63) (by ext) ?_;intro w bz r s;refine ed (xs:=[]) (s.ext _ _ aB) (BK _)<|dt<|gm s (H.d 64) (by ext) ?_;intro g aO u j;exact⟨rfl,ad a d cl _ j.ext j.na j.d5 aD ⟨[],dr 8 0,[],rfl,j.d3,(j.as Vo).id,u (r (t az nofun) nofun) nofun,by decide⟩⟩
structure mD where
 b:Addr
 bd:Addr
 g:Addr
 bs:Addr
 cl:Addr
 m:Addr
 kJ:Addr
 ee:Addr
 ls:Addr
structure hc where
 num:Int
 a:Addr
 d:Addr
 pos:Int
structure f3 (W:mD)(I:az)(af:List hc):Prop where
 hm:I W.m=kZ (.inst 201 W.kJ)
 ib:I W.kJ=kZ (.attrs 201 (lb (.ref W.ee)))
 fU:I W.ee=kZ (.cu (af.map fun e=>(e.num,.ref e.a)))
 fv:∀e∈af,I e.a=kZ (.inst 133 e.d)/\I e.d=kZ (.attrs 133 (f5 (.int e.num) (.bool false) (.ref W.b) (.int e.pos)))
 nn:(af.map (·.num)).Nodup
 d5:(af.map (·.d)).Nodup
 nl:af.length<60
abbrev kj:Addr->Prop:=λa=>a=133
variable{W:mD}{af:List hc}
theorem f3.fr {ae:Addr->Prop}(C:f3 W I af)(x:Fr L D ae I Z)(O:¬ D W.ee)(ai:¬ ae 201)(ao:¬ ae 133):f3 W Z af:= ⟨x.inst C.hm,x.attrs C.ib ai,x.cu C.fU O,λe he=>⟨x.inst (C.fv e he).1,x.attrs (C.fv e he).2 ao⟩,C.nn,C.d5,C.nl⟩
theorem vX (C:f3 W I af)(aP:ad (.ref W.ee)):d2 I W.m "rows" ad:=di C.hm C.ib Ii aP
variable{U:hc}
theorem lm (C:f3 W I af)(he:U∈af)(aP:ad (.int U.pos)):d2 I U.a "position" ad:=di (C.fv U he).1 (C.fv U he).2 U6 aP
theorem TT (C:f3 W I af)(he:U∈af)(aP:ad (.bool false)):d2 I U.a "advances" ad:=di (C.fv U he).1 (C.fv U he).2 U4 aP
theorem tf (H:a2 c)(C:f3 W I af)(he:U∈af)(aP:∀D,Upd I D U.d (.attrs 133<|f5 (.int U.num) (.bool false) (.ref W.b)<|.int pt)->cd D): ∃ae d ah,I U.a=kZ (.inst ae d)/\I d=kZ (.attrs ae ah)/\fS c.K ae "position"=true/\ah.length<900/\∀D,Upd I D d (.attrs ae<|bF "position" (.int pt) ah)->cd D:= ie (C.fv U he).1 (C.fv U he).2 (H.d 72) (by refine J zi ?_;decide) λD u=>aP D<|Ju▸u
theorem z1 (H:a2 c)(C:f3 W I af)(ad:∀a out Z,bp I Z->I a=By->tc (af.map (·.num)) out->Z a=kZ (.list<|bm out)->ab (.ref a) Z):be c 1 (.ref 156) [.ref W.m] ab I:=by exact Ol (n:=0) H (vX C (c7 (af.map (·.num)) (.inr<|bb _ C.fU<|by refine J uj ?_;rfl) (by refine J (aa0 _) ?_;exact uh C.nl<|by decide) λout aw a au s=>ad _ _ _ s.ext s.1 aw s.at))
noncomputable def upTo (f:Int->Int)(seen:List Int)(af:List hc):List hc:=af.map λe=>if e.num∈seen then{e with pos:=f e.pos} else e
noncomputable def d6 (f:Int->Int)(af:List hc):List hc:=af.map λe=>{e with pos:=f e.pos}
variable{bn:Int->Int}
theorem AW:(upTo bn A af).map (·.num)=af.map (·.num):=by unfold upTo;refine J uj ?_;apply qF;intro e q;simp only[BD];split<;>rfl
theorem AV:(upTo bn A af).map (·.d)=af.map (·.d):=by unfold upTo;refine J uj ?_;apply qF;intro e q;simp only[BD];split<;>rfl
theorem wE:(upTo bn A af).map (λe=>(e.num,V.ref e.a))=af.map (λe=>(e.num,V.ref e.a)):=by unfold upTo;refine J uj ?_;apply qF;intro e q;simp only[BD];split<;>rfl
theorem zT {f:aR->cQ}(C:(aw.map f).Nodup)(aE:aN∈aw)(aA:h2∈aw)(e:f aN=f h2):aN=h2:=by
 induction aw with
 |nil=>cases aE
 |cons x aw D=>
  replace C:=aaK.mp C;rcases Q8.mp aE with ai|ai<;>rcases Q8.mp aA with ao|ao
  ·exact ai.trans ao.symm
  ·exact(C.1<|by refine a6 ai<|J e ?_;exact xh ao).elim
  ·exact(C.1<|by refine a6 ao<|a6 e ?_;exact xh ai).elim
  ·exact D C.2 ai ao
theorem Ar (C:(af.map (·.num)).Nodup)(he:U∈af):(af.map λU=>(U.num,V.ref U.a)).lookup U.num=kZ (.ref U.a):=by
 induction af with
 |nil=>cases he
 |cons x af D=>
  replace C:=aaK.mp C;refine J n8<|J wQ ?_;rcases Q8.mp he with rfl|he
  ·simp
  ·have:(U.num==x.num)=false:=by apply beq_eq_false_iff_ne.mpr;intro X;exact C.1 (yB.mpr ⟨U,he,X⟩)
   exact J this<|D C.2 he
theorem Iw {f:Int->Int}{seen:List Int}{e:hc}(C:f3 W I (upTo f seen af))(he:e∈af)(ax:e.num∉seen) (u:Upd I Z e.d (.attrs 133<|f5 (.int e.num) (.bool false) (.ref W.b)<|.int<|f e.pos)\/(f e.pos=e.pos/\I=Z)):f3 W Z (upTo f (seen++[e.num]) af):=by
 have av:=C.nn;have A:=C.d5;rw[AW] at av;rw[AV] at A;have c:e∈upTo f seen af:=yB.mpr<|bb e he<|if_neg ax;have eJ:=(C.fv e c).2;have an:=C.nl;have low:∀aW∈af,aW≠e->(if aW.num∈seen++[e.num] then{aW with pos:=f aW.pos} else aW)=(if aW.num∈seen then{aW with pos:=f aW.pos} else aW):=λaW t aX=>by have:aW.num≠e.num:=λX=>aX<|zT av t he X;simp[this]
 have self:(if e.num∈seen++[e.num] then{e with pos:=f e.pos} else e)={e with pos:=f e.pos}:=if_pos (by simp);have a:∀x∈upTo f (seen++[e.num]) af,x={e with pos:=f e.pos}\/(x∈upTo f seen af/\x.d≠e.d):=λx Q=>by
  refine bg (yB.mp Q) λaW t O=>?_;refine a6 O ?_;by_cases X:aW=e
  ·left;refine J X ?_;exact self
  ·right;have hd:aW.d≠e.d:=λz=>X<|zT A t he z;refine J (low aW t X) ?_;exact⟨yB.mpr<|bb aW t rfl,by split<;>exact hd⟩
 rcases u with u|⟨a8,rfl⟩
 ·refine⟨u.keep eJ C.hm,?_,?_,λx Q=>?_,?_,?_,?_⟩
  ·refine(u.ne<|oY C.ib eJ ?_).trans C.ib;intro X;cases X
  ·refine J wE ?_;have:=C.fU;rw[wE] at this;exact u.keep eJ this
  ·rcases a x Q with rfl|⟨m,hd⟩
   ·exact⟨u.keep eJ (C.fv e c).1,u.at⟩
   ·exact⟨u.keep eJ (C.fv x m).1,(u.ne hd).trans (C.fv x m).2⟩
  ·refine J AW ?_;exact av
  ·refine J AV ?_;exact A
  ·unfold upTo at an⊢;rw[aa0] at an⊢;exact an
 ·refine⟨C.hm,C.ib,?_,λx Q=>?_,?_,?_,?_⟩
  ·refine J wE ?_;have:=C.fU;rw[wE] at this;exact this
  ·rcases a x Q with rfl|⟨m,hd⟩
   ·refine J a8 ?_;exact C.fv e c
   ·exact C.fv x m
  ·refine J AW ?_;exact av
  ·refine J AV ?_;exact A
  ·unfold upTo at an⊢;rw[aa0] at an⊢;exact an
theorem yz (f:Int->Int)(E:aR->List V)(aI:am=E aN)(C:f3 W I af)(aB:I a=kZ (.list<|bm A))(aw:tc (af.map (·.num)) A) (ax:∀x au fM e K,f3 W au fM->e∈fM->(∀y aS,(Upd au aS e.d (.attrs 133<|f5 (.int e.num) (.bool false) (.ref W.b)<|.int<|f e.pos)\/(f e.pos=e.pos/\au=aS))->K jK.next (E y) aS)->bT ((E x).set i<|.int e.num) K au) (he:∀x au,Fr No No kj I au->f3 W au (d6 f af)->dk .next (E x) au):jR (.list a) [i] bT dk am I:=by
 have l:A.Nodup:=aw.1.nodup_iff.mpr C.nn;have g:upTo f [] af=af:=(qF λe q=>if_neg wP).trans<|uk _;let P:Nat->aR->az->Prop:=λj q au=>Fr No No kj I au/\f3 W au (upTo f (A.take j) af);refine zb (λq=>E) P aI ⟨.cv .refl,by refine J w8<|J g ?_;exact C⟩ (λj q au ai=>ai.1.list aB id) (λj x au u ai aQ=>?_) λx au ai=>?_
 ·refine bg (oK aQ) λy Q O=>?_;refine J O ?_;refine bg (yB.mp<|aw.1.mem_iff.mp<|jI Q) λe h O=>?_;subst O;have aA:e.num∉A.take j:=λX=>by obtain⟨k,ap⟩:=qE.mp X;have aG:=(xn.mp ap).1;rw[qC] at aG;have aG:=LS aG<|abi ..;rw[abu,if_pos aG] at ap;exact eB aG ((ut (xn.mp ap).1 l).mp<|ap.trans Q.symm)
  have c:e∈upTo f (A.take j) af:=yB.mpr<|bb e h<|if_neg aA;refine ax x au _ e _ ai.2 c λy aS u=>eC.mk (E:=E) (P:=P<|j+1) y ⟨?_,?_⟩
  ·rcases u with u|u
   ·exact ai.1.trans<|.iK u (ai.2.fv e c).2 rfl
   ·exact u.2▸ai.1
  ·show f3 W aS (upTo f (A.take<|j+1) af);refine J jH<|J Q ?_;exact Iw ai.2 h aA u
 ·refine he x au ai.1 ?_;have ao:=ai.2;rw[eb,oe] at ao;have e:upTo f A af=d6 f af:=qF λe he=>if_pos<|aw.1.mem_iff.mpr<|xh he;rwa[e] at ao
noncomputable def oL (s e:Int)(p:Int):Int:=if p>s then p+e -s else p
theorem Tq (H:a2 c)(C:f3 W I af)(ad:∀Z,Fr No No kj I Z->f3 W Z (d6 (oL pt last) af)->ab .none Z):be c 2 (.ref 184) [.ref W.m,.int pt,.int last,.bool false] ab I:=by refine Oj (n:=1) H<|dd C.hm C.ib zR (H.m 0)<|ca<|z1 H C λa out au U na aw aE=>gd aE ?_;let E:V×V->List V:=λp=>[.ref W.m,.int pt,.int last,.bool false,p.1,p.2];refine yz (oL pt last) E (aN:=(.aK,.aK)) rfl (C.fr (L:=No) (D:=No) (ae:=No) (.cv U) id id id) aE aw (λp aS b k K bd ap bZ=>?_) λp aS F bd=>ad _ ((Fr.cv U).trans F) bd;have no:¬ k.pos>pt->K .next (E (.ref k.a,.int k.num)) aS:=λav=>bZ _ _<|.inr ⟨if_neg av,rfl⟩;refine vX bd<|pX bd.fU (Ar bd.nn ap)<|lm bd ap<|cx (λav=>(lm bd ap<|dt<|dC<|tf H bd ap λaM i=>bZ (.ref k.a,.int k.num) _<|.inl ?_)) λav=>lm bd ap<|cx (λq=>(TT bd ap<|((((no av)))))) λq=>((no av));rw[oL,if_pos av];exact i
noncomputable def pI (s e:Int)(p:Int):Int:=if p>e then p -(e -s) else if p>s then s else p
theorem QK (H:a2 c)(C:f3 W I af)(ad:∀Z,Fr No No kj I Z->f3 W Z (d6 (pI pt last) af)->ab .none Z):be c 2 (.ref 191) [.ref W.m,.int pt,.int last] ab I:=by
 refine Oh (n:=1) H<|dd C.hm C.ib zR (H.m 0)<|ca<|z1 H C λa out au U na aw aE=>gd aE ?_;let E:V×V->List V:=λp=>[.ref W.m,.int pt,.int last,p.1,p.2];refine yz (pI pt last) E (aN:=(.aK,.aK)) rfl (C.fr (L:=No) (D:=No) (ae:=No) (.cv U) id id id) aE aw (λp aS b k K bd ap bZ=>?_) λp aS F bd=>ad _ ((Fr.cv U).trans F) bd;refine vX bd<|pX bd.fU (Ar bd.nn ap)<|lm bd ap<|cx (λav=>lm bd ap<|dC<|dC<|tf H bd ap λaM i=>bZ (.ref k.a,.int k.num) _<|.inl ?_) λav=>lm bd ap<|cx (λf=>tf H bd ap λaM i=>bZ (.ref k.a,.int k.num) _<|.inl ?_) λf=>bZ (.ref k.a,.int k.num) _<|.inr ⟨?_,rfl⟩
 ·rw[pI,if_pos av];exact i
 ·rw[pI,if_neg av,if_pos f];exact i
 ·rw[pI,if_neg av,if_neg f]
noncomputable def ql (s e ew:Int)(p:Int):Int:=if p>=e then p+ew -(e -s) else if p>s then s else p
theorem Yp (H:a2 c)(C:f3 W I af)(ad:∀Z,Fr No No kj I Z->f3 W Z (d6 (ql pt last cnt) af)->ab .none Z):be c 2 (.ref 198) [.ref W.m,.int pt,.int last,.int cnt] ab I:=by
 refine On (n:=1) H<|dd C.hm C.ib zR (H.m 0)<|ca<|z1 H C λa out au U na aw aE=>gd aE ?_;let E:V×V->List V:=λp=>[.ref W.m,.int pt,.int last,.int cnt,p.1,p.2];refine yz (ql pt last cnt) E (aN:=(.aK,.aK)) rfl (C.fr (L:=No) (D:=No) (ae:=No) (.cv U) id id id) aE aw (λp aS b k K bd ap bZ=>?_) λp aS F bd=>ad _ ((Fr.cv U).trans F) bd;refine vX bd<|pX bd.fU (Ar bd.nn ap)<|lm bd ap<|cx (λav=>lm bd ap<|dt<|dC<|dC<|tf H bd ap λaM i=>bZ (.ref k.a,.int k.num) _<|.inl ?_) λav=>lm bd ap<|cx (λf=>tf H bd ap λaM i=>bZ (.ref k.a,.int k.num) _<|.inl ?_) λf=>bZ (.ref k.a,.int k.num) _<|.inr ⟨?_,rfl⟩
 ·rw[ql,if_pos av];exact i
 ·rw[ql,if_neg av,if_pos f];exact i
 ·rw[ql,if_neg av,if_neg f]
theorem xx (H:a2 c)(ad:∀a d Z,hF 133 a d (f5 (.int pt) (.bool cD) .none<|.int 0) I Z->ab (.ref a) Z):be c 2 (.ref 133) [.int pt,.bool cD] ab I:=by refine mY H.ok (H.k 6) λa d au m=>Og (n:=0) H<|eW m (H.d 69) (by ext) ?_;intro p aS m;refine eW m (H.d 70) (by ext) ?_;intro f aM m;refine eW m (H.d 71) (by ext) ?_;intro w ay m;refine eW m (H.d 72) (by ext) ?_;intro g bh m;exact⟨rfl,ad _ _ _<|m.as Vq⟩
theorem Mj (H:a2 c)(ad:∀a d r Z,bp I Z->I a=By->I d=By->I r=By->Z a=kZ (.inst 201 d)->Z d=kZ (.attrs 201<|lb<|.ref r)->Z r=kZ (.cu [])->ab (.ref a) Z):be c 2 (.ref 201) [] ab I:=by refine mY H.ok (H.k 7) λa d au m=>Oi (n:=0) H λr aS aT=>gm (m.grow aT.ext) (H.d 73) (by ext) ?_;intro p aM y b;exact⟨rfl,ad _ _ _ _ b.ext b.na b.d5 (m.ext.none aT.1) b.d3 (b.as Vr).id<|y aT.at (λX=>by cases X)⟩
abbrev nL (W:mD)(n:Nat)(pt:Int)(mk:V)(aC am P:Int):List (Str×V):=e2 (.int 1) (.str "a") (.ref W.g) (.ref W.m) (.int pt) (.int 1) (.int (n+1:Nat)) mk (.bool true) (.bool false) (.int aC) (.int am) (.int P) (.ref W.ls) .none .none .none .none .none .none
structure dL (W:mD)(I:az)(n:Nat)(pt:Int)(mk:V)(af:List hc):Prop where
 aA:I W.b=kZ (.inst 1028 W.bd)
 d9:∃aC am P:Int,I W.bd=kZ (.attrs 1028 (nL W n pt mk aC am P))
 an:I W.ls=kZ (.list [])
 j3:W.ls≠W.cl
 hm:f3 W I af
 ap:mk=.none\/∃a,mk=.ref a
structure bQ (W:mD)(I:az)(A:List Int)(pt:Int)(mk:V)(af:List hc):Prop where
 R:dL W I A.length pt mk af
 T:gO W.g W.bs W.cl I A
abbrev c8:Addr->Prop:=λa=>a=1028\/a=922\/a=133
theorem dL.fr {ae:Addr->Prop}{n:Nat}(C:dL W I n pt ak af)(x:Fr L D ae I Z)(cj:¬ L W.ls)(O:¬ D W.ee)(ai:¬ ae 1028)(ao:¬ ae 201)(a7:¬ ae 133):dL W Z n pt ak af:= ⟨x.inst C.aA,gT (C.d9) λaC am P e=>⟨aC,am,P,x.attrs e ai⟩,x.list C.an cj,C.j3,C.hm.fr x O ao a7,C.ap⟩
theorem gO.fr {ae:Addr->Prop}(C:gO a bs cl I A)(x:Fr L D ae I Z)(cj:¬ L cl)(H:¬ ae 922):gO a bs cl Z A:= fg C λpre aw post e G=>⟨pre,aw,post,e,G.So x cj H⟩
theorem bQ.fr {ae:Addr->Prop}(C:bQ W I A pt ak af)(x:Fr L D ae I Z)(cj:¬ L W.ls)(b:¬ L W.cl)(O:¬ D W.ee)(ai:¬ ae 1028)(ao:¬ ae 201)(a7:¬ ae 133)(bR:¬ ae 922):bQ W Z A pt ak af:= ⟨C.R.fr x cj O ai ao a7,C.T.fr x b bR⟩
theorem bQ.ext (C:bQ W I A pt ak af)(x:bp I Z):bQ W Z A pt ak af:=C.fr (L:=No) (D:=No) (ae:=No) (.cv x) id id id id id id id
theorem dL.set (C:dL W I b pt aJ af)(u:Upd I Z W.bd (.attrs 1028<|nL W ey last ak cnt st h5))(ap:ak=.none\/∃a,ak=.ref a):dL W Z ey last ak af:=by
 refine gT (C.d9) λn p j e=>?_;have H:¬ kj 1028:=by decide
 refine⟨u.keep e C.aA,(qq cnt st h5 u.at),u.keep e C.an,C.j3,?_,ap⟩;exact C.hm.fr (L:=No) (D:=No) (ae:=λa=>a=1028) (.iK u e rfl) id (by decide) (by decide)
theorem dL.JQ (C:dL W I b pt aJ af)(T:gO W.g W.bs W.cl I A)(u:Upd I Z W.bd (.attrs 1028<|nL W ey last ak cnt st h5)):gO W.g W.bs W.cl Z A:=by exact gT (C.d9) λn p j e=>T.fr (L:=No) (D:=No) (ae:=λa=>a=1028) (.iK u e rfl) id (by decide)
theorem dL.JO (C:dL W I b pt aJ af)(u:Upd I Z W.bd (.attrs 1028<|nL W ey last ak cnt st h5)):Fr (b2 W.cl) No c8 I Z:=by exact gT (C.d9) λn p j e=>.iK u e<|.inl rfl
theorem ve (x:Fr (b2 W.cl) No lI I Z):Fr (b2 W.cl) No c8 I Z:=x.mono (λq C=>C) (λq C=>C) λq C=> .inr<|.inl C
theorem vf (x:Fr No No kj I Z):Fr (b2 W.cl) No c8 I Z:=x.mono (λq C=>C.elim) (λq C=>C) λq C=> .inr<|.inr C
theorem lV (B:dL W I e pt ak af)(an:∀aC am P,(nL W e pt ak aC am P).lookup w=kZ u)(C:dE u (ad u)):d2 I W.b w ad:=gT (B.d9) λq q q hd=>di B.aA hd (an ..) C
theorem sz (B:dL W I e pt ak af)(C:ad (.ref W.g)):d2 I W.b "text" ad:=lV B (λq q q=>Ig) C
theorem x5 (B:dL W I e pt ak af)(C:ad (.ref W.m)):d2 I W.b "markers" ad:=lV B (λq q q=>Ie) C
theorem k7 (B:dL W I e pt ak af)(C:ad (.int pt)):d2 I W.b "point" ad:=lV B (λq q q=>UO) C
theorem pD (B:dL W I e pt ak af)(C:ad (.int (e+1:Nat))):d2 I W.b "zv" ad:=lV B (λq q q=>UR) C
theorem uH (B:dL W I e pt ak af)(C:ad (.int 1)):d2 I W.b "begv" ad:=lV B (λq q q=>UJ) C
theorem FR (B:dL W I e pt ak af)(C:ad (.ref W.ls)):d2 I W.b "listeners" ad:=lV B (λq q q=>UL) C
theorem FV (B:dL W I e pt ak af)(C:ad .none):d2 I W.b "undo" ad:=lV B (λq q q=>UQ) C
theorem FT (B:dL W I e pt ak af)(C:ad .none):d2 I W.b "props" ad:=lV B (λq q q=>UP) C
theorem FS (B:dL W I e pt ak af)(C:ad .none):d2 I W.b "overlays" ad:=lV B (λq q q=>UN) C
theorem nA (B:dL W I b pt ak af)(C:ad ak):d2 I W.b "mark" ad:=lV B (λq q q=>UM)<|Ag (by rcases B.ap with e|⟨_,e⟩<;>refine J e ?_<;>trivial) C
theorem kp (B:dL W I e pt ak af)(an:∀aC am P,(nL W e pt ak aC am P).lookup w=By)(hm:jS c.K 1028 w a)(C:aF a): ∃ae d ah a,I W.b=kZ (.inst ae d)/\I d=kZ (.attrs ae ah)/\ah.lookup w=By/\jS c.K ae w a/\aF a:=gT (B.d9) λq q q hd=>dd B.aA hd (an ..) hm C
theorem uG (B:dL W I b pt aJ af)(T:gO W.g W.bs W.cl I A)(hd:fS c.K 1028 w=true)(aP:∀aC am P,∃n p j,bF w u (nL W b pt aJ aC am P)=nL W ey last ak n p j)(ap:ak=.none\/∃a,ak=.ref a) (C:∀Z,Fr (b2 W.cl) No c8 I Z->dL W Z ey last ak af->gO W.g W.bs W.cl Z A->cd Z): ∃ae d ah,I W.b=kZ (.inst ae d)/\I d=kZ (.attrs ae ah)/\fS c.K ae w=true/\ah.length<900/\∀D,Upd I D d (.attrs ae<|bF w u ah)->cd D:= let⟨aC,am,P,e⟩:=B.d9;let⟨_,_,_,aW⟩:=aP aC am P;ie B.aA e hd (by refine J H5 ?_;decide) λD k=>C D (B.JO<|aW▸k) (B.set (aW▸k) ap)<|B.JQ T<|aW▸k
theorem pC (H:a2 c)(B:dL W I e pt ak af)(T:gO W.g W.bs W.cl I A)(C:∀Z,Fr (b2 W.cl) No c8 I Z->dL W Z e last ak af->gO W.g W.bs W.cl Z A->cd Z): ∃ae d ah,I W.b=kZ (.inst ae d)/\I d=kZ (.attrs ae ah)/\fS c.K ae "point"=true/\ah.length<900/\∀D,Upd I D d (.attrs ae<|bF "point" (.int last) ah)->cd D:= uG B T (H.d 6) (λq q q=>(qq _ _ _ XO)) B.ap C
theorem FU (H:a2 c){m:Nat}(B:dL W I b pt ak af)(T:gO W.g W.bs W.cl I A)(e:last=(m+1:Nat))(C:∀Z,Fr (b2 W.cl) No c8 I Z->dL W Z m pt ak af->gO W.g W.bs W.cl Z A->cd Z): ∃ae d ah,I W.b=kZ (.inst ae d)/\I d=kZ (.attrs ae ah)/\fS c.K ae "zv"=true/\ah.length<900/\∀D,Upd I D d (.attrs ae<|bF "zv" (.int last) ah)->cd D:=by refine J e ?_;exact uG B T (H.d 8) (λq q q=>(qq _ _ _ XR)) B.ap C
theorem G7 (B:dL W I e pt ak af)(F:Fr (b2 W.cl) No lI I Z):dL W Z e pt ak af:=B.fr F (λX=>B.j3 X) id (by decide) (by decide) (by decide)
variable{bA:List hc}
theorem bQ.marks (B:bQ W I A pt ak af)(F:Fr No No kj I Z)(m:f3 W Z bA):bQ W Z A pt ak bA:= ⟨⟨F.inst B.R.aA,gT (B.R.d9) λa b d e=>⟨a,b,d,F.attrs e<|by decide⟩,F.list B.R.an id,B.R.j3,m,B.R.ap⟩,B.T.fr F id<|by decide⟩
theorem MQ (H:a2 c)(B:dL W I e pt ak af)(ad:ab (.int 1) I):be c 1 (.ref 962) [.ref W.b] ab I:=NV (n:=0) H<|uH B ad
theorem Q4 (H:a2 c)(B:dL W I e pt ak af)(ad:ab (.int (e+1:Nat)) I):be c 1 (.ref 969) [.ref W.b] ab I:=NY (n:=0) H<|pD B ad
theorem FZ (H:a2 c)(B:bQ W I A pt ak af)(ad:ab (.int A.length) I):be c 2 (.ref 976) [.ref W.b] ab I:=by refine bP λbz aN=>fg (B.T) λpre aw post a3 G=>?_;subst a3;exact aN<|F6 (n:=1) H<|sz B.R<|dd G.aL G.hd IX (H.m 5)<|ca<|JU H G ad
theorem Gm (H:a2 c)(B:bQ W I A pt ak af)(ap:A[e]?=kZ last)(ad:ab (.int last) I):be c 2 (.ref 983) [.ref W.b,.int<|(e:Int)+1] ab I:=by have a5:=(xn.mp ap).1;refine bP λbz aN=>?_;refine fg (B.T) λpre aw post a3 G=>?_;subst a3;refine aN ?_;refine NW (n:=1) H<|uH B.R ?_;refine pD B.R<|cr (p:=((pre++post).length+1:Nat)<=(e:Int)+1) (bC 1293230606507 a5)<|(sz B.R<|dd G.aL G.hd Wm (H.m 6)<|dC ?_);refine J mM ?_;exact ca<|Qn H G ap ad
theorem uI (H:a2 c)(B:bQ W I A pt ak af){s:Nat}(ax:s<=e)(he:e<=A.length)(ad:lR ab I ((A.take e).drop s)):be c 2 (.ref 990) [.ref W.b,.int<|(s:Int)+1,.int<|(e:Int)+1] ab I:=by refine bP λbz aN=>fg (B.T) λpre aw post a3 G=>?_;subst a3;refine aN<|NX (n:=1) H<|sz B.R<|dd G.aL G.hd IW (H.m 7)<|dC<|dC ?_;refine J mM<|J mM ?_;exact ca<|Gn H G ax he ad
theorem vn (H:a2 c)(B:bQ W I A pt ak af)(ai:1<=last)(ao:last<=A.length+1)(ad:∀Z,Fr (b2 W.cl) No c8 I Z->bQ W Z A last ak af->ab (.int last) Z):be c 1 (.ref 997) [.ref W.b,.int last] ab I:=by refine NZ (n:=0) H<|uH B.R<|vZ (LZ ai)<|pD B.R<|zD<|pC H B.R B.T λau ba i p=>?_;rw[nk (show last<=((A.length+1:Nat):Int) from ao)] at i;exact k7 i<|ad _ ba ⟨i,p⟩
theorem ZW (H:a2 c)(B:bQ W I A pt ak af)(ad:∀Z,Fr (b2 W.cl) No c8 I Z->bQ W Z A pt ak af->ab .none Z):be c 1 (.ref 1025) [.ref W.b,.bool true] ab I:=by refine gT (B.R.d9) λaC am P hd=>N4 (n:=0) H<|di B.R.aA hd Ih<|kN<|dt<|uG B.R B.T (H.d 12) (λq q q=>(qq _ _ _ XQ)) B.R.ap λau ba i p=>?_;exact gT (i.d9) λaC am P hd=>di i.aA hd Ih<|kN<|uG i p (H.d 13) (λq q q=>(qq _ _ _ XM)) i.ap λaS g aH u=>ad _ (ba.trans g) ⟨aH,u⟩
theorem zJ (H:a2 c)(B:dL W I e pt ak af)(ad:ab .none I):be c 1 (.ref 310) [.ref W.b] ab I:= Ph (n:=0) H<|lV B (λq q q=>UK) ad
theorem IJ (H:a2 c)(B:bQ W I A pt ak af)(hm:A.length+last<=4194304)(ad:ab .none I):be c 3 (.ref 317) [.ref W.b,.int last] ab I:= Pg (n:=2) H<|kp B.R (λq q q=>IV) (H.m 14)<|ca<|FZ H B<|dt<|cr (aa1.mpr hm) ad
theorem Al (H:a2 c)(B:dL W I b pt ak af)(ai:1<=last)(ao:last<=b+1)(a7:1<=cnt)(bR:cnt<=b+1)(ad:∀t Z,bp I Z->Z t=kZ (.tup [.int<|min last cnt,.int<|max last cnt])->ab (.ref t) Z):be c 1 (.ref 324) [.ref W.b,.int last,.int cnt] ab I:=by refine Pw (n:=0) H<|zD<|tm<|fy rfl rfl λt au U s aI=>eY aI rfl ?_;have ah:=B.fr (L:=No) (D:=No) (ae:=No) (.cv U) id id id id id;exact uH ah<|cr (aa1.mpr<|Int.le_min.mpr ⟨ai,a7⟩)<|pD ah<|cr (aa1.mpr<|Int.max_le.mpr ⟨ao,bR⟩)<|(fy rfl rfl λF aS aR aT bd=>ad _ _ (U.trans aR) bd)
theorem zS (C:I ae=kZ (.list []))(ad:dk .next am I):jR (.list ae) [i] bT dk am I:= zc (λ_ (_:Unit)=>am) (λq q=>True) (a:=()) rfl trivial C (λq q q q C=>nomatch C) λq q=>ad
theorem uU (C:I l=kZ (.list aa))(aj:aa.length<=gW)(ad:∀a D,bp I D->I a=By->D a=kZ (.list aa)->ab (.ref a) D):nE [.ref l] ab I:=(c7 aa (.inl C) aj λa D n=>ad a D n.ext n.1 n.at)
theorem AP (H:a2 c)(B:dL W I e pt ak af)(ad:∀Z,bp I Z->ab .none Z):be c 1 (.ref 331) [.ref W.b,.int last,.int cnt] ab I:= PJ (n:=0) H<|FR B<|uU B.an (BK _) λa au U s aI=>gd aI<|zS aI<|ad _ U
theorem AQ (H:a2 c)(B:bQ W I A pt ak af)(ad:∀Z,Fr (b2 W.cl) No c8 I Z->bQ W Z A pt ak af->ab .none Z):be c 2 (.ref 338) [.ref W.b,.int last,.int cnt,.int st] ab I:= PK (n:=1) H<|kp B.R (λq q q=>Wk) (H.m 18)<|ca<|ZW H B λar f K=>FR K.R<|uU K.R.an (BK _) λa au U s aI=>gd aI<|zS aI<|ad _ (f.trans<|.cv U)<|K.ext U
theorem Hr (H:a2 c)(B:dL W I e pt ak af)(ad:ab .none I):be c 1 (.ref 359) [.ref W.b,.int last,.int cnt] ab I:=OV (n:=0) H<|FT B<|FS B ad
theorem Hq (H:a2 c){n:Nat}(B:dL W I n pt ak af)(ad:ab .none I):be c 1 (.ref 366) [.ref W.b,.int last,.int cnt,.bool cD] ab I:=OU (n:=0) H<|FT B<|FS B ad
noncomputable def wd (s e p:Int):Int:=if p>s then max s (p -(e -s)) else p
noncomputable def nR (s n p:Int):Int:=if p>s then p+n else p
noncomputable def dO (s e n p:Int):Int:=if s=e then(if p>s then p+n else p) else if p>=e then p+n -(e -s) else if p>s then s else p
theorem Ah (C:∀p,bn p=p):d6 bn af=af:=(qF λe q=>by exact J (C _) rfl).trans<|uk _
variable{bG:Int->Int}
theorem qh (C:∀p,bn p=bG p):d6 bn af=d6 bG af:=J (funext C:bn=bG) rfl
theorem bQ.as (B:bQ W I A pt ak af)(a8:A=xs)(bo:pt=last)(c2:af=bA):bQ W I xs last ak bA:=by subst a8 bo c2;exact B
theorem dL.as (B:dL W I e pt ak af)(a8:e=ey)(bo:pt=last):dL W I ey last ak af:=by subst a8 bo;exact B
theorem Hd (T:gO N bs cl I A)(an:∀a b d e,(hk a b d e).lookup w=By)(hm:jS c.K 922 w l)(C:aF l):∃ae d ah l,I N=kZ (.inst ae d)/\I d=kZ (.attrs ae ah)/\ah.lookup w=By/\jS c.K ae w l/\aF l:= fg T λq q q q G=>dd G.aL G.hd (an ..) hm C
theorem gO.ne (T:gO ae bs cl I A)(C:I a=By):a≠cl:=fg T λq q q q G=>(de G.aU C).symm
theorem zv (m:f3 W I af)(an:(lb<|.ref W.ee).lookup w=By)(hm:jS c.K 201 w a)(C:aF a):∃ae d ah a,I W.m=kZ (.inst ae d)/\I d=kZ (.attrs ae ah)/\ah.lookup w=By/\jS c.K ae w a/\aF a:=dd m.hm m.ib an hm C
theorem z9 (ax:b<=e)(he:e<=A.length):(A.take b++A.drop e).length=A.length -(e -b):=by refine J nb<|J qC<|J BU ?_;exact hN 105246046636170473907176355270787 ax he rfl rfl rfl rfl
theorem Tj (ap:e<=A.length):(A.take e++xs++A.drop e).length=A.length+xs.length:=by refine J nb<|J nb<|J qC<|J BU ?_;exact dH 77413289206099282051 rfl rfl
theorem Kk (H:a2 c)(B:bQ W I A pt ak af)(ax:b<=e)(he:e<=A.length) (ad:∀a Z,Fr (b2 W.cl) No c8 I Z->bQ W Z (A.take b++A.drop e) (wd (b+1) (e+1) pt) ak af->I a=By->Z a=kZ (.list<|bm<|(A.take e).drop b)->ab (.ref a) Z): be c 3 (.ref 345) [.ref W.b,.int<|(b:Int)+1,.int<|(e:Int)+1] ab I:=by
 refine PO (n:=2) H<|FV B.R<|sz B.R<|Hd B.T (λq q q q=>Wn) (H.m 11)<|gJ mM<|gJ mM<|ca<|QJ H B.T ax he λa au ba p na aE=>?_;intros y;have i:=G7 B.R ba;have aX:=B.T.ne na;refine pD i<|dC<|dC<|FU H i p (m:=(A.take b++A.drop e).length) (by refine J (z9 ax he) ?_;exact dH 707585513884457125827619738789683956377 ax he rfl rfl) λaS g aH u=>k7 aH<|cx (λC=>k7 aH<|dC<|dC<|tm<|pC H aH u λaM a7 o d=>?_) λC=>?_
 ·exact ad a aM (((ve ba).trans g).trans a7) ⟨o.as rfl (if_pos C).symm,d⟩ na<|(g.trans a7).list aE aX
 ·exact ad a aS ((ve ba).trans g) ⟨aH.as rfl (if_neg C).symm,u⟩ na<|g.list aE aX
theorem Kj (H:a2 c)(B:bQ W I A pt ak af)(aB:I a=kZ (.list<|bm xs))(s:a≠W.cl)(ap:e<=A.length)(aj:A.length+xs.length<=100000) (ad:∀Z,Fr (b2 W.cl) No c8 I Z->bQ W Z (A.take e++xs++A.drop e) (nR (e+1) xs.length pt) ak af->ab .none Z): be c 3 (.ref 352) [.ref W.b,.int<|(e:Int)+1,.ref a] ab I:=by
 have j:xs.length<=1000000:=bC 51564878849 aj;refine PM (n:=2) H<|FV B.R<|sz B.R<|Hd B.T (λq q q q=>Wo) (H.m 10)<|gJ mM<|ca<|Tp H B.T aB s ap aj λau ba p=>?_;have i:=G7 B.R ba;have f:=ba.list aB s;refine pD i<|ed f j<|dt<|FU H i p (m:=(A.take e++xs++A.drop e).length) (by refine J (Tj ap) ?_;exact lp 58837659380910729) λaS g aH u=>k7 aH<|cx (λC=>k7 aH<|ed (g.list f s) j<|dt<|pC H aH u λaM a7 o d=>?_) λC=>?_
 ·exact ad aM (((ve ba).trans g).trans a7) ⟨o.as rfl (if_pos C).symm,d⟩
 ·exact ad aS ((ve ba).trans g) ⟨aH.as rfl (if_neg C).symm,u⟩
theorem Jy (H:a2 c)(B:dL W I b pt ak af)(ax:i<=e)(he:e<=b)(ad:∀t Z,bp I Z->Z t=kZ (.tup [.int<|(i:Int)+1,.int<|(e:Int)+1])->ab (.ref t) Z): be c 1 (.ref 324) [.ref W.b,.int<|(i:Int)+1,.int<|(e:Int)+1] ab I:= Al H B one_le (qa<|nf ax he) one_le (qa he) λt Z x C=>ad t Z x<|J C<|J (nk<|oU ax)<|J (LU<|oU ax) rfl
theorem Tm:oL pt (pt+(0:Nat)) last=last:=by unfold oL;split;(· exact Ul 8490846361);(· rfl)
theorem Ti:nR pt (0:Nat) last=last:=by unfold nR;split;(· exact aaN _);(· rfl)
theorem Jv (H:a2 c)(B:bQ W I A pt ak af){b:Bool}(aB:I a=kZ (.list<|bm xs))(s:a≠W.cl)(ap:i<=A.length)(aj:A.length+xs.length<=100000)(aA:b=true->pt=i+1) (ad:∀Z,Fr (b2 W.cl) No c8 I Z->bQ W Z (A.take i++xs++A.drop i) (if b then i+1+xs.length else nR (i+1) xs.length pt) ak (d6 (oL (i+1)<|i+1+xs.length) af)->ab .none Z): be c 4 (.ref 373) [.ref W.b,.int<|(i:Int)+1,.ref a,.bool false,.bool b] ab I:=by
 have j:xs.length<=1000000:=bC 51564878849 aj;have tail:∀{d:Int} {ay:az},Fr (b2 W.cl) No c8 I ay->bQ W ay (A.take i++xs++A.drop i) d ak af->d=(if b then(i:Int)+1+xs.length else nR (i+1) xs.length pt)->xQ (dI c 3 ab) [.ref W.b,.int<|(i:Int)+1,.ref a,.bool false,.bool b] [] ay:=λ{d ay} bK o e=>by replace o:=e▸o;have h:=bK.list aB s;refine x5 o.R<|zv o.R.hm Ws (H.m 2)<|ed h j<|dt<|ca<|Tq H o.R.hm λbh K g=>?_;have P:=o.marks K g;have k:=K.list h id;exact⟨(H.f 25),ed k j<|ca<|Hq H P.R ⟨(H.f 21),ed k j<|dt<|ca<|AQ H P λbv aJ E=>ad _ ((bK.trans<|vf K).trans aJ) E⟩⟩
 refine Ps (n:=3) H<|ci (H.f 17)<|zJ H B.R<|ci (H.f 19)<|Al H B.R one_le (qa ap) one_le (qa ap) λt au U bu=>ed (U _ _ aB) j<|cx (λh0=>?_) λh0=>?_
 ·have D:xs=[]:=gB.mp<|abv.mp h0;clear h0;subst D;refine ad _ (.cv U)<|(B.ext U).as (J (Bs _)<|J (rV _ _) rfl) ?_ (Ah λq=>Tm).symm;split
  ·rename_i i2;refine J (aA i2) ?_;exact(aaN _).symm
  ·exact Ti.symm
 ·have ah:=B.ext U;refine⟨(H.f 18),ed (U _ _ aB) j<|ca<|IJ H ah (bC 911565746298329646107271 aj)<|ci (H.f 20)<|AP H ah.R λaS aR=>ci (H.f 23)<|Kj H (ah.ext aR) (aR _ _<|U _ _ aB) s ap aj λaM a7 ag=>?_⟩;have l:Fr (b2 W.cl) No c8 I aM:=(Fr.cv<|U.trans aR).trans a7;clear aA ad;cases b with
  |true=>exact Nd<|ed (l.list aB s) j<|dt<|pC H ag.R ag.T λay bK aE w=>tail (l.trans bK) ⟨aE,w⟩ rfl
  |false=>exact(tail l ag rfl)
theorem Hx:d6 (oL (pt+1)<|pt+1+last) af=d6 (dO (pt+1) (pt+1) last) af:=qh λp=>by unfold oL dO;refine J (if_pos rfl) ?_;split<;>(first|exact Um 146597347680848025|exact tj 9)
theorem Th:nR (pt+1) last cnt=dO (pt+1) (pt+1) last cnt:=by unfold nR dO;exact J (if_pos rfl) rfl
theorem Hy (H:a2 c)(B:bQ W I A pt ak af){k:Nat}(aB:I a=kZ (.list<|bm xs))(s:a≠W.cl)(ap:k<=A.length)(aj:A.length+xs.length<=100000) (ad:∀Z,Fr (b2 W.cl) No c8 I Z->bQ W Z (A.take k++xs++A.drop k) (dO (k+1) (k+1) xs.length pt) ak (d6 (dO (k+1) (k+1) xs.length) af)->ab .none Z): be c 5 (.ref 381) [.ref W.b,.int<|(k:Int)+1,.ref a] ab I:= OX (n:=4) H<|ci (H.f 26)<|Jv H (b:=false) B aB s ap aj (λX=>by cases X) λau ba ah=>ad _ ba<|ah.as rfl Th Hx
theorem XH:(e:Int)+1+b=((e+b:Nat):Int)+1:=lp 58837788229937289
theorem To (H:a2 c){k:Nat}(B:bQ W I A ((k:Int)+1) ak af)(aB:I a=kZ (.list<|bm xs))(s:a≠W.cl)(ap:k<=A.length)(aj:A.length+xs.length<=100000) (ad:∀Z,Fr (b2 W.cl) No c8 I Z->bQ W Z (A.take k++xs++A.drop k) ((k+xs.length:Nat)+1) ak (d6 (dO (k+1) (k+1) xs.length) af)->ab .none Z): be c 5 (.ref 389) [.ref W.b,.ref a] ab I:= OW (n:=4) H ⟨(H.f 26),k7 B.R<|ca<|Jv H (b:=true) B aB s ap aj (λq=>rfl) λau ba ah=>ad _ ba<|ah.as rfl XH Hx⟩
theorem ne1 (C:b<e):¬ ((b:Int)+1=(e:Int)+1):=bC 284574480377887 C
theorem It (C:b<e):(b:Int)+1<(e:Int)+1:=bC 17785905023624 C
theorem outI (C:pt<last):(if cnt>pt then max pt (cnt -(last -pt)) else cnt)=if cnt>=last then cnt+0 -(last -pt) else if cnt>pt then pt else cnt:=by
 by_cases ai:cnt>=last
 ·exact J (if_pos<|w9 C ai)<|J (if_pos ai)<|J (aaN cnt)<|LU<|zh 79191152903 ai
 ·refine J (if_neg ai) ?_;by_cases ao:cnt>pt
  ·exact J (if_pos ao)<|J (if_pos ao)<|LZ<|zh 80262369687 ai
  ·exact J (if_neg ao) (if_neg ao).symm
theorem QG (C:pt<last):(if cnt>last then cnt -(last -pt) else if cnt>pt then pt else cnt)=if cnt>=last then cnt+0 -(last -pt) else if cnt>pt then pt else cnt:=by
 by_cases ai:cnt>last
 ·exact J (if_pos ai)<|J (if_pos<|jh ai)<|J (aaN cnt) rfl
 ·refine J (if_neg ai) ?_;by_cases a7:cnt>=last
  ·exact J (if_pos<|w9 C a7)<|J (if_pos a7)<|zh 83055597237405961 ai a7
  ·exact(if_neg a7).symm
theorem Jf (C:b<e):wd (b+1) (e+1) pt=dO (b+1) (e+1) 0 pt:=by unfold wd dO;exact J (if_neg<|ne1 C)<|outI<|It C
theorem QF (C:b<e)(p:Int):pI (b+1) (e+1) p=dO (b+1) (e+1) 0 p:=by unfold pI dO;exact J (if_neg<|ne1 C)<|QG<|It C
theorem Gd:dO pt pt 0 last=last:=by unfold dO;exact J (if_pos rfl)<|J (aaN _)<|J (ite_self _) rfl
theorem QI (H:a2 c)(B:bQ W I A pt ak af)(ax:b<=e)(he:e<=A.length) (ad:∀a Z,Fr (b2 W.cl) No c8 I Z->bQ W Z (A.take b++A.drop e) (dO (b+1) (e+1) 0 pt) ak (d6 (dO (b+1) (e+1) 0) af)->ab (.ref a) Z): be c 4 (.ref 396) [.ref W.b,.int<|(b:Int)+1,.int<|(e:Int)+1] ab I:=by
 refine OC (n:=3) H<|ci (H.f 17)<|zJ H B.R<|ci (H.f 19)<|Jy H B.R ax he λt au U bu=>eY bu rfl<|cx (λC=>?_) λC=>?_
 ·have r:b=e:=by exact bC 230522985419011 C
  clear bu;subst r;exact dA rfl rfl λa aS aR aT bd=>ad a aS (.cv<|U.trans aR)<|(B.ext<|U.trans aR).as (rV ..).symm Gd.symm (Ah λq=>Gd).symm
 ·have aG:b<e:=BO ax λX=>C<|J X rfl;refine ci (H.f 20)<|AP H (B.ext U).R λaS aR=>ci (H.f 22)<|Kk H ((B.ext U).ext aR) ax he λa aM a7 ag na aE=>x5 ag.R<|zv ag.R.hm Wr (H.m 3)<|ca<|QK H ag.R.hm λay bK j=>?_;have o:=(ag.marks bK j).as rfl (Jf aG)<|qh<|QF aG;exact ci (H.f 24)<|Hr H o.R ⟨(H.f 21),dC<|ca<|AQ H o λbh K P=>ad _ _ ((((Fr.cv<|U.trans aR).trans a7).trans<|vf bK).trans K) P⟩
theorem YG (ax:b<=A.length):(A.take b++A.drop e).take b++xs++(A.take b++A.drop e).drop b=A.take b++xs++A.drop e:=by have an:(A.take b).length=b:=J qC<|J (ke ax) rfl;exact J (cX an)<|J (abw an) rfl
theorem YF (C:b<e)(p:Int):ql (b+1) (e+1) pt p=dO (b+1) (e+1) pt p:=by unfold ql dO;exact J (if_neg<|ne1 C) rfl
theorem Tk (C:b<e)(aP:¬ pt>=(e:Int)+1):nR (b+1) i (wd (b+1) (e+1) pt)=dO (b+1) (e+1) i pt:=by
 unfold dO nR;refine J (if_neg<|ne1 C)<|J (if_neg aP)<|J (Jf C) ?_;unfold dO;refine J (if_neg<|ne1 C)<|J (if_neg aP) ?_;by_cases X:pt>(b:Int)+1
 ·exact J (if_pos X)<|if_neg<|sf _
 ·exact J (if_neg X)<|if_neg X
theorem Yo (H:a2 c)(B:bQ W I A pt ak af)(aB:I ae=kZ (.list<|bm xs))(s:ae≠W.cl)(ax:b<=e)(he:e<=A.length)(aj:A.length+xs.length<=100000) (ad:∀a Z,Fr (b2 W.cl) No c8 I Z->bQ W Z (A.take b++xs++A.drop e) (dO (b+1) (e+1) xs.length pt) ak (d6 (dO (b+1) (e+1) xs.length) af)->ab (.ref a) Z): be c 6 (.ref 404) [.ref W.b,.int<|(b:Int)+1,.int<|(e:Int)+1,.ref ae] ab I:=by
 have j:xs.length<=1000000:=bC 51564878849 aj;refine Py (n:=5) H<|ci (H.f 17)<|zJ H B.R<|ci (H.f 19)<|Jy H B.R ax he λt au U bu=>eY bu rfl<|cx (λC=>?_) λC=>ed (U _ _ aB) j<|cx (λh0=>?_) λh0=>?_
 ·have r:b=e:=by exact bC 230522985419011 C
  clear bu;subst r;exact ci (H.f 27)<|Hy H (B.ext U) (U _ _ aB) s he aj λaS g h=>dA rfl rfl λa aM bj a9 bn=>ad _ _ (((Fr.cv U).trans g).trans<|.cv bj)<|h.ext bj
 ·have D:xs=[]:=gB.mp<|abv.mp h0;clear h0;subst D;exact ci (H.f 29)<|QI H (B.ext U) ax he λa aS g h=>ad a aS ((Fr.cv U).trans g)<|h.as (J (Bs _) rfl) rfl rfl
 have aG:b<e:=BO ax λX=>C<|J X rfl;have ah:=B.ext U;have aQ:=nf ax he;have w:(A.take b++A.drop e).length<=A.length:=by refine J (z9 ax he) ?_;exact BW ..
 refine⟨(H.f 18),ed (U _ _ aB) j<|dC<|dC<|ca<|IJ H ah (bS 4105326568747470605842908151646245161607 ax aj)<|k7 ah.R<|ci (H.f 20)<|AP H ah.R λaS aR=>ci (H.f 22)<|Kk H (ah.ext aR) ax he λa aM a7 ag na aE=>?_⟩;have l:Fr (b2 W.cl) No c8 I aM:=(Fr.cv<|U.trans aR).trans a7;refine ci (H.f 23)<|Kj H ag (l.list aB s) s (by refine J (z9 ax he) ?_;exact dH 2617771516516897025 ax he rfl rfl) (nf (xg w _) aj) λay bK o=>?_;have q:=l.trans bK;have o:=o.as (YG aQ) rfl rfl;have tail:∀{d:Int} {bh:az},Fr (b2 W.cl) No c8 I bh->bQ W bh (A.take b++xs++A.drop e) d ak af->d=dO (b+1) (e+1) xs.length pt->xR (dI c 5 ab) [.ref W.b,.int<|(b:Int)+1,.int<|(e:Int)+1,.ref ae,.none,.ref a,.int<|(e:Int)+1,.int<|(b:Int)+1,.int pt] [] bh:=λ{d bh} K P e=>by subst e;have k:=K.list aB s;refine x5 P.R<|zv P.R.hm Wu (H.m 4)<|ed k j<|ca<|Yp H P.R.hm λbv aJ z=>?_;have E:=(P.marks aJ z).as rfl rfl<|qh<|YF aG;have u:=aJ.list k id;exact⟨(H.f 25),ed u j<|ca<|Hq H E.R<|ci (H.f 24)<|Hr H E.R<|abx (H.f 21)<|ed u j<|dt<|dC<|ca<|AQ H E λbO Q i=>ad _ _ ((K.trans<|vf aJ).trans Q) i⟩
 exact cx (p:=(e:Int)+1<=pt) (λaP=>ed (q.list aB s) j<|dt<|dC<|dC<|pC H o.R o.T λbh K v x=>tail (q.trans K) ⟨v,x⟩<|by unfold dO;exact J (if_neg<|ne1 aG)<|J (if_pos aP) rfl) λaP=>tail q o<|Tk aG aP
noncomputable def c5 (A:List Int)(k:Nat):Nat:=k -((A.take k).reverse.takeWhile (· !=10)).length
noncomputable def cN (A:List Int)(k:Nat):Nat:=k+((A.drop k).takeWhile (· !=10)).length
theorem Ib (C:A[e]?=kZ pt):c5 A (e+1)=if pt=10 then e+1 else c5 A e:=by
 unfold c5;refine J jH<|J C<|J (abr _)<|J B5<|(?_:e+1 -(List.takeWhile _<|pt::(A.take e).reverse).length=_);by_cases Q:pt=10
 ·refine J Q ?_;simp
 ·refine J (LV<|by simpa using Q)<|J (if_neg Q)<|J hC ?_;exact bS 225563954976411907 rfl rfl
theorem rk {A:List Int}{k:Nat}:c5 A k<=k:=BW ..
theorem Ic:c5 A 0=0:=by simp[c5]
theorem zk (C:A[b]?=kZ pt):cN A b=if pt=10 then b else cN A (b+1):=by
 unfold cN;obtain⟨ap,e⟩:=xn.mp C;refine J (abp ap)<|J e ?_;by_cases Q:pt=10
 ·refine J Q ?_;simp
 ·refine J (LV<|by simpa using Q)<|J (if_neg Q)<|J hC ?_;exact lp 1995160256643
theorem H9:cN A A.length=A.length:=by simp[cN]
theorem vR {A:List Int}{k:Nat}:k<=cN A k:=w2 ..
theorem rj {A:List Int}{k:Nat}(C:k<=A.length):cN A k<=A.length:=by unfold cN;have:=(List.takeWhile_sublist (p:=(· !=(10:Int))) (l:=A.drop k)).length_le;rw[BU] at this;exact bS 9942957202477185 C this rfl
theorem zm (H:a2 c)(B:bQ W I A pt ak af)(ap:e<=A.length)(ad:ab (.int<|(c5 A e:Nat)+1) I):be c 3 (.ref 411) [.ref W.b,.int<|(e:Int)+1] ab I:=by
 let E:Nat->Unit->List V:=λm q=>[.ref W.b,.int<|(e:Int)+1,.int<|(m:Int)+1];refine Pe (n:=2) H<|HT E (λm q=>m<=e/\c5 A m=c5 A e) (k:=e) (a:=()) rfl ⟨nu _,rfl⟩ λm q C=>?_;refine kp B.R (λq q q=>Wi) (H.m 12)<|ca<|MQ H B.R<|cx (λaP=>?_) λaP=>?_
 ·obtain⟨j,rfl⟩:∃j,m=j+1:=⟨m -1,bC 937132497375664131 aP rfl⟩;have bi:j<A.length:=LS (Nat.lt_of_succ_le C.1) ap;have ax:=Ib<|Lw bi;refine kp B.R (λq q q=>IU) (H.m 15) (gJ (m:=(j:Int)+1) mM<|ca<|Gm H B (Lw bi)<|mn (λaX=>?_) λhe=>?_)
  ·rw[if_neg aX] at ax;exact(gJ mM<|bb j (BL j)<|jp.mk (E:=E j) () ⟨xi C.1,ax▸C.2⟩)
  ·rw[if_pos he] at ax;rw[<-C.2,ax] at ad;exact ad
 ·obtain rfl:m=0:=by exact bM 56011632387 aP
  rw[<-C.2,Ic] at ad;exact ad
theorem zl (H:a2 c)(B:bQ W I A pt ak af)(ap:e<=A.length)(ad:ab (.int<|(cN A e:Nat)+1) I):be c 3 (.ref 418) [.ref W.b,.int<|(e:Int)+1] ab I:=by
 let E:Nat->Unit->List V:=λm q=>[.ref W.b,.int<|(e:Int)+1,.int<|((A.length -m:Nat):Int)+1];refine Pd (n:=2) H<|HT E (λm q=>m<=A.length/\cN A (A.length -m)=cN A e) (k:=A.length -e) (a:=()) (by refine(?_:_=[_,_,V.int<|((A.length -(A.length -e):Nat):Int)+1]);refine J (B6 ap) ?_;rfl) ⟨BW ..,J (B6 ap) rfl⟩ λm q C=>?_;refine jA ?_;intro d;refine kp B.R (λq q q=>Wj) (H.m 13)<|ca<|Q4 H B.R<|cx (λaP=>?_) λaP=>?_
 ·obtain⟨j,rfl⟩:∃j,m=j+1:=⟨m -1,bS 3805343514230728241780739 aP rfl rfl⟩;have bi:A.length -(j+1)<A.length:=bC 230394136396034 aP;have ax:=zk<|Lw bi;refine kp B.R (λq q q=>IU) (H.m 15) (ca<|Gm H B (Lw bi)<|mn (λaX=>?_) λhe=>?_)
  ·rw[if_neg aX,show A.length -(j+1)+1=A.length -j by exact bS 165685377499715620425859 C.1 rfl rfl] at ax;exact(jq (m:=((A.length -j:Nat):Int)+1) (bS 16678462874585820502013800130697 C.1 rfl rfl)<|bb j (BL j)<|jp.mk (E:=E j) () ⟨xi C.1,ax▸C.2⟩)
  ·rw[if_pos he] at ax;rw[<-C.2,ax] at ad;exact ad
 ·obtain rfl:m=0:=by exact b1 338749695369956826883 C.1 aP rfl
  rw[<-C.2,LI,H9] at ad;exact ad
def c9 (A:List Int)(k:Nat):Nat:=k -c5 A k
def cS (A:List Int):Prop:=∀x∈A,x=10\/lQ x
theorem zy (C:pt∈A.takeWhile (· !=10)):pt∈A/\pt≠10:=by
 induction A with
 |nil=>cases C
 |cons a A D=>
  rw[B7] at C;split at C
  ·rename_i aE;rcases Q8.mp C with rfl|C
   ·exact⟨.head _,by simpa using aE⟩
   ·exact⟨.tail _ (D C).1,(D C).2⟩
  ·cases C
theorem AU:∀{l:List aR},l.takeWhile al=l.take (l.takeWhile al).length:=by
 intro h;induction h with
 |nil=>simp
 |cons a l D=>
  refine J B7 ?_;split
  ·exact J hC<|J LW<|a6 D rfl
  ·simp
theorem YS (aw:cS A)(ap:b<=A.length):bU ((A.take b).drop<|c5 A b):=by
 intro x Q;have e:(A.take b).drop (c5 A b)=((A.take b).reverse.takeWhile (· !=10)).reverse:=by refine J AU<|J aby<|J (aaI _) ?_;unfold c5;exact J qC<|J (ke ap) rfl
 rw[e] at Q;have:=zy<|abz.mp Q;exact(aw x<|BX<|abz.mp this.1).resolve_left this.2
theorem yl {W:mD}{ab:V->az->Prop}{c:cz}{mk:V}{af:List hc}{pt:Int}{A:List Int}{I:az}(H:a2 c)(B:bQ W I A pt mk af)(aw:cS A){k:Nat}(ap:k<=A.length)(aj:A.length<=100000)(ad:∀Z,bp I Z->ab (.int<|c9 A k) Z):be c 4 (.ref 591) [.ref W.b,.int<|(k:Int)+1,.int 8] ab I:=by
 refine Oy (n:=3) H<|ci (H.f 31)<|zm H B ap ⟨(H.f 36),kp B.R (λq q q=>zP) (H.m 16)<|ca<|uI H B rk ap λa au U na aE=>gJ (m:=(c9 A k:Nat)) ?_<|ca<|Gp H aE (YS aw ap) ?_ ?_ λaS aR=>ad _<|U.trans aR⟩
 ·have:=@rk A k;unfold c9;exact b1 4765029410694671411353 this rfl
 ·refine J BU<|J qC<|J (ke ap) ?_;exact nu _
 ·refine J BU<|J qC ?_;exact dH 1451902927132232705 aj rfl rfl
theorem yw (aE:I a=kZ (.list<|bm xs))(aA:I ae=kZ (.list<|bm A))(k:Nat):e0 I (k+1) (.ref a) (.ref ae) (decide<|xs=A):=by
 by_cases X:a=ae
 ·subst X;rw[aE] at aA;have:xs=A:=Td (by simpa using aA);exact .of (.same aE) (by simp[this])
 ·skip;by_cases an:xs.length=A.length
  ·refine .zn (λj=>decide<|xs[j]?=A[j]?) X aE aA (by rw[eb,eb];exact an) (λj u w aQ a1=>?_) ?_
   ·refine bg (oK aQ) λx Q O=>?_;refine J O ?_;refine bg (oK a1) λy G O=>?_;refine J O ?_;rw[Q,G];exact .of (.int x y) (by rw[d0];simp)
   ·rw[d0,decide_eq_true_eq,abe];constructor
    ·rintro rfl j _;simp
    ·intro C;apply wZ;intro j;by_cases bi:j<xs.length
     ·have:=C j (by rw[eb];exact Ls.mpr bi);simpa using this
     ·rw[w0<|by exact bC 82177 bi,w0<|by exact b1 8925622529 an bi]
  ·refine .of (.len X aE aA<|by rw[eb,eb];exact an) ?_;rw[decide_eq_false_iff_not];rintro rfl;exact an rfl
theorem I6 (aE:I a=kZ (.list<|bm xs))(aA:I ae=kZ (.list<|bm A))(C:ab (.bool (!decide (xs=A))) I):i6 (.ref a) (.ref ae) ab I:=(dM (1) _ (j5 1314513) (yw aE aA 0) C)
theorem I4 {bw:List Int}(aE:I a=kZ (.list<|bm xs))(aA:I ae=kZ (.list<|bm bw))(C:ab (.bool<|decide<|xs=bw) I):oEq (.ref a) (.ref ae) ab I:=(dM (1) _ (j5 1314513) (yw aE aA 0) C)
theorem V1:[(e:Int),(b:Int)].Perm [((min e b:Nat):Int),((max e b:Nat):Int)]:=by
 rcases dR e b with C|C
 ·rw[ke C,pl C]
 ·rw[mx C,abA C];exact .swap ..
theorem Xs (C:pt<=last):[pt,last].Pairwise (· <= ·):=.cons (λx Q=>by cases aaO.mp Q;exact C)<|.cons (λq C=>nomatch C) .nil
theorem TA (C:tc [(e:Int),(b:Int)] A):A=[((min e b:Nat):Int),((max e b:Nat):Int)]:= List.Perm.eq_of_pairwise (λq q q q=>Int.le_antisymm) C.2 (Xs<|qD.mpr<|nf (abi ..)<|xj ..)<|C.1.trans V1
theorem Zm (C:I l=kZ (.list [.int e,.int b]))(ad:∀r D,bp I D->D r=kZ (.list [.int (min e b:Nat),.int (max e b:Nat)])->ab (.ref r) D):sI [.ref l] ab I:= (c7 ([(e:Int),(b:Int)]) (.inl C) (by decide:2<64) λout aw r D n=>ad r D n.ext<|by rw[n.at,TA aw];rfl)
structure iU (I:az)(sp d u:Addr)(aa:List V)(lo aL f l:Nat):Prop where
 d3:I sp=kZ (.inst 566 d)
 id:I d=kZ (.attrs 566 (oz (.int ((lo:Int)+1)) (.int ((aL:Int)+1)) (.ref u) (.int (f:Nat)) (.int (l:Nat))))
 iD:I u=kZ (.list aa)
theorem iU.ext {u:Addr}(C:iU I a ae u aa e aL b i)(x:bp I Z):iU Z a ae u aa e aL b i:=⟨x _ _ C.d3,x _ _ C.id,x _ _ C.iD⟩
theorem Zo (C:iU I ae a cl aa i aL e b)(aP:ad (.int<|(i:Int)+1)):d2 I ae "low" ad:=di C.d3 C.id Va aP
theorem Zn (C:iU I ae a cl aa i aL e b)(aP:ad (.int<|(aL:Int)+1)):d2 I ae "high" ad:=di C.d3 C.id U8 aP
theorem n1 (C:iU I ae a cl aa i aL e b)(aP:ad (.ref cl)):d2 I ae "rows" ad:=di C.d3 C.id Vb aP
theorem ml (C:iU I ae a cl aa i aL e b)(aP:ad (.int (e:Nat))):d2 I ae "first" ad:=di C.d3 C.id U7 aP
theorem n0 (C:iU I ae a cl aa i aL e b)(aP:ad (.int (b:Nat))):d2 I ae "last" ad:=di C.d3 C.id U9 aP
theorem vS (C:e<=b):c5 A e<=cN A b:=nf rk<|nf C vR
theorem Yj (H:a2 c)(B:dL W I b pt ak af)(ax:i<=b)(he:e<=b)(ad:∀t Z,bp I Z->Z t=kZ (.tup [.int<|(min i e:Nat)+1,.int<|(max i e:Nat)+1])->ab (.ref t) Z): be c 1 (.ref 324) [.ref W.b,.int<|(i:Int)+1,.int<|(e:Int)+1] ab I:= Al H B one_le (qa ax) one_le (qa he) λt Z x C=>ad t Z x (by
  rw[C];rcases dR i e with X|X
  ·rw[nk<|oU X,LU<|oU X,ke X,pl X]
  ·rw[xe<|oU X,LZ<|oU X,mx X,abA X])
theorem Go {s:Nat}:min (c9 A<|min s e) (c9 A<|max s e)=min (c9 A s) (c9 A e)/\max (c9 A<|min s e) (c9 A<|max s e)=max (c9 A s) (c9 A e):=by
 rcases dR s e with X|X
 ·rw[ke X,pl X];exact⟨rfl,rfl⟩
 ·rw[mx X,abA X];exact⟨Nat.min_comm ..,w7 ..⟩
theorem Zq (H:a2 c)(B:bQ W I A pt ak af)(aw:cS A)(ax:i<=A.length)(he:e<=A.length)(aj:A.length<=100000) (ad:∀sp d u aa Z,bp I Z->iU Z sp d u aa (c5 A<|min i e) (cN A<|max i e) (min (c9 A i)<|c9 A e) (max (c9 A i)<|c9 A e)-> cc (hW I Z) aa (dW<|(A.take<|cN A<|max i e).drop<|c5 A<|min i e)->I u=By->ab (.ref sp) Z): be c 5 (.ref 598) [.ref W.b,.int<|(i:Int)+1,.int<|(e:Int)+1,.int 8] ab I:=by refine PG (n:=4) H<|ci (H.f 19)<|Yj H B.R ax he λt au U bu=>eY bu rfl ?_;rw[<-(Go (A:=A) (s:=i) (e:=e)).1,<-(Go (A:=A) (s:=i) (e:=e)).2] at ad;have aE:min i e<=A.length:=nf (abi ..) ax;have aA:max i e<=A.length:=abl.mpr ⟨ax,he⟩;have K:min i e<=max i e:=nf (abi ..)<|xj ..;generalize min i e=a at*;generalize max i e=b at*;have ah:=B.ext U;refine ci (H.f 31)<|zm H ah aE<|ci (H.f 32)<|zl H ah aA<|fy rfl rfl λF aS aR aT bd=>eY bd rfl ?_;intros N;have h:=ah.ext aR;refine ci (H.f 55)<|yl H h aw aE aj λaM bj=>ci (H.f 55)<|yl H (h.ext bj) aw aA aj λay bf=>dA rfl rfl λl bh bD y bE=>Zm bE λr bv bL az=>?_;have x:bp I bv:=((((U.trans aR).trans bj).trans bf).trans bD).trans bL;have E:=B.ext x;refine⟨(H.k 9).keep,(H.f 53),kp E.R (λq q q=>zP) (H.m 16)<|ca<|uI H E (vS K) (rj aA) λaI bO bw aq ai=>ca<|JH H ai (fl<|fZ aj) λu aa bz aN z aQ aX=>?_⟩;have o:=aN _ _<|bw _ _ az;exact cE (k:=0) o rfl (c0 rfl)<|cE (k:=1) o rfl (c0 rfl)<|ca<|Do H (λX=>by cases X) (λX=>by cases X) (λX=>by cases X) (λX=>by cases X) (λX=>by cases X) λsp d aO j=>ad sp d u aa aO (((x.trans bw).trans aN).trans j.ext) ⟨j.d3,j.id,j.ext _ _ aQ⟩ (aX.mono λw xs X=>(hW.MI X<|x.trans bw).on λq q q g=>j.ext _ _ g)<|(x.trans bw).none z
def fY (cC:Nat)(ax new:List Int):Nat:=fF cC ax new
def ez (cC eD:Nat)(ax new:List Int):Nat:=fF eD (ax.drop<|fY cC ax new).reverse (new.drop<|fY cC ax new).reverse
def o8 (p cC eD:Nat)(ax new:List Int):Int->Int:=dO (((p+fY cC ax new:Nat):Int)+1) (((p+ax.length -ez cC eD ax new:Nat):Int)+1) ((new.length -ez cC eD ax new -fY cC ax new:Nat):Int)
theorem wk {cC:Nat}{ax new:List Int}:fY cC ax new<=ax.length/\fY cC ax new<=new.length:=⟨yi.2.1,yi.2.2⟩
theorem tG {cC eD:Nat}{ax new:List Int}:ez cC eD ax new<=ax.length -fY cC ax new/\ez cC eD ax new<=new.length -fY cC ax new:=by have:=@yi eD (ax.drop<|fY cC ax new).reverse (new.drop<|fY cC ax new).reverse;rw[aaH,aaH,BU,BU] at this;exact this.2
theorem Ys:A.take (fY cC A xs)=xs.take (fY cC A xs):=Gj
theorem Yu:A.drop (A.length -ez cC eD A xs)=xs.drop (xs.length -ez cC eD A xs):=by have C:=@Gj eD (A.drop<|fY cC A xs).reverse (xs.drop<|fY cC A xs).reverse;have an:=@tG cC eD A xs;have hf:=@wk cC A xs;change B4 (ez cC eD A xs) _=B4 (ez cC eD A xs) _ at C;rw[aby,aby,List.reverse_inj,abB,abB,BU,BU] at C;rwa[I1 an.1 hf.1,I1 an.2 hf.2] at C
theorem JF {aH bl ax new:List Int}{cC eD:Nat}:(aH++ax++bl).take (aH.length+fY cC ax new)++(new.take<|new.length -ez cC eD ax new).drop (fY cC ax new)++(aH++ax++bl).drop (aH.length+ax.length -ez cC eD ax new)=aH++new++bl:=by
 have an:=@tG cC eD ax new;have hf:=@wk cC ax new;have a8:(aH++ax++bl).take (aH.length+fY cC ax new)=aH++new.take (fY cC ax new):=by rw[<-Ys,aaG,B2,xf hf.1]
 have bo:(aH++ax++bl).drop (aH.length+ax.length -ez cC eD ax new)=new.drop (new.length -ez cC eD ax new)++bl:=by rw[<-Yu,aaG,Nat.add_sub_assoc<|zL an.1,LQ,B1<|BW ..]
 rw[a8,bo];exact VT<|p5 an.2 hf.2
theorem YA (ai:j<=b)(ao:j<=i)(a7:aL<=b -j)(aj:e+b+aD+i<=100000):e+j<=e+b -aL/\e+b -aL<=e+b+aD/\e+b+aD+(i -aL -j)<=100000/\b<=100000:=⟨ff 1460764265158911250796673 ai a7 rfl rfl,dH 1162734941079553 rfl,tk 2359525229954253707547911239272577 aj rfl rfl,bS 3432681887042561 aj⟩
theorem to2 (C:e<=100000):e<=200000:=nf C (by decide)
theorem Yd (H:a2 c){bl:List Int}(B:bQ W I (A++xs++bl) pt ak af)(aw:I a=kZ (.list<|bm xs))(aO:I ae=kZ (.list<|bm t))(d:t.length<=100000)(aj:A.length+xs.length+bl.length+t.length<=100000) (ad:∀Z,Fr (b2 W.cl) No c8 I Z->bQ W Z (A++t++bl) (o8 A.length cC eD xs t pt) ak (d6 (o8 A.length cC eD xs t) af)->ab .none Z): be c 7 (.ref 612) [.ref W.b,.int<|(A.length:Nat)+1,.ref a,.ref ae,.int cC,.int eD] ab I:=by
 intros bs;have an:=@tG cC eD xs t;have hf:=@wk cC xs t;refine i7 (YA hf.1 hf.2 an.1 aj) λbN bP aW g=>?_;refine Pu (n:=6) H<|ci (H.f 57)<|Gq H aw aO (to2 g) (to2 d) ⟨(H.f 57),tR (k:=fY cC xs t) aw (gb g) λi au U s aI=>Kx aI (fl<|gb g) λh aS aR aT bd=>?_⟩;intros V;refine tR (k:=fY cC xs t) (aR _ _<|U _ _ aO) (gb d) λj aM bj a9 bn=>Kx bn (fl<|gb d) λl ay bf bq a3=>ca<|Gq H (bf _ _<|bj _ _ bd) a3 (by rw[aaH];exact to2<|fl g) (by rw[aaH];exact to2<|fl d) ?_;have x:bp I ay:=((U.trans aR).trans bj).trans bf;have e:=x _ _ aO;refine abx (H.f 30)<|jq (m:=((A.length+fY cC xs t:Nat):Int)+1) MA<|ed (x _ _ aw) (gb g)<|dt<|gJ (m:=((A.length+xs.length -ez cC eD xs t:Nat):Int)+1) (ZI<|zL an.1)<|ed e (gb d)<|dC<|qp e (fY cC xs t) (t.length -ez cC eD xs t) rfl (wy<|zL an.2) (gb d) λo bh bD y bE=>ca<|Yo H (B.ext<|x.trans bD) bE (B.T.ne<|x.none y) bN ?_ ?_ λp bv aJ E=>?_
 ·rw[nb,nb];exact bP
 ·rw[nb,nb,BU,qC,ke<|BW ..];exact aW
 have bF:((t.take<|t.length -ez cC eD xs t).drop<|fY cC xs t).length=t.length -ez cC eD xs t -fY cC xs t:=by rw[BU,qC,ke<|BW ..]
 exact ad _ ((Fr.cv<|x.trans bD).trans aJ)<|E.as JF (by rw[bF];rfl) (by rw[bF];rfl)
noncomputable def dj (lo:Nat)(M:List (List Int))(k:Nat):Nat:=lo+((M.take k).map λr=>r.length+1).sum
def qo (lo first aD:Nat)(h a5:List (List Int))(k:Nat):Int->Int:=match h[k]?,a5[k]? with
 |some o,kZ w=>if w=o then λp=>p else o8 (dj lo h k) (min first o.length) (o.length -aD) o w
 |_,_=>λp=>p
noncomputable def fB (lo first aD:Nat)(h a5:List (List Int)):Nat->Int->Int
 |0=>λp=>p
 |j+1=>λp=>qo lo first aD h a5 (h.length -(j+1))<|fB lo first aD h a5 j p
theorem Jp:d6 bn (d6 bG af)=d6 (λp=>bn<|bG p) af:=by unfold d6;rw[uj];rfl
theorem qQ {lo:Nat}(C:h[e]?=kZ A):dj lo h (e+1)=dj lo h e+A.length+1:=by unfold dj;rw[jH,C,abr,qB,B8];simp;exact lq 946046780464791683
theorem ra (C:h≠[]):aY (A::h)=A++10::aY h:=by
 cases h with
 |nil=>exact(C rfl).elim
 |cons s h=>rfl
noncomputable def eu (M:List (List Int)):List Int:=(M.map λr=>r++[10]).flatten
noncomputable def gh (M:List (List Int)):List Int:=(M.map λr=>10::r).flatten
theorem HF:aY (A::h)=A++gh h:=by
 induction h generalizing A with
 |nil=>exact(Bs A).symm
 |cons s h D=>refine(?_:A++10::aY (s::h)=A++gh (s::h));refine J D ?_;rfl
theorem vN:∀{k:Nat} {r:List Int},h[k]?=kZ r->aY h=eu (h.take k)++r++gh (h.drop<|k+1):=by
 induction h with
 |nil=>intro k r C;exact bY C
 |cons s h D=>intro k r C;cases k with
  |zero=>cases C;exact HF
  |succ k=>cases h with
   |nil=>exact bY C
   |cons t o=>refine(?_:s++10::aY (t::o)=eu (s::(t::o).take k)++r++gh ((t::o).drop<|k+1));refine J (D C) ?_;simp[eu]
theorem vK:(eu h).length=(h.map λr=>r.length+1).sum:=by unfold eu;rw[List.length_flatten,uj];congr 1;apply qF;intro r q;simp
theorem iU.fr {ae:Addr->Prop}{f:Nat}(C:iU I a cl bs aa e aL f b)(x:Fr L D ae I Z)(H:¬ ae 566)(cj:¬ L bs):iU Z a cl bs aa e aL f b:=⟨x.inst C.d3,x.attrs C.id H,x.list C.iD cj⟩
theorem cc.oP (C:cc (IsL aH I) aa h)(x:Fr L D aF I Z)(M:∀a,L a->aH a):cc (IsL aH Z) aa h:=C.mono λq q X=>X.fr x M
theorem te (C:h[e]?=kZ A):(eu<|h.take e).length+A.length<=(aY h).length/\A.length+(gh<|h.drop<|e+1).length<=(aY h).length:=by refine J (vN C)<|J nb<|J nb ?_;exact⟨w2 ..,by refine J (BZ _ _ _) ?_;exact w4 ..⟩
theorem Km (C:h[e]?=kZ A):h.take (e+1)=h.take e++[A]:=by refine J jH<|J C ?_;rfl
theorem yx (C:h[e]?=kZ A):h.drop e=A::h.drop (e+1):=by obtain⟨ai,ao⟩:=xn.mp C;exact J (abp ai)<|J ao rfl
variable{Q:List (List Int)}
theorem zA:aY (h++A::Q)=eu h++A++gh Q:=by refine J (vN (k:=h.length) (r:=A)<|by rw[kU<|nu _,abk];rfl)<|J B3<|J ul<|J (jf<|Bv _)<|J (kh _ _) ?_;rfl
variable{a5:List (List Int)}
theorem v0 (C:h[e]?=kZ A):aY (h.take (e+1)++a5.drop (e+1))=eu (h.take e)++A++gh (a5.drop<|e+1):=by refine J (Km C)<|J (aaG _ _ _) ?_;exact zA
theorem zE (C:a5[e]?=kZ A):aY (h.take e++a5.drop e)=eu (h.take e)++A++gh (a5.drop<|e+1):=by refine J (yx C) ?_;exact zA
theorem sA:e+(eu<|h.take b).length=dj e h b:=by refine J vK ?_;rfl
theorem FX {lo:Nat}(C:h≠[]):dj lo h h.length=lo+(aY h).length+1:=by obtain⟨bw,y,rfl⟩:∃bw y,h=bw++[y]:=⟨h.dropLast,h.getLast C,(LO _).symm⟩;refine J zA<|a6 sA<|J oe<|J vK<|J qB<|J B8<|J nb<|J nb<|J vK<|J (BZ lo _ _) ?_;rfl
theorem Jr (ai:i+aD<=cC)(ao:aL+j<=b)(aj:e+cC+b+ey<=100000):(e+i)+aD+(j+ey)+aL<=100000/\aD<=100000/\aL<=100000:=⟨tk 1067282395865651563735733538289197699860609 ai ao aj,ff 3638780295936896732161 ai aj,ff 3636618568116010552321 ao aj⟩
theorem MS (C:h[b]?=kZ A):((dj e h (b+1):Nat):Int) -A.length=((e+(eu<|h.take b).length:Nat):Int)+1:=by refine J (qQ C)<|a6 sA ?_;exact lq 3855993307035395984025
theorem wx (ap:j<h.length)(p:Int):fB b i aD h a5 (h.length -j) p=qo b i aD h a5 j (fB b i aD h a5 (h.length -(j+1)) p):=by
 obtain⟨m,e⟩:∃m,h.length -j=m+1:=⟨h.length -j -1,(kf<|LJ ap).symm⟩;have aW:h.length -(j+1)=m:=by refine J (w6 _ _ _)<|J e ?_;rfl
 have w:h.length -(m+1)=j:=a6 e<|J (B6<|rW ap) rfl;refine J e<|J aW ?_;refine(?_:qo b i aD h a5 (h.length -(m+1)) _=_);exact J w rfl
theorem ww {lo f:Nat}(ai:h[e]?=kZ A)(ao:a5[e]?=kZ xs)(C:¬ xs=A)(bb:t.length=dj lo h e)(p:Int):o8 t.length (A.take f).length (A.drop aD).length A xs p=qo lo f aD h a5 e p:=by unfold qo;refine J ai<|J ao<|J bb<|J qC<|J BU ?_;exact(congrFun (if_neg C) p).symm
theorem wv (ai:h[i]?=kZ A)(ao:a5[i]?=kZ xs)(C:xs=A)(p:Int):p=qo e b aD h a5 i p:=by unfold qo;refine J ai<|J ao ?_;refine(?_:p=(if xs=A then(λp=>p) else _) p);exact J (if_pos C) rfl
theorem Jx (H:a2 c)(B:bQ W I (A++aY h++xs) pt ak af)(M:aF W.cl)(O:eF aF I)(g:iU I ae cl bs aa A.length aL e i)(G:aL=A.length+(aY h).length) (aG:bs≠W.cl)(aw:cc (IsL aF I) aa h)(S:I N=kZ (.list am))(s:N≠W.cl)(aO:cc (IsL aF I) am a5)(an:h.length=a5.length)(h0:h≠[])(aP:∀r∈h,bU r)(aj:A.length+(aY h).length+(aY a5).length+xs.length<=100000) (D:h.length<=50000) (ad:∀Z,Fr (b2 W.cl) No c8 I Z->bQ W Z (A++aY a5++xs) (fB A.length e aD h a5 h.length pt) ak (d6 (fB A.length e aD h a5 h.length) af)->ab .none Z): be c 8 (.ref 619) [.ref W.b,.ref ae,.ref N,.int aD,.int 8] ab I:=by
 have v:=aw.length;have U:=aO.length.trans an.symm;have K:h.length<=100000:=nf D (by decide);let E:Nat->V×V×V×V->List V:=λk x=>[.ref W.b,.ref ae,.ref N,.int aD,.int 8,x.1,.int (dj A.length h k:Nat),x.2.1,x.2.2.1,x.2.2.2];let a4:Nat->V×V×V×V->az->Prop:=λk q Z=>Fr (b2 W.cl) No c8 I Z/\bQ W Z (A++aY (h.take k++a5.drop k)++xs) (fB A.length e aD h a5 (h.length -k) pt) ak (d6 (fB A.length e aD h a5<|h.length -k) af);refine Pv (n:=7) H<|Zn g<|li S (gz<|U▸K)<|gJ (m:=(h.length:Int) -1) (J U rfl)<|Yy K<|T6 E a4 (a:=(.aK,.aK,.aK,.aK)) ?_ ⟨.cv .refl,?_⟩ (λk x au C ap=>?_) λx au C=>?_
 ·refine(?_:_=[_,_,_,_,_,_,V.int (dj A.length h h.length:Nat),_,_,_]);refine J (FX h0)<|J G ?_;rfl
 ·refine J (abk _)<|J oe<|J an<|J B9<|J (Bs _) ?_;exact B.as rfl rfl (Ah λq=>rfl).symm
 ·refine hr ?_;intro aQ;intros aH;obtain⟨ba,ah⟩:=C;obtain⟨ax,d⟩:∃r,h[k]?=kZ r:=⟨_,Lw ap⟩;obtain⟨new,u⟩:∃r,a5[k]?=kZ r:=⟨_,Lw<|an▸ap⟩;have Q:=g.fr ba (by decide) aG;have X:=ba.list S s;refine bP λbz aN=>?_;refine kL ((aw.oP ba λa C=>C▸M).get d) λw a1 aJ a3 aV z=>?_;subst a3;refine kL ((aO.oP ba λa C=>C▸M).get u) λT bd a0 a3 aW ag=>?_;subst a3;have j:=aP _<|jI d;refine hO (Jr (te d).1 (te u).2 aj) λa6 aC bq=>?_;refine aN ?_;have bb:(A++eu (h.take k)).length=dj A.length h k:=J nb<|J sA rfl;have aB:=gz<|v▸K;have al:=gz<|U▸K;have bo:A++aY (h.take k++a5.drop k)++xs=(A++eu (h.take k))++new++(gh (a5.drop<|k+1)++xs):=by refine J (zE u) ?_;simp only[aaG]
  refine n1 Q<|cE Q.iD a1 aB<|ed z (gb aC)<|gJ (m:=(((A++eu (h.take k)).length:Nat):Int)+1) (by refine J nb ?_;exact MS d)<|cE X bd al<|I6 ag z<|mn (λaX=>?_) λR=>?_
  ·intros aT;refine jA ?_;intro aU;refine⟨(H.f 41),ml Q<|ca<|ox H z j aC λt a b aS aR L na aZ bu aE aA=>it (k:=0) bu rfl (c0 rfl)<|ed aE (fZ<|gb aC) ⟨(H.f 58),cE (aR _ _ X) bd al ⟨(H.f 41),ca<|ox H (aR _ _ z) j aC λF aI y aM bj av aq ar ao ai a8=>it (k:=1) ao rfl (c0 rfl)<|ed a8 (fl<|gb aC) ?_⟩⟩⟩;have l:=aR.trans bj;refine ca (Yd H (bl:=gh (a5.drop<|k+1)++xs) ((ah.ext l).as (by refine J (v0 d) ?_;simp only[aaG]) rfl rfl) (l _ _ z) (l _ _ ag) bq (by refine J nb<|J nb ?_;exact a6) λay bK o=>gJ (m:=(dj A.length h k:Nat)) (J mM<|J bb rfl)<|eC.mk (E:=E k) (P:=a4 k) (_,_,_,_) ⟨(ba.trans<|.cv l).trans bK,o.as bo.symm ?_<|Jp.trans<|qh λp=>?_⟩)
   ·refine J (wx ap _) ?_;exact ww d u aX bb _
   ·refine J (wx ap _) ?_;exact ww d u aX bb _
  ·refine gJ (m:=(dj A.length h k:Nat)) (J mM<|J bb rfl) (eC.mk (E:=E k) (P:=a4 k) (x.1,.int<|((A++eu (h.take k)).length:Nat)+1,.ref aJ,.int k) ⟨ba,ah.as ?_ ?_<|qh λp=>?_⟩)
   ·refine J bo<|J (v0 d)<|J R ?_;simp only[aaG]
   ·refine J (wx ap _) ?_;exact wv d u R _
   ·refine J (wx ap _) ?_;exact wv d u R _
 ·exact ad _ C.1<|C.2.as (by refine J w8<|J kW ?_;rfl) rfl rfl
theorem AF:dW (A++[pt])=if pt=10 then dW A++[[]] else(hS A).1++[(hS A).2++[pt]]:=by unfold dW;refine J AC ?_;unfold iJ;split<;>simp
theorem y6:∀(n:Nat) (cs:List Int),cs.length=n->aY (dW cs)=cs:=by
 intro n;induction n with
 |zero=>intro cs C;cases gB.mp C;rfl
 |succ n D=>
  intro cs C;obtain⟨bw,y,rfl⟩:∃bw y,cs=bw++[y]:=⟨cs.dropLast,cs.getLast (λe=>by rw[e] at C;cases C),(LO _).symm⟩;have e:=D bw (by simpa using C);refine J AF ?_;unfold dW at e⊢;rw[oR] at e;split
  ·rename_i G;exact J oR<|J (if_neg<|by simp)<|J oR<|J e<|J G rfl
  ·refine J oR ?_;split
   ·rename_i h0;rw[if_pos h0] at e;exact J e rfl
   ·rename_i h0;rw[if_neg h0] at e;conv=>rhs;rw[<-e]
    simp
theorem AE:dW A≠[]:=by unfold dW;simp
theorem tM:∀(n:Nat) (cs:List Int),cs.length=n->cS cs->∀r∈dW cs,bU r:=by
 intro n;induction n with
 |zero=>intro cs C q r aB;cases gB.mp C;simp[dW,hS] at aB;refine J aB ?_;exact bU.nil
 |succ n D=>
  intro cs C aw r aB;obtain⟨bw,y,rfl⟩:∃bw y,cs=bw++[y]:=⟨cs.dropLast,cs.getLast (λe=>by rw[e] at C;cases C),(LO _).symm⟩;have a:=D bw (by simpa using C) λx Q=>aw x<|sd _ Q;rw[AF] at aB;split at aB
  ·rcases bc.mp aB with aB|aB
   ·exact a r aB
   ·cases aaO.mp aB;exact bU.nil
  ·rename_i G;unfold dW at a;rcases bc.mp aB with aB|aB
   ·exact a r<|sd _ aB
   ·cases aaO.mp aB;exact(a _<|LX _<|.head _).append λx Q=>by cases aaO.mp Q;exact(aw y<|by simp).resolve_left G
theorem J2 {cs:List Int}:(dW cs).length<=cs.length+1:=by have:=(@J1 cs).1;unfold dW;simp;exact bC 1052929 this
theorem vL (C:A∈h):A.length<=(aY h).length:=by obtain⟨k,ap⟩:=qE.mp C;have:=te ap;exact b1 271061249 this.1
theorem rd:∀{M:List (List Int)},M≠[]->(aY M).length+1=(M.map λr=>r.length+1).sum
 |[r],_=>by simp[aY]
 |r::s::o,_=>by have:=@rd (s::o) (λX=>by cases X);refine(?_:(r++10::aY (s::o)).length+1=_);refine J n8<|J LY<|a6 this ?_;simp;exact lp 943733408177588355
theorem J7 {f g:List Int->Nat}{K:Nat}:∀{M:List (List Int)},(∀r∈M,f r<=g r+K)->(M.map f).sum<=(M.map g).sum+M.length*K:=by
 intro h;induction h with
 |nil=>intro s;simp
 |cons r o D=>intro C;have:=D λr aB=>C r<|.tail _ aB;have ai:=C r<|.head _;refine J n8<|J n8<|J LY<|J LY<|J hC<|J (se _ _) ?_;exact ff 6233547068324477758083201 this ai
theorem J9 {g:List Int->List Int}(h0:h≠[]):(aY<|h.map g).length+1=(h.map λr=>(g r).length+1).sum:=by refine J (rd λe=>h0<|Ca.mp e)<|J uj ?_;rfl
theorem TO {M:List (List Int)}{g:List Int->List Int}{K:Nat}(C:∀r∈M,(g r).length<=r.length+K)(h0:M≠[]):(aY<|M.map g).length<=(aY M).length+M.length*K:=by
 have:=@J7 (λr=>(g r).length+1) (λr=>r.length+1) K M λr aB=>by refine J (og _ _ _) ?_;exact t4<|C r aB
 rw[<-J9 (g:=g) h0,<-rd h0,og] at this;exact Cb this
theorem TN {M:List (List Int)}{g:List Int->List Int}(C:∀r∈M,r.length<=(g r).length)(h0:M≠[]):(aY M).length<=(aY<|M.map g).length:=by have:=@J7 (λr=>r.length+1) (λr=>(g r).length+1) 0 M λr aB=>t4<|C r aB;rw[<-J9 (g:=g) h0,<-rd h0,Nat.mul_zero] at this;exact Cb this
def ef (A:List Int)(s e:Nat):Nat:=c5 A<|min s e
def gx (A:List Int)(s e:Nat):Nat:=cN A<|max s e
def bk (A:List Int)(s e:Nat):List (List Int):=dW<|(A.take<|gx A s e).drop<|ef A s e
def b7 (A:List Int)(s e:Nat):Nat:=min (c9 A s)<|c9 A e
def b8 (A:List Int)(s e:Nat):Nat:=max (c9 A s)<|c9 A e
def fC (A:List Int)(s e:Nat)(a5:List (List Int)):List Int:=A.take (ef A s e)++aY a5++A.drop (gx A s e)
def d4 (A:List Int)(s e aD:Nat)(a5:List (List Int)):Int->Int:=fB (ef A s e) (b7 A s e) aD (bk A s e) a5 (bk A s e).length
theorem yk {A:List Int}{k:Nat}:c9 A k<=k:=BW ..
structure jT (A:List Int)(s e:Nat):Prop where
 UE:ef A s e<=gx A s e
 aO:gx A s e<=A.length
 eq:A=A.take (ef A s e)++aY (bk A s e)++A.drop (gx A s e)
 p2:(A.take (ef A s e)).length=ef A s e
 an:gx A s e=(A.take (ef A s e)).length+(aY (bk A s e)).length
 ne:bk A s e≠[]
 dE:∀r∈bk A s e,bU r
 kv:b7 A s e<=b8 A s e
 lt:b8 A s e<=A.length
 fx:(bk A s e).length<=A.length+1
 tZ:∀r∈bk A s e,r.length<=A.length
theorem gH {A:List Int}{s e:Nat}(aw:cS A)(ax:s<=A.length)(he:e<=A.length):jT A s e:=by
 have ai:ef A s e<=gx A s e:=vS<|bS 3443810918657 rfl rfl;have ao:gx A s e<=A.length:=rj<|bS 880507773653249 ax he rfl;have a:aY (bk A s e)=(A.take<|gx A s e).drop (ef A s e):=y6 _ _ rfl;have bF:((A.take<|gx A s e).drop<|ef A s e).length=gx A s e -ef A s e:=by refine J BU<|J qC ?_;exact ff 928553584327514001667 ao rfl rfl rfl
 refine⟨ai,ao,?_,by refine J qC ?_;exact bS 862442873753859 ai ao rfl,by refine J a<|J bF<|J qC ?_;exact dH 14210059676884908775427 ai ao rfl rfl,AE,tM _ _ rfl λx Q=>aw x<|BX<|od Q,by unfold b7 b8;exact bS 3443810918657 rfl rfl,?_,?_,λr aB=>?_⟩
 ·refine J a ?_;exact(J0 ai).symm
 ·have:=@yk A s;have:=@yk A e;unfold b8;exact ff 24807651026537010041089 ax he ‹_› this rfl
 ·have:=@J2<|(A.take<|gx A s e).drop<|ef A s e;unfold bk;exact ff 388522117139745468127233 ao bF this rfl
 ·have:=vL aB;rw[a,bF] at this;exact dH 1164739314061569 ao this rfl
theorem cc.l2 (C:cc (hW Z I) aa h)(M:eF aF Z):cc (IsL aF I) aa h:=C.mono λq q X=>X.oO M
theorem qj (g:List Int->List Int)(M:eF aF I)(aB:I ae=kZ (.list aa))(L:cc (IsL aF I) aa h)(aj:aa.length<=100000) (ax:∀au w aC K,bp I au->aC∈h->au w=kZ (.list<|bm aC)->pu K au w (g aC)->ck (.ref w::e7) K au) (hf:∀a Z,bp I Z->eh aF Z (.ref a) (h.map g)->ch a Z):km (.list ae) ck e7 (λag Z=>∀a D,ei Z D a (.list ag)->ch a D) I:= Qu g M aB L (by refine J wT ?_;exact nf aj<|by decide) (λau u aC K U bj A l bZ=>eK A λa e na aE=>e▸ax au a aC K U l aE λb aS aR aZ aA=>bZ _ _ aR<|c7 b rfl (aZ.elim (λX=>X▸na) bj.fresh) aA) λag aS aR ba a aM a9=>hf a aM (aR.trans a9.ext)<|gA a ag rfl ((M.ext aR).fresh a9.1) a9.at (ba.mono λq q X=>X.ext a9.ext)
theorem p8 (R:jT A b e)(aj:A.length<=40000)(C:cc (hW I Z) aa (bk A b e)):aa.length<=100000:=C.length▸nf R.fx (nf (t4 aj)<|by decide)
theorem Bo (C:e<=40000):e<=100000:=nf C (by decide)
theorem jT.n6 (R:jT A b e)(aj:A.length<=40000)(C:xs∈bk A b e):xs.length<=100000:=nf (R.tZ xs C)<|Bo aj
theorem jT.lt' (R:jT A b e)(aj:A.length<=40000):b8 A b e<=100000:=nf R.lt<|Bo aj
theorem qn (H:a2 c)(B:bQ W I A pt ak af)(aw:cS A)(ax:b<=A.length)(he:e<=A.length)(aj:A.length<=40000) (ad:∀sp d u aa Z,bp I Z->iU Z sp d u aa (ef A b e) (gx A b e) (b7 A b e) (b8 A b e)->cc (hW I Z) aa (bk A b e)->I u=By->ab (.ref sp) Z): be c 5 (.ref 598) [.ref W.b,.int<|(b:Int)+1,.int<|(e:Int)+1,.int 8] ab I:=Zq H B aw ax he (Bo aj) ad
theorem u8 (H:a2 c)(B:bQ W I A pt ak af)(aw:cS A)(ax:b<=A.length)(he:e<=A.length)(aj:A.length<=40000)(M:eF aF I) (ad:∀a Z,bp I Z->eh aF Z (.ref a) ((bk A b e).map λr=>l1 r (b7 A b e)<|b8 A b e)->ab (.ref a) Z): be c 8 (.ref 624) [.ref W.b,.int<|(b:Int)+1,.int<|(e:Int)+1,.int 8] ab I:=by have R:=gH aw ax he;refine OQ (n:=7) H<|ci (H.f 56)<|qn H B aw ax he aj λsp d u aa au U g aX z=>n1 g<|gd g.iD<|qj (λr=>l1 r (b7 A b e)<|b8 A b e) (M.ext U) g.iD (aX.l2 M) (p8 R aj aX) (λaS w aC K aR l a1 bZ=>?_) λa aS aR aE=>ad a aS (U.trans aR) aE;have h:=g.ext aR;exact⟨(H.f 44),ml h<|n0 h<|ca<|Rs H a1 (R.dE _ l) (R.n6 aj l) R.kv (R.lt' aj) bZ.Kn⟩
theorem tE (R:jT A b e):(A.take<|ef A b e).length+(aY<|bk A b e).length+(A.drop<|gx A b e).length=A.length:=by
 conv=>rhs;rw[R.eq]
 rw[nb,nb]
theorem J5 (H:a2 c)(B:bQ W I A pt ak af)(aw:cS A)(ax:b<=A.length)(he:e<=A.length)(M:eF aF I)(v:aF W.cl) (g:iU I ae l cl aa (ef A b e) (gx A b e) (b7 A b e) (b8 A b e))(aX:cc (IsL aF I) aa (bk A b e))(aQ:¬ aF cl)(S:eh aF I (.ref bs) a5)(an:(bk A b e).length=a5.length)(aj:A.length+(aY a5).length<=90000)(N:A.length<=40000) (ad:∀Z,Fr (b2 W.cl) No c8 I Z->bQ W Z (fC A b e a5) (d4 A b e aD a5 pt) ak (d6 (d4 A b e aD a5) af)->ab .none Z): be c 8 (.ref 619) [.ref W.b,.ref ae,.ref bs,.int aD,.int 8] ab I:=by
 have R:=gH aw ax he;refine cq S λa d a8 na aE f=>?_;clear S;cases a8;refine Jx H (B.as R.eq rfl rfl) v M (R.p2.symm▸g) R.an (λX:cl=W.cl=>aQ<|X▸v) aX aE (λX=>na<|X▸v) f an R.ne R.dE ?_ (nf R.fx<|nf (t4 N)<|by decide) λZ F h=>?_
 ·refine J (og _ _ _)<|J (tE R) ?_;exact nf aj (by decide)
 ·rw[R.p2] at h;exact ad Z F h
theorem tO (H:a2 c){ar:az}(B:bQ W ar A pt ak af)(aw:cS A)(ax:b<=A.length)(he:e<=A.length)(M:eF aF ar)(v:aF W.cl)(U:bp ar au) (g:iU au a ae l aa (ef A b e) (gx A b e) (b7 A b e) (b8 A b e))(aX:cc (hW ar au) aa (bk A b e))(z:ar l=By)(x:bp au I)(S:eh aF I (.ref cl) a5)(an:(bk A b e).length=a5.length)(aj:A.length+(aY a5).length<=90000)(N:A.length<=40000) (ad:∀Z,Fr (b2 W.cl) No c8 ar Z->bQ W Z (fC A b e a5) (d4 A b e aD a5 pt) ak (d6 (d4 A b e aD a5) af)->ab .none Z): be c 8 (.ref 619) [.ref W.b,.ref a,.ref cl,.int aD,.int 8] ab I:= J5 H (B.ext<|U.trans x) aw ax he (M.ext<|U.trans x) v (g.ext x) ((aX.l2 M).mono λq q X=>X.ext x) (M.fresh z) S an aj N λZ F a0=>ad Z ((Fr.cv<|U.trans x).trans F) a0
theorem yu (H:a2 c)(B:bQ W I A pt ak af)(aw:cS A)(ax:b<=A.length)(he:e<=A.length)(aj:A.length+(aY<|(bk A b e).map λr=>r.take (b7 A b e)++r.drop (b8 A b e)).length<=90000)(N:A.length<=40000)(M:eF aF I)(v:aF W.cl) (ad:∀Z,Fr (b2 W.cl) No c8 I Z->bQ W Z (fC A b e<|(bk A b e).map λr=>r.take (b7 A b e)++r.drop (b8 A b e)) (d4 A b e (b8 A b e) ((bk A b e).map λr=>r.take (b7 A b e)++r.drop (b8 A b e)) pt) ak (d6 (d4 A b e (b8 A b e)<|(bk A b e).map λr=>r.take (b7 A b e)++r.drop (b8 A b e)) af)->ab .none Z): be c 9 (.ref 629) [.ref W.b,.int<|(b:Int)+1,.int<|(e:Int)+1,.int 8] ab I:=by have R:=gH aw ax he;refine OD (n:=8) H<|ci (H.f 56)<|qn H B aw ax he N λsp d u aa au U g aX z=>⟨(H.f 59),n1 g<|gd g.iD<|qj (λr=>r.take (b7 A b e)++r.drop (b8 A b e)) (M.ext U) g.iD (aX.l2 M) (p8 R N aX) (λaS w aC K aR l a1 bZ=>?_) λa aS aR aE=>n0 (g.ext aR)<|ca<|tO H B aw ax he M v U g aX z aR aE (aa0 ..).symm aj N ad⟩;have h:=g.ext aR;exact⟨(H.f 45),ml h<|n0 h<|ca<|Q6 H a1 (R.dE _ l) (R.n6 N l) R.kv (R.lt' N) bZ⟩
theorem Qa (H:a2 c)(B:bQ W I A pt ak af)(aw:cS A)(ax:b<=A.length)(he:e<=A.length)(aj:A.length+(aY<|(bk A b e).map λr=>gR r (b7 A b e)<|b8 A b e).length<=90000)(N:A.length<=40000)(M:eF aF I)(v:aF W.cl) (ad:∀Z,Fr (b2 W.cl) No c8 I Z->bQ W Z (fC A b e<|(bk A b e).map λr=>gR r (b7 A b e)<|b8 A b e) (d4 A b e (b8 A b e) ((bk A b e).map λr=>gR r (b7 A b e)<|b8 A b e) pt) ak (d6 (d4 A b e (b8 A b e)<|(bk A b e).map λr=>gR r (b7 A b e)<|b8 A b e) af)->ab .none Z): be c 9 (.ref 641) [.ref W.b,.int<|(b:Int)+1,.int<|(e:Int)+1,.int 8] ab I:=by have R:=gH aw ax he;refine Os (n:=8) H<|ci (H.f 56)<|qn H B aw ax he N λsp d u aa au U g aX z=>⟨(H.f 59),n1 g<|gd g.iD<|qj (λr=>gR r (b7 A b e)<|b8 A b e) (M.ext U) g.iD (aX.l2 M) (p8 R N aX) (λaS w aC K aR l a1 bZ=>?_) λa aS aR aE=>n0 (g.ext aR)<|ca<|tO H B aw ax he M v U g aX z aR aE (aa0 ..).symm aj N ad⟩;have h:=g.ext aR;exact⟨(H.f 46),ml h<|n0 h<|ca<|Qb H a1 (R.dE _ l) (R.n6 N l) R.kv (R.lt' N) bZ⟩
theorem Qd (H:a2 c)(B:bQ W I A pt ak af)(aw:cS A)(ax:b<=A.length)(he:e<=A.length)(aj:A.length+(aY<|(bk A b e).map λr=>cls r<|b7 A b e).length<=90000)(N:A.length<=40000)(M:eF aF I)(v:aF W.cl) (ad:∀Z,Fr (b2 W.cl) No c8 I Z->bQ W Z (fC A b e<|(bk A b e).map λr=>cls r<|b7 A b e) (d4 A b e (b7 A b e) ((bk A b e).map λr=>cls r<|b7 A b e) pt) ak (d6 (d4 A b e (b7 A b e)<|(bk A b e).map λr=>cls r<|b7 A b e) af)->ab .none Z): be c 9 (.ref 651) [.ref W.b,.int<|(b:Int)+1,.int<|(e:Int)+1,.int 8] ab I:=by have R:=gH aw ax he;refine Ou (n:=8) H<|ci (H.f 56)<|qn H B aw ax he N λsp d u aa au U g aX z=>⟨(H.f 59),n1 g<|gd g.iD<|qj (λr=>cls r<|b7 A b e) (M.ext U) g.iD (aX.l2 M) (p8 R N aX) (λaS w aC K aR l a1 bZ=>?_) λa aS aR aE=>ml (g.ext aR)<|ca<|tO H B aw ax he M v U g aX z aR aE (aa0 ..).symm aj N ad⟩;have h:=g.ext aR;exact⟨(H.f 50),ml h<|ca<|Qe H a1 (R.dE _ l) (R.n6 N l) bZ⟩
theorem min1:min ((b:Int)+1) ((e:Int)+1)=((min b e:Nat):Int)+1:=by
 rcases dR b e with X|X
 ·exact J (nk<|oU X)<|J (ke X) rfl
 ·exact J (xe<|oU X)<|J (mx X) rfl
theorem Xj:A.length<=(ht A e b).length:=by
 unfold ht;split
 ·exact nu _
 ·refine J nb<|J nb<|J (og _ _ _)<|a6 nb<|J (rV _ _) ?_;exact w2 ..
theorem Zz (R:jT A b e)(C:(aY<|bk A b e).length<=(aY a5).length):A.length<=(fC A b e a5).length:=by refine a6 (tE R) ?_;unfold fC;rw[nb,nb];exact xg (pk C _) _
theorem Xg (H:a2 c)(B:bQ W I A pt ak af)(aw:cS A)(ax:b<=A.length)(he:e<=A.length)(aj:A.length+(aY<|(bk A b e).map λr=>ht r (b7 A b e)<|b8 A b e).length<=90000)(N:A.length<=40000)(M:eF aF I)(v:aF W.cl) (ad:∀Z,Fr (b2 W.cl) No c8 I Z->bQ W Z (fC A b e<|(bk A b e).map λr=>ht r (b7 A b e)<|b8 A b e) (((min b e:Nat):Int)+1) ak (d6 (d4 A b e (b7 A b e)<|(bk A b e).map λr=>ht r (b7 A b e)<|b8 A b e) af)->ab .none Z): be c 9 (.ref 646) [.ref W.b,.int<|(b:Int)+1,.int<|(e:Int)+1,.int 8] ab I:=by
 have R:=gH aw ax he;refine Pl (n:=8) H<|ci (H.f 56)<|qn H B aw ax he N λsp d u aa au U g aX z=>⟨(H.f 59),n1 g<|gd g.iD<|qj (λr=>ht r (b7 A b e)<|b8 A b e) (M.ext U) g.iD (aX.l2 M) (p8 R N aX) (λaS w aC K aR l a1 bZ=>?_) λa aS aR aE=>ml (g.ext aR)<|ca<|tO H B aw ax he M v U g aX z aR aE (aa0 ..).symm aj N λaM a7 ag=>kp ag.R (λq q q=>v5) (H.m 17)<|VY min1<|ca<|vn H ag one_le ?_ λay bK o=>ad _ (a7.trans bK) o⟩
 ·have h:=g.ext aR;exact⟨(H.f 47),ml h<|n0 h<|ca<|Xi H a1 (R.dE _ l) (R.n6 N l) R.kv (R.lt' N) bZ⟩
 ·exact qD.mpr<|t4<|nf (abi ..)<|nf ax<|Zz R<|TN (λr q=>Xj) R.ne
abbrev lY (A:List Int)(s e:Nat):List (List Int):=(bk A s e).map λr=>r.take (b7 A s e)++r.drop (b8 A s e)
abbrev gr (A:List Int)(s e:Nat):List (List Int):=(bk A s e).map λr=>l1 r (b7 A s e)<|b8 A s e
theorem eh.fr {ae:Addr->Prop}(C:eh aF I u h)(x:Fr L D ae I Z)(M:∀a,L a->aF a):eh aF Z u h:= cq C λa aa e m g r=>⟨a,aa,e,m,x.list g λl=>m<|M _ l,r.oP x M⟩
theorem QH (C:e<=b):(A.take e++A.drop b).length<=A.length+0:=by refine J nb<|J qC<|J BU ?_;exact dH 1219008176849167061121 C rfl rfl
theorem HG (R:jT A b e):(aY<|bk A b e).length<=A.length:=by refine a6 (tE R)<|J (og _ _ _) ?_;exact w4 ..
theorem GA {A:List Int}{s e:Nat}(R:jT A s e):A.length+(aY<|lY A s e).length<=2*A.length:=by have C:=@TO (bk A s e) (λr=>r.take (b7 A s e)++r.drop (b8 A s e)) 0 (λr q=>QH R.kv) R.ne;refine J (Nat.two_mul _) ?_;exact pk (nf C<|HG R) _
theorem K4 (C:b<=2*e)(aj:e<=40000):b<=90000:=nf C<|nf (Nat.mul_le_mul_left 2 aj) (by decide)
theorem T1 (H:a2 c)(B:bQ W I A pt ak af)(aw:cS A)(ax:b<=A.length)(he:e<=A.length)(aj:A.length<=40000)(M:eF aF I)(v:aF W.cl) (ad:∀a Z,Fr (b2 W.cl) No c8 I Z->eh aF Z (.ref a) (gr A b e)->bQ W Z (fC A b e<|lY A b e) (d4 A b e (b8 A b e) (lY A b e) pt) ak (d6 (d4 A b e (b8 A b e)<|lY A b e) af)->ab (.ref a) Z): be c 10 (.ref 636) [.ref W.b,.int<|(b:Int)+1,.int<|(e:Int)+1,.int 8] ab I:= O0 (n:=9) H<|ci (H.f 60)<|u8 H B aw ax he aj M λa au U Q=>ci (H.f 61)<|yu H (B.ext U) aw ax he (K4 (GA<|gH aw ax he) aj) aj (M.ext U) v λaS g h=> ad _ _ ((Fr.cv U).trans g) (Q.fr g λa C=>C▸v) h
abbrev strN (A:List Int)(s e:Nat)(cs:List Int):List (List Int):=(bk A s e).map λr=>qk r (b7 A s e) (b8 A s e) cs
theorem oT {M:List (List Int)}(C:M≠[]):M[M.length -1]?=kZ (M.getLastD []):=by
 refine J List.getLastD_eq_getLast?<|a6 B0 ?_;cases e:M.getLast? with
 |none=>exact(C<|List.getLast?_eq_none_iff.mp e).elim
 |some r=>rfl
theorem ZF (H:a2 c)(B:bQ W I A pt ak af)(aw:cS A)(ap:I ae=kZ (.list<|bm xs))(an:¬ aF ae)(D:xs.length<=1000)(ax:b<=A.length)(he:e<=A.length)(aj:A.length+(aY<|strN A b e xs).length<=90000)(N:A.length<=40000)(M:eF aF I)(v:aF W.cl) (ad:∀Z,Fr (b2 W.cl) No c8 I Z->bQ W Z (fC A b e<|strN A b e xs) ((ef A b e:Int)+1+(aY<|strN A b e xs).length -(((bk A b e).getLastD []).length -b8 A b e:Nat)) ak (d6 (d4 A b e (b8 A b e)<|strN A b e xs) af)->ab .none Z): be c 9 (.ref 656) [.ref W.b,.int<|(b:Int)+1,.int<|(e:Int)+1,.ref ae,.int 8] ab I:=by
 have R:=gH aw ax he;refine PI (n:=8) H<|ci (H.f 56)<|qn H B aw ax he N λsp d u aa au U g aX z=>n1 g<|gd g.iD<|qj (λr=>qk r (b7 A b e) (b8 A b e) xs) (M.ext U) g.iD (aX.l2 M) (p8 R N aX) (λaS w aC K aR l a1 bZ=>?_) λa aS aR S=>⟨(H.f 59),n0 (g.ext aR) ?_⟩
 ·have h:=g.ext aR;exact⟨(H.f 48),ml h<|n0 h<|ca<|Yq H a1 (aR _ _<|U _ _ ap) (R.dE _ l) (R.n6 N l) R.kv (R.lt' N) (nf D<|by decide) bZ.Kn⟩
 intros V;have x:=U.trans aR;have s:=(aX.l2 M).mono λq q X=>X.ext aR;have aW:=p8 R N aX;refine ca<|J5 H (B.ext x) aw ax he (M.ext x) v (g.ext aR) s (M.fresh z) S (aa0 ..).symm aj N λay bK o=>?_;refine bP λbz aN=>cq S λa ag al na aE ba=>?_;clear S;cases al;have i:=(g.ext aR).fr bK (by decide) λX:u=W.cl=>M.fresh z<|X▸v;have p:=bK.list aE λX=>na<|X▸v;have aH:ag.length=(bk A b e).length:=ba.length.trans<|aa0 ..;have ga:0<ag.length:=aH▸abC.mpr R.ne;have j:=oT R.ne;replace j:=(g7 aH)▸j;have G:=jI j;refine kL ((s.oP bK λa C=>C▸v).get j) λw a1 az a3 aA am=>?_;replace a1:=a3▸a1;refine aN ?_;have O:ag.length<=100000:=by refine J aH<|a6 aX.length ?_;exact aW
 refine⟨(H.f 41),n1 i<|li p (gz O)<|gJ (m:=(ag.length -1:Nat)) (tD ga)<|cE i.iD a1 (gz aW)<|n0 i<|ca<|ox H am (R.dE _ G) (R.n6 N G) λF aI y bh bD av aq ar ao ai a8=>it (k:=1) ao rfl (c0 rfl)<|ed a8 (fl<|gb<|R.n6 N G) ?_⟩;have aU:cc (hG bh) ag (strN A b e xs):=(ba.oP bK λa C=>C▸v).mono λq q X=>X.rw.ext bD;have bi:(aY<|strN A b e xs).length<=1000000:=nf (w4 ..)<|nf aj (by decide);refine Zo (i.ext bD) ⟨(H.f 54),ca<|AR H (bD _ _ p) aU (by refine J (aa0 _)<|a6 aH ?_;exact O) bi λt bv bL L bu=>ed bu bi<|dt<|dC ?_⟩;have E:=o.ext<|bD.trans bL;exact pC H E.R E.T λbO Q P ah=>ad bO ((((Fr.cv x).trans bK).trans<|.cv<|bD.trans bL).trans Q) ⟨P.as rfl<|J BU rfl,ah⟩
theorem WJ (H:a2 c)(B:bQ W I A pt ak af)(aw:cS A)(aA: -3<=last)(a8:last+(bk A i e).length<=200)(ax:i<=A.length)(he:e<=A.length)(aj:A.length+(aY<|jB (bk A i e) (b7 A i e) last).length<=90000)(N:A.length<=40000)(M:eF aF I)(v:aF W.cl) (ad:∀Z,Fr (b2 W.cl) No c8 I Z->bQ W Z (fC A i e<|jB (bk A i e) (b7 A i e) last) (d4 A i e (b7 A i e) (jB (bk A i e) (b7 A i e) last) pt) ak (d6 (d4 A i e (b7 A i e)<|jB (bk A i e) (b7 A i e) last) af)->ab .none Z): be c 9 (.ref 663) [.ref W.b,.int<|(i:Int)+1,.int<|(e:Int)+1,.int last,.int 8] ab I:=by have R:=gH aw ax he;exact Pi (n:=8) H<|ci (H.f 56)<|qn H B aw ax he N λsp d u aa au U g aX z=>⟨(H.f 59),(H.f 51),n1 g<|ml g<|ca<|WK H g.iD ((aX.l2 M).mono λq q X=>X.rw) (λr aB=>⟨R.dE r aB,R.n6 N aB⟩) (nf R.kv<|R.lt' N) aA a8 λa ag aS aR na aE ba=> ml (g.ext aR)<|ca<|tO H B aw ax he M v U g aX z aR (gA a ag rfl ((M.ext U).fresh na) aE<|ba.l2<|M.ext U) (by unfold jB;exact J xd rfl) aj N ad⟩
noncomputable def d7 (A:List Int)(C:Nat):Nat->Nat
 |0=>C
 |n+1=>if d7 A C n<A.length then cN A (d7 A C n+1) else d7 A C n
theorem KO {A:List Int}{C:Nat}(B:C<=A.length):∀n,d7 A C n<=A.length/\C<=d7 A C n:=by
 intro h;induction h with
 |zero=>exact⟨B,nu _⟩
 |succ n D=>
  have:=D;refine J (by exact rfl:d7 A C (n+1)=if d7 A C n<A.length then cN A (d7 A C n+1) else d7 A C n) ?_;split
  ·rename_i an;have ai:=@rj A (d7 A C n+1) an;have ao:=@vR A<|d7 A C n+1;exact⟨bC 1052929 ai,b1 2003621122305 this.2 ao⟩
  ·exact this
def gK (A:List Int)(k N:Nat):Nat:=d7 A (cN A k)<|N -1
def cb (A:List Int)(k N:Nat):List (List Int):=dW<|(A.take<|gK A k N).drop<|c5 A k
def cU (A:List Int)(k:Nat)(M:List (List Int)):List (List Int):=M.mapIdx λi r=>jD ((cb A k M.length)[i]?.getD []) (c9 A k) r
def ij (A:List Int)(k:Nat)(M:List (List Int)):List Int:=if(cb A k M.length).length<M.length then 10::aY ((cU A k M).drop (cb A k M.length).length) else[]
def kS (A:List Int)(k:Nat)(M:List (List Int)):List Int:=A.take (c5 A k)++aY ((cU A k M).take (cb A k M.length).length)++(ij A k M++A.drop (gK A k M.length))
def n5 (A:List Int)(k:Nat)(M:List (List Int))(p:Int):Int:= fB (c5 A k) (c9 A k) (c9 A k) (cb A k M.length) ((cU A k M).take (cb A k M.length).length) (cb A k M.length).length (if(cb A k M.length).length<M.length then dO ((gK A k M.length:Nat)+1) ((gK A k M.length:Nat)+1) (ij A k M).length p else p)
def tW (A:List Int)(k:Nat)(M:List (List Int)):Nat:=(aY<|(cU A k M).take<|M.length -1).length+(if 1<M.length then 1 else 0)
def mq (A:List Int)(k:Nat)(M:List (List Int)):Int:=(c5 A k:Nat)+1+(tW A k M:Nat)+(c9 A k+(M.getLastD []).length:Nat)
theorem Zr:∀(n:Nat) (cs:List Int),cs.length=n->(dW cs).length=cs.count 10+1:=by
 intro n;induction n with
 |zero=>intro cs C;cases gB.mp C;rfl
 |succ n D=>
  intro cs C;obtain⟨bw,y,rfl⟩:∃bw y,cs=bw++[y]:=⟨cs.dropLast,cs.getLast (λe=>by replace C:=e▸C;cases C),(LO _).symm⟩;have e:=D bw (by simpa using C);refine J AF<|J abD ?_;unfold dW at e⊢;split
  ·rename_i G;refine J G ?_;simp at e⊢;exact bC 1061123 e
  ·rename_i G;simp[G] at e⊢;exact bC 1061123 e
theorem IT:((A.take<|cN A b).drop b).count 10=0:=by
 have e:(A.take<|cN A b).drop b=(A.drop b).takeWhile (· !=10):=by refine J AU<|J kX ?_;unfold cN;exact J (kh _ _) rfl
 refine J e<|m5 abE ?_;intro C;exact(zy C).2 rfl
theorem Wg (ap:b<=A.length):((A.take b).drop<|c5 A b).count 10=0:=by
 have e:(A.take b).drop (c5 A b)=((A.take b).reverse.takeWhile (· !=10)).reverse:=by refine J AU<|J aby<|J (aaI _) ?_;unfold c5;exact J qC<|J (ke ap) rfl
 refine J e<|J List.count_reverse<|m5 abE ?_;intro C;exact(zy C).2 rfl
theorem Av (ai:e<=b)(ao:b<=i)(a7:b<=A.length):(A.take i).drop e=(A.take b).drop e++(A.take i).drop b:=by exact Qz ai ao a7
theorem aam {A:List Int}{k:Nat}(ap:k<=A.length):∀n,((A.take<|d7 A (cN A k) n).drop<|c5 A k).count 10<=n:=by
 intro h;induction h with
 |zero=>refine(?_:((A.take<|cN A k).drop<|c5 A k).count 10<=0);exact J (Av (rk) (vR) ap)<|J abD<|J IT<|J (Wg ap)<|nu _
 |succ n D=>
  have D:=D;have aA:=@KO A (cN A k) (rj ap) n;have ai:c5 A k<=d7 A (cN A k) n:=nf (vS<|nu k) aA.2;refine J (by exact rfl:d7 A (cN A k) (n+1)=if d7 A (cN A k) n<A.length then cN A (d7 A (cN A k) n+1) else d7 A (cN A k) n) ?_;split
  ·rename_i an;have ao:=@vR A<|d7 A (cN A k) n+1;refine J (Av (b:=d7 A (cN A k) n+1) (bC 270342145 ai) ao<|bC 270651521 an)<|J abD<|J IT<|J (Av (b:=d7 A (cN A k) n) ai (dG 854017) aA.1)<|J abD ?_;have:((A.take<|d7 A (cN A k) n+1).drop<|d7 A (cN A k) n).length=1:=by refine J BU<|J qC ?_;exact bS 3249406586466151683 an rfl rfl
   have:=@List.count_le_length Int _ 10<|(A.take<|d7 A (cN A k) n+1).drop<|d7 A (cN A k) n;exact bS 905994520372293208193 D ‹_› this
  ·exact bC 270342145 D
theorem Bf {N:Nat}(ap:e<=A.length)(G:0<N):(cb A e N).length<=N/\0<(cb A e N).length:=by have:=aam ap<|N -1;unfold cb gK;exact J (Zr _ _ rfl)<|⟨b1 941905436844609665 G this rfl,dG 854258⟩
theorem rF:(jD aC aD A).length=max aC.length aD+A.length:=by unfold jD;exact J nb<|J nb<|J (og _ _ _)<|a6 nb<|J (rV _ _)<|J Ac rfl
theorem Aj (C:bU aC)(av:bU A):bU (jD aC aD A):=(((o5 C).take _).append av).append<|(o5 C).drop _
theorem qu {k:Nat}:(cU A k h).length=h.length:=xd ..
theorem n4 {k:Nat}(C:h[i]?=kZ xs):(cU A k h)[i]?=kZ (jD ((cb A k h.length)[i]?.getD []) (c9 A k) xs):=by unfold cU;refine J ui<|J C ?_;rfl
theorem y4 {K:Nat}:∀{M:List (List Int)},(∀r∈M,r.length<=K)->(aY M).length<=M.length*(K+1)
 |[],_=>by simp[aY]
 |[r],C=>by have:=C r<|.head _;simp[aY];exact bC 270342145 this
 |r::s::o,C=>by have ai:=@y4 K (s::o) λx Q=>C x<|.tail _ Q;have ao:=C r<|.head _;refine(?_:(r++10::aY (s::o)).length<=_);refine J nb<|J hC<|J hC<|J (se _ _) ?_;exact bS 55421610616438227073 ai ao
theorem TQ:∀{o:List (List Int)},(aY o).length<=(aY<|A::o).length:=by
 intro h;induction h with
 |nil=>exact BK _
 |cons s o D=>refine(?_:_<=(A++10::aY (s::o)).length);refine J nb ?_;exact nf (Bv _)<|w4 ..
theorem rb:∀{k:Nat} {o:List (List Int)},(aY<|o.drop k).length<=(aY o).length
 |0,_=>nu _
 |_+1,[]=>nu _
 |k+1,r::o=>nf (rb (k:=k) (o:=o)) TQ
abbrev ot (Q:List (List Int))(n:Nat):Nat:=(aY<|Q.take<|n -1).length+(if 1<n then 1 else 0)
structure FD (Q M:List (List Int))(aD:Nat):Prop where
 an:Q.length=M.length
 h0:0<M.length
 aO:M.length<=61
 aU:aD<=60
 bi:(aY Q).length<=61*121
 last:∃d bW,M.getLastD []=bW/\Q[M.length -1]?=kZ (jD d aD bW)/\M[M.length -1]?=kZ bW/\bU d/\d.length<=60/\bU bW/\bW.length<=60
structure gQ (R:az->V->List Int->Prop)(I:az)(sT u:Addr)(ag aa:List V)(Q M:List (List Int))(aD:Nat):Prop where
 hf:I sT=kZ (.list ag)
 aV:cc (R I) ag Q
 aQ:I u=kZ (.list aa)
 aX:cc (R I) aa M
 p:FD Q M aD
variable{aq:az->V->List Int->Prop}
theorem gQ.eX (bl:gQ aq I a ae am aa Q h aD):am.length=h.length:=bl.aV.length.trans bl.p.an
theorem gQ.rM (bl:gQ aq I a ae am aa Q h aD):am.length<=100000:=bl.eX▸nf bl.p.aO (by decide)
theorem gQ.Ky (bl:gQ aq I a ae am aa Q h aD):aa.length<=100000:=bl.aX.length▸nf bl.p.aO (by decide)
theorem gQ.ext {u:Addr}(bl:gQ hG I a u am aa Q h aD)(x:bp I Z):gQ hG Z a u am aa Q h aD:=⟨x _ _ bl.hf,bl.aV.mono λq q X=>X.ext x,x _ _ bl.aQ,bl.aX.mono λq q X=>X.ext x,bl.p⟩
theorem gQ.GS (bl:gQ (IsL aF) I a ae am aa Q h aD)(x:bp I Z):gQ (IsL aF) Z a ae am aa Q h aD:=⟨x _ _ bl.hf,bl.aV.mono λq q X=>X.ext x,x _ _ bl.aQ,bl.aX.mono λq q X=>X.ext x,bl.p⟩
theorem gQ.fr {ae:Addr->Prop}(bl:gQ (IsL aF) I cl bs am aa Q h aD)(x:Fr L D ae I Z)(M:∀a,L a->aF a)(Y:¬ aF cl)(z:¬ aF bs):gQ (IsL aF) Z cl bs am aa Q h aD:=⟨x.list bl.hf λl=>Y<|M _ l,bl.aV.oP x M,x.list bl.aQ λl=>z<|M _ l,bl.aX.oP x M,bl.p⟩
theorem gQ.rw (bl:gQ (IsL aF) I a ae am aa Q h aD):gQ hG I a ae am aa Q h aD:=⟨bl.hf,bl.aV.mono λq q X=>X.rw,bl.aQ,bl.aX.mono λq q X=>X.rw,bl.p⟩
theorem KY (ai:e<=60)(ao:b<=60)(a7:aD<=60):max e aD+b<=120/\min (max e aD+b) (aD+b)=aD+b:=⟨bS 15490175217913317226200305793 ai ao a7 rfl,dH 23333739160116795395 rfl rfl⟩
theorem Hl (C:aw.length=b)(e:aw[b -1]?=kZ aN):aw.getLast?=kZ aN:=J B0<|J C<|J e rfl
theorem KW (H:a2 c)(B:bQ W I A pt ak af)(bl:gQ hG I ae l am aa Q h aD)(bu:I a=kZ (.list<|bm xs))(an:xs.length=ot Q h.length) (ad:∀Z,Fr (b2 W.cl) No c8 I Z->bQ W Z A ((e:Nat)+1+(ot Q h.length:Nat)+(aD+(h.getLastD []).length:Nat)) ak af->ab .none Z): Di (dI c 8 ab) [.ref W.b,.ref l,.int 8,.ref a,.int aD,.ref ae,bh,.int<|(e:Int)+1,bL,ce,aW,ba] [] I:=by
 intros bs;refine bP λbz aN=>?_;refine fz (bl.p.last) λd bW aB=>z2 aB λaI a8 bo el a6 dg aC=>?_;refine p9 (bl.aV.get a8) λbp i vP a3 j=>?_;replace i:=a3▸i;refine p9 (bl.aX.get bo) λbM s bG a3 a1=>?_;replace s:=a3▸s;have aj:xs.length<=1000000:=by have ai:=@re Q<|h.length -1;have ao:=bl.p.bi;refine J an ?_;unfold ot;split<;>(first|exact bC 571664874374249385349249 ai ao|exact bC 571664874374249385357441 ai ao)
 obtain⟨aJ,a4⟩:=KY a6 aC bl.p.aU;refine aN ?_;refine ed bu aj<|dt ⟨(H.f 69),ca<|MR H bl.hf bl.aQ (Hl bl.eX i) (Hl bl.aX.length s) j a1 (Aj el dg) dg bl.rM bl.Ky (by refine J rF ?_;exact nf aJ<|by decide) (nf aC<|by decide) (nf bl.p.aU<|by decide) λau U=>dt ?_⟩;have ah:=B.ext U;exact pC H ah.R ah.T λaS g aH u=>ad aS ((Fr.cv U).trans g) ⟨aH.as rfl<|J an<|J rF<|J a4<|J aI rfl,u⟩
theorem aat (H:a2 c)(B:bQ W I A pt ak af)(bl:gQ hG I a ae am aa Q h aD) (ad:∀Z,Fr (b2 W.cl) No c8 I Z->bQ W Z A ((e:Nat)+1+(ot Q h.length:Nat)+(aD+(h.getLastD []).length:Nat)) ak af->ab .none Z): Dk (dI c 8 ab) [.ref W.b,.ref ae,.int 8,ba,.int aD,.ref a,bh,.int<|(e:Int)+1,a4,bL,aJ,aW] [] I:=by
 intros bs;have j:0<am.length:=bl.eX▸bl.p.h0;have ag:(aY<|Q.take<|am.length -1).length<=61*121:=nf re bl.p.bi;refine⟨(H.f 54),li bl.hf (gz bl.rM)<|gJ (m:=(am.length -1:Nat)) (tD j)<|wF bl.hf bl.rM λGT au U s aI=>ca<|AR H aI ((bl.ext U).aV.take _) (by refine J qC ?_;exact nf (BV ..)<|bl.p.an▸nf bl.p.aO (by decide)) (nf ag<|by decide) λg aS aR aT bd=>?_⟩;have i:=(bl.ext U).ext aR;refine li i.hf (gz bl.rM)<|cx (p:=(1:Int)<(am.length:Nat)) (λC=>?_) λC=>?_
 ·refine dA rfl rfl λt aM bj a9 bn=>hu (bw:=[10]) (bj _ _ bd) bn ag (nu 1) rfl λd ay bf bq a3=>?_;have x:=((U.trans aR).trans bj).trans bf;refine KW H (B.ext x) (bl.ext x) a3 ?_ λZ F a0=>ad Z ((Fr.cv x).trans F) a0;rw[nb,bl.eX,ot,if_pos<|by refine a6 bl.eX ?_;exact qG.mp C];rfl
 ·refine dA rfl rfl λt aM bj a9 bn=>hu (bw:=[]) (bj _ _ bd) bn ag (BK 0) rfl λd ay bf bq a3=>?_;have x:=((U.trans aR).trans bj).trans bf;refine KW H (B.ext x) (bl.ext x) a3 ?_ λZ F a0=>ad Z ((Fr.cv x).trans F) a0;rw[Bs,bl.eX,ot,if_neg<|by refine a6 bl.eX ?_;exact λX=>C<|qG.mpr X];rfl
theorem KV {S:List Int}(H:a2 c)(B:bQ W I (A++aY h++S) pt ak af)(v:aF W.cl)(O:eF aF I)(bl:gQ (IsL aF) I ae cl e7 aa Q a5 aD)(Y:¬ aF ae)(z:¬ aF cl)(aw:I l=kZ (.list am))(no:¬ aF l)(u:cc (IsL aF I) am h) (bI:A.length=e)(G:aL=A.length+(aY h).length)(h0:h≠[])(bg:∀r∈h,bU r)(g:h.length<=a5.length)(aj:A.length+(aY h).length+S.length<=50000) (ad:∀Z,Fr (b2 W.cl) No c8 I Z->bQ W Z (A++aY (Q.take h.length)++S) ((e:Nat)+1+(ot Q a5.length:Nat)+(aD+(a5.getLastD []).length:Nat)) ak (d6 (fB e aD aD h (Q.take h.length) h.length) af)->ab .none Z): xT (dI c 8 ab) [.ref W.b,.ref cl,.int 8,ba,.int aD,.ref ae,.int<|(aL:Int)+1,.int<|(e:Int)+1,.int (h.length:Nat),.ref l,aJ,aW] [] I:=by
 subst bI;intros M;have o:∀a,b2 W.cl a->aF a:=λa C=>C▸v;have m:h.length=(Q.take h.length).length:=J qC<|J bl.p.an<|J (ke g) rfl;have N:A.length+(aY h).length+(aY<|Q.take h.length).length+S.length<=100000:=by refine J (og _ _ _) ?_;exact nf (abj aj<|nf re bl.p.bi) (by decide)
 refine⟨(H.f 59),(H.k 9).keep,ca<|Do H (λX=>by cases X) (λX=>by cases X) (λX=>by cases X) (λX=>by cases X) (λX=>by cases X) λsp d au w=>wF (w.ext _ _ bl.hf) bl.rM λj aS aR aT bd=>?_⟩;have x:=w.ext.trans aR;have i:=bl.GS x;exact ca<|Jx H (B.ext x) v (O.ext x) ⟨aR _ _ w.d3,aR _ _ w.id,x _ _ aw⟩ G (λX:l=W.cl=>no<|X▸v) (u.mono λq q X=>X.ext x) bd (λX:j=W.cl=>(O.ext w.ext).fresh aT<|X▸v) (i.aV.take _) m h0 bg N (nf g<|nf bl.p.aO<|by decide) λaM a7 ag=> aat H ag (i.fr a7 o Y z).rw λZ ai a0=>ad Z (((Fr.cv x).trans a7).trans ai) a0
abbrev oM (Q:List (List Int))(m n:Nat):List Int:=if m<n then 10::aY (Q.drop m) else[]
theorem Tn (C:(aY Q).length<=61*121){m n:Nat}:(oM Q m n).length<=61*121+1:=by
 unfold oM;split
 ·refine J hC ?_;exact t4<|nf rb C
 ·exact BK _
theorem aau (H:a2 c)(B:bQ W I (A++aY h++aC) pt ak af)(v:aF W.cl)(O:eF aF I)(bl:gQ (IsL aF) I ae cl e7 aa Q a5 aD)(Y:¬ aF ae)(z:¬ aF cl)(aw:I l=kZ (.list am))(no:¬ aF l)(u:cc (IsL aF I) am h) (bI:A.length=e)(G:aL=A.length+(aY h).length)(h0:h≠[])(bg:∀r∈h,bU r)(g:h.length<=a5.length)(aj:A.length+(aY h).length+aC.length<=1000) (ad:∀Z,Fr (b2 W.cl) No c8 I Z->bQ W Z (A++aY (Q.take h.length)++(oM Q h.length a5.length++aC)) ((e:Nat)+1+(ot Q a5.length:Nat)+(aD+(a5.getLastD []).length:Nat)) ak (d6 (λp=>fB e aD aD h (Q.take h.length) h.length (if h.length<a5.length then dO ((aL:Nat)+1) ((aL:Nat)+1) (oM Q h.length a5.length).length p else p)) af)->ab .none Z): Dl (dI c 8 ab) [.ref W.b,.ref cl,.int 8,ba,.int aD,.ref ae,.int<|(aL:Int)+1,.int<|(e:Int)+1,.int (h.length:Nat),.ref l,aJ,aW] [] I:=by
 intros M;have o:∀a,b2 W.cl a->aF a:=λa C=>C▸v;have bb:(A++aY h).length=aL:=J nb<|J G rfl;have D:(A++aY h++aC).length<=1000:=by refine J nb<|J nb ?_;exact aj
 have bk:=Tn bl.p.bi (m:=h.length) (n:=a5.length);refine li bl.aQ (gz bl.Ky)<|cx (p:=(h.length:Int)<(aa.length:Nat)) (λC=>?_) λC=>?_
 ·have aG:h.length<a5.length:=by refine a6 bl.aX.length ?_;exact qG.mp C
  have d:oM Q h.length a5.length=10::aY (Q.drop h.length):=if_pos aG;refine⟨(H.f 27),dA rfl rfl λt au U s aI=>⟨(H.f 54),wD (U _ _ bl.hf) bl.rM λj aS aR aT bd=>ca<|AR H bd ((bl.GS<|U.trans aR).rw.aV.drop _) (by refine J BU ?_;exact nf (BW ..)<|bl.p.an▸nf bl.p.aO (by decide)) (nf (nf rb bl.p.bi)<|by decide) λbF aM bj a9 bn=>hu (xs:=[10]) (bj _ _<|aR _ _ aI) bn (nu 1) (nf rb bl.p.bi) rfl λi ay bf bq a3=>?_⟩⟩;have x:=((U.trans aR).trans bj).trans bf;have a3:ay i=kZ (.list<|bm<|oM Q h.length a5.length):=by refine J d ?_;exact a3
  refine ca<|Hy H (k:=aL) (B.ext x) a3 (λX:i=W.cl=>(O.ext<|(U.trans aR).trans bj).fresh bq<|X▸v) (by refine J nb<|J bb ?_;exact w2 ..) (nf (abj D bk)<|by decide) λbh K P=>?_;have F:=(Fr.cv x).trans K;refine KV H (S:=oM Q h.length a5.length++aC) (P.as (J (cX bb)<|J (abw bb)<|J (aaG _ _ _) rfl) rfl rfl) v (O.fr F) (bl.fr F o Y z) Y z (F.list aw λX:l=W.cl=>no<|X▸v) no (u.oP F o) bI G h0 bg g (by refine J nb ?_;exact bS 18778440200909528359501481774217141891958913 aj bk) λZ ai a0=>ad Z (F.trans ai)<|a0.as rfl rfl<|Jp.trans (qh λp=>by exact J (if_pos aG) rfl)
 ·have ag:¬ h.length<a5.length:=λX=>C<|qG.mpr (by refine J bl.aX.length ?_;exact X);have d:oM Q h.length a5.length=[]:=if_neg ag;exact KV H B v O bl Y z aw no u bI G h0 bg g (nf aj<|by decide) λZ ai a0=>ad Z ai<|a0.as (by refine J d ?_;rfl) rfl (qh λp=>by exact J (if_neg ag) rfl)
theorem tY:aY (cb A b e)=(A.take<|gK A b e).drop (c5 A b):=y6 _ _ rfl
theorem KQ (aw:cS A)(aj:A.length<=60):∀r∈cb A b e,bU r/\r.length<=60:=λr aB=>by refine⟨tM _ _ rfl (λx Q=>aw x<|BX<|od Q) r aB,nf (vL aB) ?_⟩;refine J tY ?_;exact fl<|fZ aj
theorem tX {k:Nat}(aw:cS A)(aj:A.length<=60){N:Nat}:bU ((cb A k N)[i]?.getD [])/\((cb A k N)[i]?.getD []).length<=60:=by
 cases e:(cb A k N)[i]? with
 |none=>exact⟨bU.nil,BK _⟩
 |some r=>exact KQ aw aj r<|jI e
theorem aap (aw:cS A)(aj:A.length<=60)(aU:c9 A e<=60)(S:∀r∈h,bU r/\r.length<=60):∀r∈cU A e h,r.length<=120:=λr aB=>by obtain⟨i,aL⟩:=qE.mp aB;have d:=(xn.mp aL).1;replace d:=qu▸d;replace aL:=(n4<|Lw d)▸aL;cases aL;refine J rF ?_;exact(KY (tX aw aj).2 (S _<|List.getElem_mem d).2 aU).1
theorem aar (aw:cS A)(aj:A.length<=60)(ap:e<=A.length)(ax:h.length<=61)(S:∀r∈h,bU r/\r.length<=60)(h0:h≠[]):FD (cU A e h) h (c9 A e):=by have aU:c9 A e<=60:=nf yk<|nf ap aj;have an:=oT h0;have hm:=S _<|jI an;exact⟨qu,abC.mpr h0,ax,aU,nf (y4<|aap aw aj aU S)<|by refine J qu ?_;exact Lo ax<|nu _, _,_,rfl,n4 an,an,(tX aw aj).1,(tX aw aj).2,hm.1,hm.2⟩
theorem aav (H:a2 c)(B:bQ W I A ((aD:Int)+1) ak af)(aw:cS A)(ap:aD<=A.length)(aj:A.length<=60)(M:eF aF I)(v:aF W.cl)(aB:eh aF I (.ref ae) h)(ax:h.length<=61)(S:∀r∈h,bU r/\r.length<=60)(h0:h≠[]) (ad:∀Z,Fr (b2 W.cl) No c8 I Z->bQ W Z (kS A aD h) (mq A aD h) ak (d6 (n5 A aD h) af)->ab .none Z): be c 9 (.ref 668) [.ref W.b,.ref ae,.int 8] ab I:=by
 refine bP λbz aN=>?_;refine cq aB λaO aa a8 z aQ aX=>?_;clear aB;refine aN ?_;cases a8;have aW:=aX.length;have x:=aar aw aj ap ax S h0;have K:A.length<=100000:=nf aj (by decide);have aq:=Bf (N:=h.length) ap x.h0;have g:=KO (rj ap)<|h.length -1;have L:c5 A aD<=gK A aD h.length:=nf (vS<|nu aD) g.2;have G:gK A aD h.length<=A.length:=g.1;have al:h.length<=100000:=nf ax (by decide);have t:aa.length<=100000:=aW▸al;let E:Nat->V->List V:=λj w=>[.ref W.b,.ref ae,.int 8,.aK,.int (c9 A aD:Nat),.aK,.int<|(d7 A (cN A aD) j:Nat)+1,.int<|(c5 A aD:Nat)+1,.aK,.aK,.int<|(aD:Int)+1,w];refine Ga (n:=8) H<|li aQ (gz t)<|cr (p:=((aa.length:Nat):Int)=0) (λe=>aa3 x.h0<|aW▸abv.mp e)<|k7 B.R<|ci (H.f 55)<|yl H B aw ap K λau U=>ci (H.f 31)<|zm H (B.ext U) ap<|ci (H.f 32)<|zl H (B.ext U) ap ?_;have ah:=B.ext U;refine li (U _ _ aQ) (gz t)<|gJ (m:=(h.length -1:Nat)) (by refine J aW ?_;exact tD x.h0)<|m6 (nf (BW ..) al)<|HS E (λq q=>True) (a:=.aK) rfl trivial (λj w q bi=>?_) λw q=>?_
 ·refine pD ah.R (cx (p:=((d7 A (cN A aD) j:Nat):Int)+1<(A.length+1:Nat)) (λC=>?_) λC=>?_)
  ·have aG:d7 A (cN A aD) j<A.length:=Nat.lt_of_succ_lt_succ<|qG.mp C;refine⟨(H.f 32),jq (m:=((d7 A (cN A aD) j+1:Nat):Int)+1) rfl<|ca<|zl H ah aG ?_⟩;refine J ((if_pos aG).symm:cN A (d7 A (cN A aD) j+1)=d7 A (cN A aD) (j+1)) ?_;exact jp.mk (E:=E<|j+1) (.int j) trivial
  ·refine(c7 (.int j) ?_ trivial rfl);refine(?_:_=[_,_,_,_,_,_,V.int<|(d7 A (cN A aD) (j+1):Nat)+1,_,_,_,_,_]);refine J (show d7 A (cN A aD) (j+1)=d7 A (cN A aD) j from if_neg λX=>C<|qG.mpr<|Nat.succ_lt_succ X) ?_;rfl
 refine⟨(H.f 53),kp ah.R (λq q q=>zP) (H.m 16)<|ca<|uI H ah L G λa aS aR na aE=>ca<|JH H aE (fl<|fZ K) λo os aM bj no bt u=>?_⟩;have l:=(U.trans aR).trans bj;have am:os.length=(cb A aD h.length).length:=u.length;have an:cc (IsL aF aM) os (cb A aD h.length):=u.l2<|M.ext<|U.trans aR;have aC:os.length<=100000:=am▸nf aq.1 al;have Q:=l _ _ aQ;have av:=aX.mono λq q X=>X.ext l;refine li bt (gz aC) ?_;refine J am ?_;refine li Q (gz t) ?_;intros cw;refine J aW ?_;refine m6 al<|Vd (λag Z=>bp aM Z/\cc (IsL aF Z) ag ((cU A aD h).take ag.length)) al ⟨.refl,trivial⟩ (λag ay C aG=>?_) λag ay C aH sT bh y=>?_
 ·refine hr ?_;intro aJ;intros aL;obtain⟨bf,ba⟩:=C;have P:=Lw aG;refine bP λbz aN=>?_;obtain⟨aI,ar⟩:=S _<|jI P;refine kL ((av.mono λq q X=>X.ext bf).get P) λT bd bG a3 b8 a1=>?_;replace bd:=a3▸bd;refine aN ?_;have fin:∀{b:Addr} {own:List Int} {bh:az},bp ay bh->bh b=kZ (.list<|bm own)->own=((cb A aD h.length)[ag.length]?.getD [])->be c 7 (.ref 537) [.ref b,.int (c9 A aD:Nat),.ref bG,.int 8] (λw Z=>bp aM Z/\cc (IsL aF Z) (ag++[w]) (B4 (ag++[w]).length<|cU A aD h)) bh:=λ{b own bh} bD aA e=>by replace aA:=e▸aA;have ao:=tX (k:=aD) (N:=h.length) (i:=ag.length) aw aj;refine Jw H aA (bD _ _ a1) ao.1 (nf ao.2<|by decide) (nf x.aU<|by decide) (nf ar<|by decide) λd bv bL d5 hd=>⟨(bf.trans bD).trans bL,?_⟩;refine J nb<|J hC<|J uc<|J jH<|J (n4 P) ?_;exact(ba.mono λq q X=>X.ext<|bD.trans bL).append ⟨(c7 d rfl ((M.ext<|(l.trans bf).trans bD).fresh d5) hd),trivial⟩
  refine⟨(H.f 49),cx (p:=((ag.length:Nat):Int)<((cb A aD h.length).length:Nat)) (λC=>?_) λC=>?_⟩
  ·have D:=Lw<|qG.mp C;refine bP λbz aN=>?_;refine kL ((an.mono λq q X=>X.ext bf).get D) λbM s b a3 aZ aA=>?_;replace s:=a3▸s;refine aN ?_;exact cE (bf _ _ bt) s (gz aC)<|cE (bf _ _ Q) bd (gz t)<|ca<|fin .refl aA (by refine J D ?_;rfl)
  ·exact dA rfl rfl λb bh bD y bE=>cE (bD _ _<|bf _ _ Q) bd (gz t)<|ca<|fin (own:=[]) bD bE (by refine J (w0<|pm λX=>C<|qG.mpr X) ?_;rfl)
 ·obtain⟨bf,ba⟩:=C;replace ba:=oe▸(g7<|qu (A:=A) (k:=aD))▸aH▸ba;have bD:bp I bh:=(l.trans bf).trans y.ext;have ai:(A.take<|c5 A aD).length=c5 A aD:=J qC<|J (ke<|nf rk ap) rfl;have bi:gK A aD h.length=(A.take<|c5 A aD).length+(aY<|cb A aD h.length).length:=J tY<|J ai<|J BU<|J qC<|J (ke G)<|J (iN L) rfl;have O:A=A.take (c5 A aD)++aY (cb A aD h.length)++A.drop (gK A aD h.length):=by refine J tY ?_;exact(J0 L).symm
  exact aau H ((B.ext bD).as O rfl rfl) v (M.ext bD) ⟨y.at,ba.mono λq q X=>X.ext y.ext,bD _ _ aQ,aX.mono λq q X=>X.ext bD,x⟩ ((M.ext<|l.trans bf).fresh y.1) z (y.ext _ _<|bf _ _ bt) ((M.ext<|U.trans aR).fresh no) (an.mono λq q X=>X.ext<|bf.trans y.ext) ai bi AE (λr aB=>(KQ aw aj r aB).1) aq.1 (by refine a6 bi<|J BU<|J (iN G) ?_;exact nf aj<|by decide) λZ F a0=>ad Z ((Fr.cv bD).trans F) a0
abbrev iR (W:mD):Addr->Prop:=λa=>a=W.ee
theorem vd (x:Fr (b2 W.cl) No c8 I Z):Fr (b2 W.cl) (iR W) c8 I Z:=x.mono (λq C=>C) (λq C=>C.elim) λq C=>C
noncomputable def qT (A:List Int)(p:Int):Int:=min (max p 1)<|(A.length:Int)+1
theorem uS (ai:1<=pt)(ao:pt<=A.length+1):qT A pt=pt:=by unfold qT;exact Ut 1035613990542457064614013006089 ai ao rfl rfl
def uz (d r:Addr)(I Z:az):Prop:=∀x,x≠d->x≠r->Z x=I x
theorem M9 (H:a2 c){n:Nat}(aA:I W.b=kZ (.inst 1028 W.bd))(hd:I W.bd=kZ (.attrs 1028<|nL W n pt ak last cnt st))(T:gO W.g W.bs W.cl I A)(ad:ab (.int A.length) I):be c 2 (.ref 976) [.ref W.b] ab I:=by refine fg T λpre aw post a3 G=>?_;clear T;subst a3;exact F6 (n:=1) H<|di aA hd Ig<|qe<|dd G.aL G.hd IX (H.m 5)<|ca<|JU H G ad
theorem V5 (H:a2 c)(hm:I W.m=kZ (.inst 201 W.kJ))(ib:I W.kJ=kZ (.attrs 201<|lb<|.ref W.ee))(fU:I W.ee=kZ (.cu aP)) (aE:I a=kZ (.inst 133 ae))(hd:I ae=kZ (.attrs 133<|f5 (.int pt) ak aJ<|.int last))(aj:aP.length<=1000) (ad:∀au aS,Upd I au W.ee (.cu<|hv pt (.ref a) aP)->Upd au aS ae (.attrs 133<|f5 (.int pt) ak aJ<|.int cnt)->ab .none aS):be c 1 (.ref 163) [.ref W.m,.ref a,.int cnt] ab I:= Om (n:=0) H<|di hm ib Ii<|qe<|di aE hd U5<|kN<|gy fU (by refine J wT ?_;exact nf aj<|by decide) λau h=>ie (h.keep fU aE) (h.keep fU hd) (H.d 72) (by refine J zi ?_;decide) λaS j=>ad _ _ h<|Ju▸j
theorem JS (H:a2 c)(B:bQ W I A pt aJ af)(aE:I a=kZ (.inst 133 ae))(hd:I ae=kZ (.attrs 133<|f5 (.int last) (.bool false) ak<|.int cnt))(o:ak=.none\/ak=.ref W.b) (ad:∀Z,uz ae W.ee I Z->Z ae=kZ (.attrs 133<|f5 (.int last) (.bool false) (.ref W.b)<|.int<|qT A st)->Z W.ee=kZ (.cu<|hv last (.ref a)<|af.map λe=>(e.num,.ref e.a))->ab .none Z): be c 3 (.ref 212) [.ref a,.ref W.b,.int st] ab I:=by
 have tail:ux (dI c 2 ab) [.ref a,.ref W.b,.int st] [] I:=by refine ie aE hd (H.d 71) (by refine J zi ?_;decide) λau h=>?_;replace h:=XY▸h;have ba:Fr No No kj I au:=.iK h hd rfl;refine gT (B.R.d9) λaC am P d9=>?_;have g:=ba.inst B.R.aA;have f:=ba.attrs d9 (by decide);have l:=ba.inst B.R.hm.hm;have k:=ba.attrs B.R.hm.ib (by decide);refine di g f Ie<|qe<|dd l k Wt (H.m 1)<|tm<|dd g f IV (H.m 14)<|ca<|M9 H g f (B.T.fr ba id<|by decide)<|dt<|zD<|ca<|V5 H l k (ba.cu B.R.hm.fU id) (ba.inst aE) h.at (by refine J (aa0 _) ?_;exact nf (rW B.R.hm.nl)<|by decide) λaS aM j i=>?_;exact ad aM (λx ai ao=>((i.ne ai).trans<|j.ne ao).trans<|h.ne ai) i.at ((i.ne<|oY B.R.hm.fU hd λX=>by cases X).trans j.at)
 refine PE (n:=2) H ?_;rcases o with rfl|rfl
 ·exact di aE hd vT<|XB tail
 ·exact di aE hd vT<|qe<|di aE hd vT<|qe<|WW tail
theorem uz.fr {b c:O}(S:uz ae l I Z)(hd:I ae=kZ (.attrs 133 a1))(aB:I l=kZ (.cu aP))(bm:Z ae=kZ b)(g:Z l=kZ c):Fr No (λa=>a=l) kj I Z:= ⟨λx o Q ax=>(S x (λX=>by subst X;replace hd:=Q▸hd;cases hd;exact ax rfl) λX=>by subst X;replace aB:=Q▸aB;cases aB;exact ax rfl).trans Q, λx o Q=>by
  by_cases am:x=ae
  ·clear hd;subst am;exact⟨_,bm⟩
  ·by_cases z:x=l
   ·clear aB;subst z;exact⟨_,g⟩
   ·exact⟨o,(S x am z).trans Q⟩⟩
theorem Sn (x:Fr No (iR W) kj I Z):Fr (b2 W.cl) (iR W) c8 I Z:=x.mono (λq C=>C.elim) (λq C=>C) λq C=> .inr<|.inr C
theorem IY (C:aw.Nodup)(n:aN∉aw):(aw++[aN]).Nodup:=aaM.mpr ⟨C,.cons (λq C=>nomatch C) .nil,λa aE b aA X=>by cases aaO.mp aA;exact n<|X▸aE⟩
theorem wq (H:a2 c)(B:bQ W I A pt ak af){p:Int}(aE:I a=kZ (.inst 133 ae))(hd:I ae=kZ (.attrs 133<|f5 (.int last) (.bool false) .none<|.int cnt)) (aO:∀e∈af,e.num≠last)(g:∀e∈af,e.d≠ae)(an:af.length<59) (ad:∀Z,uz ae W.ee I Z->Fr (b2 W.cl) (iR W) c8 I Z->bQ W Z A pt ak (af++[⟨last,a,ae,qT A p⟩])->ab .none Z): be c 3 (.ref 212) [.ref a,.ref W.b,.int p] ab I:=by
 refine JS H B aE hd (.inl rfl) λZ S bm h=>?_;have F:Fr No (iR W) kj I Z:=S.fr hd B.R.hm.fU bm h;have i:hv last (V.ref a) (af.map λe:hc=>(e.num,V.ref e.a))=(af++[(⟨last,a,ae,qT A p⟩:hc)]).map (λe:hc=>(e.num,V.ref e.a)):=by unfold hv;rw[if_neg,qB];rfl;refine J xk<|m5 rY ?_;intro aM;refine bg aM λe he X=>?_;clear aM;exact aO e he<|of_decide_eq_true X
 refine gT (B.R.d9) λaC am P d9=>?_;refine ad Z S (Sn F) ⟨⟨F.inst B.R.aA,(qq aC am P<|F.attrs d9<|by decide),F.list B.R.an id,B.R.j3,⟨F.inst B.R.hm.hm,F.attrs B.R.hm.ib<|by decide,i▸h,λe he=>?_,?_,?_,?_⟩,B.R.ap⟩,B.T.fr F id<|by decide⟩
 ·rcases bc.mp he with he|he
  ·obtain⟨dP,bt⟩:=B.R.hm.fv e he;exact⟨F.inst dP,(S _ (g e he)<|oY bt B.R.hm.fU λX=>by cases X).trans bt⟩
  ·cases aaO.mp he;exact⟨F.inst aE,bm⟩
 ·refine J qB ?_;exact IY B.R.hm.nn λX=>by obtain⟨e,he,X⟩:=yB.mp X;exact aO e he X
 ·refine J qB ?_;exact IY B.R.hm.d5 λX=>by obtain⟨e,he,X⟩:=yB.mp X;exact g e he X
 ·refine J nb ?_;exact L0 an 1
noncomputable def Ai (num p:Int)(af:List hc):List hc:=af.map λe=>if e.num=num then{e with pos:=p} else e
theorem Zc (H:a2 c)(B:bQ W I A pt ak af)(he:U∈af)(ai:1<=last)(ao:last<=A.length+1) (ad:∀Z,Fr (b2 W.cl) (iR W) c8 I Z->bQ W Z A pt ak (Ai U.num last af)->ab .none Z): be c 3 (.ref 212) [.ref U.a,.ref W.b,.int last] ab I:=by
 obtain⟨aE,hd⟩:=B.R.hm.fv U he;have i:hv U.num (V.ref U.a) (af.map λU=>(U.num,V.ref U.a))=af.map λU=>(U.num,V.ref U.a):=by
  unfold hv;refine J (if_pos<|by rw[xk,rY];exact(bb U he<|decide_eq_true rfl))<|J uj ?_;apply qF;intro x Q;refine(?_:(if x.num=U.num then _ else _)=_);split
  ·rename_i X;exact J (zT B.R.hm.nn Q he X) rfl
  ·rfl
 refine JS H B aE hd (.inr rfl) λZ S bm h=>?_;replace bm:=(uS ai ao)▸bm;replace h:=i▸h;have u:Upd I Z U.d (.attrs 133<|f5 (.int U.num) (.bool false) (.ref W.b)<|.int last):=by
  funext x;by_cases X:x=U.d
  ·refine J X ?_;exact J bm<|J (az.set_same _ _ _) rfl
  ·refine J (az.g5 _ _ _ X) ?_;by_cases aS:x=W.ee
   ·refine J aS ?_;exact J h<|J B.R.hm.fU rfl
   ·exact S x X aS
 have F:Fr No No kj I Z:=.iK u hd rfl;have g:upTo (λq=>last) [] af=af:=(qF λU q=>if_neg wP).trans<|uk _;have hm:=Iw (W:=W) (af:=af) (f:=λq=>last) (seen:=[]) (e:=U) (I:=I) (Z:=Z) (g.symm▸B.R.hm) he wP<|.inl u;have a8:upTo (λq=>last) [U.num] af=Ai U.num last af:=qF λx q=>ite_congr (propext aaO) (λq=>rfl) λq=>rfl;exact ad Z (vd<|vf F)<|B.marks F<|a8▸hm
def lP (af:List hc)(mk:V):Option Int->Prop
 |none=>mk=.none/\∀e∈af,e.num≠0
 |some p=>∃e∈af,mk=.ref e.a/\e.num=0/\e.pos=p
theorem lP.map:∀{mp:Option Int},lP af ak mp->lP (d6 bn af) ak (mp.map bn)
 |none,⟨a8,bo⟩=>⟨a8,λe he=>by obtain⟨x,Q,rfl⟩:=yB.mp he;exact bo x Q⟩
 |some p,⟨e,he,a8,bo,c2⟩=>⟨_,xh he,a8,bo,a6 c2 rfl⟩
theorem Ax (H:a2 c)(B:bQ W I A pt ak af)(hm:lP af ak mp)(ai:1<=last)(ao:last<=A.length+1)(an:af.length<58)
 (ad:∀Z r bA,Fr (b2 W.cl) (iR W) c8 I Z->bQ W Z A pt r bA->lP bA r (kZ last)->(∀e∈af,e.num≠0->e∈bA)->(∀e∈bA,e.num=0\/e∈af)->bA.length<=af.length+1->ab .none Z):
 be c 4 (.ref 240) [.ref W.b,.int last] ab I:=by
 cases mp with
 |none=>obtain⟨rfl,aO⟩:=hm;refine F9 (n:=3) H<|nA B.R<|abx (H.k 6).keep<|ca<|xx H λa d au m=>?_;have ah:=B.ext m.ext;refine gT (ah.R.d9) λaC am P l=>?_;refine ie ah.R.aA l (H.d 9) (by refine J H5 ?_;decide) λaS j=>?_;replace j:=XN▸j;have h:bQ W aS A pt (.ref a) af:=⟨ah.R.set j<|.inr ⟨_,rfl⟩,ah.R.JQ ah.T j⟩;have id:=(j.ne<|oY m.id l λX=>by cases X).trans m.id;refine abx (H.f 8)<|nA h.R<|ca<|wq H h (j.keep l m.d3) id (p:=last) aO (λe he=>de (B.R.hm.fv e he).2 m.d5) (Ly an) λaM _ a7 ag=>?_;replace ag:=(uS ai ao)▸ag;exact ad _ _ _ ((vd<|(Fr.cv m.ext).trans<|ah.R.JO j).trans a7) ag (kR _ (LX _<|.head _) rfl rfl rfl) (λe he q=>sd _ he) (λe he=>(bc.mp he).elim .inr λC=> .inl<|by cases aaO.mp C;rfl) (by refine J nb ?_;exact nu _)
 |some X=>
  refine nW hm λe he O bo c2=>?_;clear hm;replace B:=O▸B;refine F9 (n:=3) H<|nA B.R<|abx (H.f 8)<|nA B.R<|ca<|Zc H B he ai ao λau ba ah=>?_;refine ad _ _ _ ba ah (kR _ (xh he) ?_ ?_ ?_) (λx Q h0=>?_) (λx Q=>?_) (by unfold Ai;refine J (aa0 _) ?_;exact Bv _)
  ·exact J (if_pos rfl) rfl
  ·refine J (if_pos rfl) ?_;exact bo
  ·exact J (if_pos rfl) rfl
  ·exact yB.mpr<|bb x Q<|if_neg (by refine J bo ?_;exact h0)
  ·refine bg (yB.mp Q) λy G O=>?_;refine a6 O ?_;by_cases X:y.num=e.num
   ·left;refine J (if_pos X) ?_;exact X.trans bo
   ·right;refine J (if_neg X) ?_;exact G
theorem TU (C:f3 W I af)(he:U∈af)(aP:ad (.ref W.b)):d2 I U.a "buffer" ad:=di (C.fv U he).1 (C.fv U he).2 vT aP
theorem S5 (H:a2 c)(B:bQ W I A pt ak af)(hm:lP af ak mp)(ad:ab (.bool mp.isSome) I):be c 1 (.ref 247) [.ref W.b] ab I:=by
 cases mp with
 |none=>obtain⟨rfl,aO⟩:=hm;exact F7 (n:=0) H<|nA B.R ad
 |some X=>refine nW hm λe he O bo c2=>?_;clear hm;replace B:=O▸B;exact F7 (n:=0) H<|nA B.R<|nA B.R<|TU B.R.hm he ad
structure gP (I:az)(r ga bW:Addr)(aa:List V)(last:Int):Prop where
 aB:I r=kZ (.inst 229 ga)
 hd:I ga=kZ (.attrs 229 (mO (.int 16) (.ref bW) (.int last)))
 an:I bW=kZ (.list aa)
abbrev qK:Addr->Prop:=λa=>a=1028\/a=922\/a=133\/a=229
theorem yF (x:Fr (b2 W.cl) (iR W) c8 I Z):Fr (λa=>a=W.cl\/a=ae) (iR W) qK I Z:=x.mono (λq C=> .inl C) (λq C=>C) λq C=>C.imp id λC=>C.imp id .inl
theorem Ap (R:gP I a ae l aa last)(C:ad (.ref l)):d2 I a "markers" ad:=di R.aB R.hd U2 C
theorem JD (R:gP I a ae l aa last)(C:ad (.int 16)):d2 I a "most" ad:=di R.aB R.hd U3 C
theorem JE (R:gP I a ae l aa last)(C:ad (.int last)):d2 I a "last" ad:=di R.aB R.hd U1 C
theorem gP.ext (R:gP I a ae l aa last)(x:bp I Z):gP Z a ae l aa last:=⟨x _ _ R.aB,x _ _ R.hd,x _ _ R.an⟩
theorem gP.fr {ae:Addr->Prop}(R:gP I a l cl aa last)(x:Fr L D ae I Z)(ai:¬ ae 229)(ao:¬ L cl):gP Z a l cl aa last:=⟨x.inst R.aB,x.attrs R.hd ai,x.list R.an ao⟩
abbrev xq:Addr->Prop:=λa=>a=229
theorem G8 (x:Fr No No xq I Z):Fr (λa=>a=W.cl\/a=ae) (iR W) qK I Z:=x.mono (λq C=>C.elim) (λq C=>C.elim) λq C=> .inr<|.inr<|.inr C
theorem Yv (H:a2 c)(B:bQ W I A pt ak af)(R:gP I ae l cl aa last)(an:af.length<58)(aO:∀e∈af,last<=e.num)(s:cl≠W.cl) (ad:∀Z a d,Fr (λa=>a=W.cl\/a=cl) (iR W) qK I Z->bQ W Z A pt ak (af++[⟨last -1,a,d,qT A cnt⟩])->gP Z ae l cl aa (last -1)->ab (.ref a) Z): be c 4 (.ref 254) [.ref ae,.ref W.b,.int cnt] ab I:=by refine PA (n:=3) H<|JE R<|dC<|ie R.aB R.hd (H.d 68) (by refine J H7 ?_;decide) λau h=>?_;replace h:=XW▸h;have ba:Fr No No xq I au:=.iK h R.hd rfl;have ah:=B.fr ba id id id (by decide) (by decide) (by decide) (by decide);have i:gP au ae l cl aa (last -1):=⟨ba.inst R.aB,h.at,ba.list R.an id⟩;exact abx (H.k 6).keep<|JE i<|ca<|xx H λa d aS m=>ci (H.f 8)<|wq H (ah.ext m.ext) m.d3 m.id (p:=cnt) (λe he X=>by have:=aO e he;rw[X] at this;exact aa1.mpr this<|Int.sub_one_lt_of_le<|eo _) (λe he=>de (ah.R.hm.fv e he).2 m.d5) (Ly an) λaM _ a7 ag=> ad aM a d (((G8 ba).trans<|.cv m.ext).trans<|yF a7) ag<|(i.ext m.ext).fr a7 (by decide) s
theorem XI (H:a2 c)(B:bQ W I A pt ak af)(hm:lP af ak mp)(R:gP I ae l cl aa last)(ai:1<=cnt)(ao:cnt<=A.length+1)(an:af.length<56)(aO:∀e∈af,last<=e.num)(ag:last<=0)(s:cl≠W.cl)(ax:cl≠W.ls)(aW:aa.length<=15)
 (ad:∀Z r bA p v m,Fr (λa=>a=W.cl\/a=cl) (iR W) qK I Z->bQ W Z A pt r bA->lP bA r (kZ cnt)->(∀e∈af,e.num≠0->e∈bA)->bA.length<=af.length+2-> gP Z ae l p v m->v.length<=aa.length+1->m<=0->(∀e∈bA,m<=e.num)->(p=cl\/I p=By)->ab .none Z):
 be c 5 (.ref 261) [.ref ae,.ref W.b,.int cnt] ab I:=by
 refine Pq (n:=4) H<|ci (H.f 11)<|S5 H B hm ?_
 intros M;cases mp with
 |none=>refine ci (H.f 10)<|Ax H B hm ai ao (uh an<|by decide) λau aq fM ba ah w L G U=>?_;exact ad _ _ _ cl aa last (yF ba) ah w L (abF U) (R.fr ba (by decide) s) (Bv _) ag (λe he=>(G e he).elim (λC=>C▸ag)<|aO e)<|.inl rfl
 |some X=>
  refine nW hm λe he O bo c2=>?_;clear hm;replace B:=O▸B;refine Ap R ⟨ty_list R.an,(H.f 12),nA B.R<|lm B.R.hm he<|ca<|Yv H B R (uh an<|by decide) aO s λau a d ba ah i=>(kR _ i.an (by refine J wT ?_;exact nf aW<|by decide) rfl λaS j=>?_)⟩;have g:Fr (λa=>a=cl) No No au aS:=.lB j i.an rfl;have h:=ah.fr g (us ax) (us s) id id id id id;have aH:gP aS ae l cl (.ref a::aa) (last -1):=⟨g.inst i.aB,g.attrs i.hd id,j.at⟩;have aj:(V.ref a::aa).length<=100000:=nf (t4 aW) (by decide);have D:(V.ref a::aa).length<=16:=t4 aW;refine Ap aH<|JD aH<|wD (k:=16) aH.an aj λb aM bj a9 bn=>?_;replace bn:=(jf D)▸bn;have o:=aH.ext bj;refine gd bn<|zS bn<|Ap o<|JD o<|wF (k:=16) o.an aj λy ay bf bq a3=>?_;replace a3:=(pj D)▸a3;have aE:=o.ext bf;refine ie aE.aB aE.hd (H.d 67) (by refine J H7 ?_;decide) λbh t=>?_;replace t:=XX▸t;have K:Fr No No xq ay bh:=.iK t aE.hd rfl;have P:=(h.ext<|bj.trans bf).fr K id id id (by decide) (by decide) (by decide) (by decide);have F:Fr (λa=>a=W.cl\/a=cl) (iR W) qK I bh:=(ba.trans<|g.mono (λq C=> .inr C) (λq C=>C.elim) λq C=>C.elim).trans<|(Fr.cv<|bj.trans bf).trans<|G8 K;have aZ:I y=By:=ba.none<|g.none<|bj.none bq;refine ci (H.f 10)<|Ax H P (mp:=kZ X) (kR e (sd _ he) rfl bo c2) ai ao (by refine J nb ?_;exact uh (L0 an 1)<|by decide) λbv am ap aJ E z N S u=>?_;replace u:=nb▸u;refine ad bv am ap y _ (last -1) (F.trans<|yF aJ) E z (λx Q h0=>N x (sd _ Q) h0) u (gP.fr ⟨K.inst aE.aB,t.at,K.list a3 id⟩ aJ (by decide)<|B.T.ne aZ) (nu _) (abT (my _<|by decide) ag) (λx Q=>?_)<|.inr aZ;rcases S x Q with C|C
  ·refine J C ?_;exact abT (my _<|by decide) ag
  ·rcases bc.mp C with C|C
   ·exact abT (my _<|by decide)<|aO x C
   ·cases aaO.mp C;exact eo _
structure hY extends mD where
 cT:Addr
 la:Addr
 fR:Addr
 jr:Addr
 fs:Addr
 ez:Addr
 wl:Addr
 j9:Addr
 eU:Addr
def sQ (aq:hY)(bu:V)(x:Nat->V):List (Str×V):=jt (.ref aq.fR) (x 1) (x 2) (x 3) (x 4) (x 5) (x 6) (x 7) (x 8) (.ref aq.ez) (x 10) (x 11) (x 12) (x 13) (x 14) (x 15) (x 16) (x 17) (x 18) (x 19) (.ref aq.eU) (x 21) (x 22) (x 23) (x 24) (x 25) (x 26) (x 27) (x 28) (.int 8) bu (x 31)<|x 32
structure hV (aq:hY)(I:az)(bu:V):Prop where
 he:I aq.cT=kZ (.inst 1321 aq.la)
 eJ:∃x,I aq.la=kZ (.attrs 1321 (sQ aq bu x))
 i2:I aq.fR=kZ (.inst 1132 aq.jr)
 ia:∃x y z w:V,I aq.jr=kZ (.attrs 1132 (mN (.ref aq.fs) x (.int 1) y z w))
 fG:I aq.fs=kZ (.cu [(1,.ref aq.b)])
 iC:I aq.ez=kZ (.inst 704 aq.wl)
 vz:I aq.wl=kZ (.attrs 704 (u7 (.ref aq.j9)))
def pv (M:Addr->Prop)(I:az)(p:Int×V)(X:Int×List (List Int)):Prop:=p.1=X.1/\∃t r,p.2=.ref t/\I t=kZ (.tup [.str "rectangle",r])/\eh M I r X.2
def oq (aq:hY)(M:Addr->Prop)(I:az)(U:List (Int×List (List Int))):Prop:=∃ah,I aq.j9=kZ (.cu ah)/\cc (pv M I) ah U
def uy (aq:hY)(I:az)(bW:Option Addr)(last:Int)(n:Nat):Prop:= (I aq.eU=kZ (.cu [])/\bW=By/\last=0)\/∃r ga a aa,bW=kZ a/\I aq.eU=kZ (.cu [(1,.ref r)])/\gP I r ga a aa last/\aa.length<=n
def dT (aq:hY)(bW:Option Addr)(aH:Addr->Prop):Addr->Prop:=λa=>a=aq.cl\/bW=kZ a\/aH a
structure hZ where
 aG:List Int
 pt:Int
 mp:Option Int
 fA:List (List Int)
 fo:List (Int×List (List Int))
 ex:List (Addr×Int)
 n:Nat
structure Mr (aq:hY):Prop where
 fa:aq.ee≠aq.fs
 ft:aq.ee≠aq.j9
 hH:aq.ee≠aq.eU
 yt:aq.fs≠aq.j9
 u1:aq.fs≠aq.eU
 Gw:aq.j9≠aq.eU
structure ej (aq:hY)(aH:Addr->Prop)(I:az)(S:hZ)(mk:V)(af:List hc)(bW:Option Addr)(last:Int)(bu:V):Prop where
 B:bQ aq.tomD I S.aG S.pt mk af
 K:lP af mk S.mp
 E:hV aq I bu
 D:eF (dT aq bW aH) I
 R:eh (dT aq bW aH) I bu S.fA
 G:oq aq (dT aq bW aH) I S.fo
 N:uy aq I bW last S.n
 num:∀e∈af,last<=e.num
 hM:last<=0
 nl:af.length<=4+2*S.n
 ex:∀p∈S.ex,∃e∈af,0<e.num/\e.a=p.1/\e.pos=p.2
 ok:Mr aq
 ba:¬ aH aq.cl
 bh:¬ aH aq.ls
 bL:¬ aH aq.ee
 ce:¬ aH aq.fs
 ct:¬ aH aq.j9
 cH:¬ aH aq.eU
 cI:∀a,bW=kZ a->¬ aH a/\a≠aq.cl/\a≠aq.ls
 hy:∀a ae ah,aH a->I a≠kZ (.attrs ae ah)
def fk (aq:hY)(aH:Addr->Prop)(I:az)(S:hZ):Prop:=∃ak af bW last bu,ej aq aH I S ak af bW last bu
def ds (aH:Addr->Prop)(I Z:az):Prop:=∀a o,aH a->I a=kZ o->Z a=kZ o
theorem ds.trans (x:ds aH I au)(y:ds aH au Z):ds aH I Z:=λa o C e=>y a o C<|x a o C e
theorem ds.ext (x:bp I Z):ds aH I Z:=λa o q e=>x a o e
variable{aq:hY}
theorem hV.fr {ae:Addr->Prop}(C:hV aq I bu)(x:Fr L D ae I Z)(O:¬ D aq.fs)(ai:¬ ae 1321)(ao:¬ ae 1132)(a7:¬ ae 704):hV aq Z bu:= ⟨x.inst C.he,cO (C.eJ) λy e=>⟨y,x.attrs e ai⟩,x.inst C.i2,j8 (C.ia) λy z u w e=>⟨y,z,u,w,x.attrs e ao⟩,x.cu C.fG O,x.inst C.iC,x.attrs C.vz a7⟩
variable{U:List (Int×List (List Int))}
theorem oq.fr {ae:Addr->Prop}(C:oq aq aF I U)(x:Fr L D ae I Z)(O:¬ D aq.j9)(M:∀a,L a->aF a):oq aq aF Z U:= bg C λah e r=>⟨ah,x.cu e O,r.mono λ_ _ C=>dp C λa8 C=>gG C λt r bo c2 aQ=>⟨a8,t,r,bo,x.tup c2,aQ.fr x M⟩⟩
theorem uy.fr {ae:Addr->Prop}{n:Nat}(C:uy aq I bW last n)(x:Fr L D ae I Z)(O:¬ D aq.eU)(H:¬ ae 229)(cj:∀a,bW=kZ a->¬ L a):uy aq Z bW last n:=by
 rcases C with⟨e,aW⟩|aM
 ·exact .inl ⟨x.cu e O,aW⟩
 ·refine tA aM λr ga a aa a8 bo c2 aQ=>?_;clear aM;exact .inr<|⟨r,ga,a,aa,a8,(x.cu bo O),(c2.fr x H<|cj a a8),aQ⟩
theorem qs (O:eF aH I)(hy:∀a ae ah,aH a->I a≠kZ (.attrs ae ah))(ap:ds aH I Z):∀a ae ah,aH a->Z a≠kZ (.attrs ae ah):=λa ae ah aE e=>by obtain⟨o,aw⟩:=O a aE;rw[ap a o aE aw] at e;exact hy a ae ah aE<|aw.trans e
variable{ar:hZ}
theorem ej.oS (C:ej aq aH I ar ak af bW last bu)(x:Fr L D aF I Z)(cj:∀a,L a->a=aq.cl\/bW=kZ a)(O:∀a,D a->a=aq.ee\/a=aq.eU\/a=aq.j9):ds aH I Z:=λa o aE e=>by
 refine x.keep a o e ?_;cases o with
 |list aa=>exact λX=>(cj a X).elim (λX=>C.ba<|X▸aE) λX=>(C.cI a X).1 aE
 |cu ah=>exact λX=>(O a X).elim (λX=>C.bL<|X▸aE) λX=>X.elim (λX=>C.cH<|X▸aE) λX=>C.ct<|X▸aE
 |gD ah=>exact λX=>(O a X).elim (λX=>C.bL<|X▸aE) λX=>X.elim (λX=>C.cH<|X▸aE) λX=>C.ct<|X▸aE
 |attrs aF ah=>exact(C.hy a aF ah aE e).elim
 |_=>trivial
theorem lZ (C:eF (dT aq bW aH) I):eF aH I:=λa aE=>C a<|.inr<|.inr aE
noncomputable def hZ.move (S:hZ)(f:Int->Int)(A:List Int)(pt:Int):hZ:={S with aG:=A,pt:=pt,mp:=S.mp.map f,ex:=S.ex.map λp=>(p.1,f p.2)}
theorem ej.move {f:Int->Int}(C:ej aq aH I ar ak af bW last bu)(F:Fr (b2 aq.cl) No c8 I Z)(a0:bQ aq.tomD Z A pt ak (d6 f af)):ej aq aH Z (ar.move f A pt) ak (d6 f af) bW last bu:=by
 have M:∀a,b2 aq.cl a->dT aq bW aH a:=λa C=> .inl C;refine⟨a0,C.K.map,C.E.fr F id (by decide) (by decide)<|by decide,C.D.fr F,C.R.fr F M,C.G.fr F id M,C.N.fr F id (by decide) λa e X=>(C.cI a e).2.1 X,λe he=>?_,C.hM,by unfold d6;refine J (aa0 _) ?_;exact C.nl,λp aP=>?_,C.ok,C.ba,C.bh,C.bL,C.ce,C.ct,C.cH,C.cI, qs (lZ C.D) C.hy<|C.oS F (λq X=> .inl X) λq X=>X.elim⟩
 ·obtain⟨x,Q,rfl⟩:=yB.mp he;exact C.num x Q
 ·refine bg (yB.mp aP) λX ad O=>?_;refine a6 O ?_;obtain⟨e,he,ai,a8,bo⟩:=C.ex X ad;exact⟨_,xh he,ai,a8,a6 bo rfl⟩
theorem ej.ext (C:ej aq aH I ar ak af bW last bu)(x:bp I Z):ej aq aH Z ar ak af bW last bu:=by have F:Fr No No No I Z:=.cv x;exact⟨C.B.ext x,C.K,C.E.fr F id id id id,C.D.ext x,C.R.ext x,C.G.fr F id λq X=>X.elim,C.N.fr F id id λq q=>id,C.num,C.hM,C.nl,C.ex,C.ok,C.ba,C.bh,C.bL,C.ce,C.ct,C.cH,C.cI,qs (lZ C.D) C.hy<|.ext x⟩
theorem ej.kb (C:ej aq aH I ar ak af bW last bu):fk aq aH I ar:=(⟨_,_,_,_,_,C⟩)
theorem nJ (E:hV aq I bu)(an:∀f,(sQ aq bu f).lookup w=kZ u)(C:dE u (ad u)):d2 I aq.cT w ad:=cO (E.eJ) λq hd=>di E.he hd (an _) C
theorem yy (E:hV aq I bu)(C:ad (.ref aq.fR)):d2 I aq.cT "buffers" ad:=nJ E (λq=>US) C
theorem sP (E:hV aq I bu)(C:ad (.ref aq.ez)):d2 I aq.cT "registers" ad:=nJ E (λq=>UV) C
theorem u5 (E:hV aq I bu)(C:ad (.ref aq.eU)):d2 I aq.cT "marks" ad:=nJ E (λq=>UT) C
theorem ks (E:hV aq I bu)(C:ad (.int 8)):d2 I aq.cT "tab_width" ad:=nJ E (λq=>UW) C
theorem GL (E:hV aq I (.ref a))(C:ad (.ref a)):d2 I aq.cT "rectangle" ad:=nJ E (λq=>UU) C
theorem GK (E:hV aq I bu)(C:ad (.int 1)):d2 I aq.fR "current" ad:=j8 (E.ia) λq q q q hd=>di E.i2 hd UH C
theorem QY (E:hV aq I bu)(C:ad (.ref aq.fs)):d2 I aq.fR "rows" ad:=j8 (E.ia) λq q q q hd=>di E.i2 hd UI C
theorem Nc (H:a2 c)(E:hV aq I bu)(ad:ab (.ref aq.b) I):be c 1 (.ref 1051) [.ref aq.fR,.int 1] ab I:=NP (n:=0) H<|QY E<|⟨(Kv E.fG),_,E.fG,ad⟩
theorem yq (H:a2 c)(E:hV aq I bu)(ad:ab (.ref aq.b) I):be c 2 (.ref 1178) [.ref aq.cT] ab I:= N5 (n:=1) H<|yy E<|j8 (E.ia) λq q q q hd=>dd E.i2 hd Wh (H.m 19)<|yy E<|GK E<|ca<|Nc H E ad
theorem kr (H:a2 c)(E:hV aq I bu)(C:ab (.ref aq.b) I)(ap:dN 2 e=true:=by rfl):∃ae d ah f,I aq.cT=kZ (.inst ae d)/\I d=kZ (.attrs ae ah)/\ah.lookup ("current":Str)=By/\jS c.K ae ("current":Str) f/\nw c e (.ref f) [.ref aq.cT] ab I:= cO (E.eJ) λq hd=>dd E.he hd Wl (H.m 24)<|ca (yq H E C) ap
theorem ej.ln (C:ej aq aH I ar ak af bW last bu)(x:Fr (b2 aq.cl) No c8 I Z):ds aH I Z:=C.oS x (λq X=> .inl X) λq X=>X.elim
theorem ej.wp {f:Nat->V}(C:ej aq aH I ar aJ af bW last bu)(u:Upd I Z aq.la (.attrs 1321<|sQ aq ak f))(aB:eh (dT aq bW aH) I ak h):ej aq aH Z {ar with fA:=h} aJ af bW last ak/\ds aH I Z:=by obtain⟨g,eJ⟩:=C.E.eJ;have F:Fr No No (λa=>a=1321) I Z:=.iK u eJ rfl;have k:=C.oS F (λq X=>X.elim) λq X=>X.elim;have M:∀a,No a->dT aq bW aH a:=λq X=>X.elim;exact j8 (C.E.ia) λx y z w ia=>⟨⟨C.B.fr F id id id (by decide) (by decide) (by decide)<|by decide,C.K,⟨u.keep eJ C.E.he,⟨f,u.at⟩,F.inst C.E.i2,(⟨x,y,z,w,(F.attrs ia<|by decide)⟩),F.cu C.E.fG id,F.inst C.E.iC,F.attrs C.E.vz<|by decide⟩,C.D.fr F,aB.fr F M,C.G.fr F id M,C.N.fr F id (by decide) λq q=>id,C.num,C.hM,C.nl,C.ex,C.ok,C.ba,C.bh,C.bL,C.ce,C.ct,C.cH,C.cI,qs (lZ C.D) C.hy k⟩,k⟩
theorem wp (H:a2 c)(C:ej aq aH I ar aJ af bW last bu)(aB:eh (dT aq bW aH) I ak h)(ad:∀Z,ej aq aH Z {ar with fA:=h} aJ af bW last ak->ds aH I Z->(∀a aa,I a=kZ (.list aa)->Z a=kZ (.list aa))->cd Z): ∃ae d ah,I aq.cT=kZ (.inst ae d)/\I d=kZ (.attrs ae ah)/\fS c.K ae "rectangle"=true/\ah.length<900/\∀D,Upd I D d (.attrs ae<|bF "rectangle" ak ah)->cd D:= let⟨f,hd⟩:=C.E.eJ;ie C.E.he hd (H.d 58) (by unfold sQ;refine J UD ?_;decide) λD u=>by unfold sQ at u;rw[XS] at u;obtain⟨av,k⟩:=C.wp (f:=f) u aB;exact ad D av k λa aa e=>u.keep hd e
theorem QQ (H:a2 c)(C:fk aq aH I ar)(aw:cS ar.aG)(ax:b<=ar.aG.length)(he:e<=ar.aG.length)(aj:ar.aG.length<=40000)(aV:I ae=kZ (.list [.int<|(b:Int)+1,.int<|(e:Int)+1])) (ad:∀Z,ds aH I Z->fk aq aH Z {ar with fA:=gr ar.aG b e}->ab .none Z):be c 9 (.ref 786) [.ref aq.cT,.ref ae] ab I:= g1 C λ_ _ _ _ _ C=> OG (n:=8) H ⟨(H.f 60),kr H C.E<|cE (k:=0) aV rfl (c0 rfl)<|cE (k:=1) aV rfl (c0 rfl)<|ks C.E<|ca<|u8 H C.B aw ax he aj C.D λa au U Q=>wp H (C.ext U) Q λaS bd d q=>ad _ ((ds.ext U).trans d) bd.kb⟩
theorem QT (H:a2 c)(C:fk aq aH I ar)(aw:cS ar.aG)(ax:b<=ar.aG.length)(he:e<=ar.aG.length)(aj:ar.aG.length<=40000)(aV:I ae=kZ (.list [.int<|(b:Int)+1,.int<|(e:Int)+1])) (ad:∀Z,ds aH I Z->fk aq aH Z ({ar with fA:=gr ar.aG b e}.move (d4 ar.aG b e (b8 ar.aG b e)<|lY ar.aG b e) (fC ar.aG b e<|lY ar.aG b e)<|d4 ar.aG b e (b8 ar.aG b e) (lY ar.aG b e) ar.pt)->ab .none Z):be c 10 (.ref 779) [.ref aq.cT,.ref ae] ab I:= g1 C λ_ _ _ _ _ C=> OK (n:=9) H ⟨(H.f 60),kr H C.E<|cE (k:=0) aV rfl (c0 rfl)<|cE (k:=1) aV rfl (c0 rfl)<|ks C.E<|ca<|u8 H C.B aw ax he aj C.D λa au U Q=>wp H (C.ext U) Q λaS bd d g=> have F:=g _ _<|U _ _ aV;⟨(H.f 61),kr H bd.E<|cE (k:=0) F rfl (c0 rfl)<|cE (k:=1) F rfl (c0 rfl)<|ks bd.E<|ca<|yu H bd.B aw ax he (K4 (GA<|gH aw ax he) aj) aj bd.D (.inl rfl) λaM a7 ag=> ad _ (((ds.ext U).trans d).trans<|bd.ln a7) (bd.move a7 ag).kb⟩⟩
theorem QR (H:a2 c)(C:fk aq aH I ar)(aw:cS ar.aG)(ax:b<=ar.aG.length)(he:e<=ar.aG.length)(aj:ar.aG.length+(aY<|(bk ar.aG b e).map λr=>r.take (b7 ar.aG b e)++r.drop (b8 ar.aG b e)).length<=90000)(N:ar.aG.length<=40000)(aV:I a=kZ (.list [.int<|(b:Int)+1,.int<|(e:Int)+1])) (ad:∀Z,ds aH I Z->fk aq aH Z (ar.move (d4 ar.aG b e (b8 ar.aG b e)<|(bk ar.aG b e).map λr=>r.take (b7 ar.aG b e)++r.drop (b8 ar.aG b e)) (fC ar.aG b e<|(bk ar.aG b e).map λr=>r.take (b7 ar.aG b e)++r.drop (b8 ar.aG b e))<|d4 ar.aG b e (b8 ar.aG b e) ((bk ar.aG b e).map λr=>r.take (b7 ar.aG b e)++r.drop (b8 ar.aG b e)) ar.pt)->ab .none Z):be c 10 (.ref 793) [.ref aq.cT,.ref a] ab I:= g1 C λ_ _ _ _ _ C=> OI (n:=9) H ⟨(H.f 61),kr H C.E<|cE (k:=0) aV rfl (c0 rfl)<|cE (k:=1) aV rfl (c0 rfl)<|ks C.E<|ca<|yu H C.B aw ax he aj N C.D (.inl rfl) λau ba ah=>ad _ (C.ln ba) (C.move ba ah).kb⟩
theorem QO (H:a2 c)(C:fk aq aH I ar)(aw:cS ar.aG)(ax:b<=ar.aG.length)(he:e<=ar.aG.length)(aj:ar.aG.length+(aY<|(bk ar.aG b e).map λr=>gR r (b7 ar.aG b e)<|b8 ar.aG b e).length<=90000)(N:ar.aG.length<=40000)(aV:I a=kZ (.list [.int<|(b:Int)+1,.int<|(e:Int)+1])) (ad:∀Z,ds aH I Z->fk aq aH Z (ar.move (d4 ar.aG b e (b8 ar.aG b e)<|(bk ar.aG b e).map λr=>gR r (b7 ar.aG b e)<|b8 ar.aG b e) (fC ar.aG b e<|(bk ar.aG b e).map λr=>gR r (b7 ar.aG b e)<|b8 ar.aG b e)<|d4 ar.aG b e (b8 ar.aG b e) ((bk ar.aG b e).map λr=>gR r (b7 ar.aG b e)<|b8 ar.aG b e) ar.pt)->ab .none Z):be c 10 (.ref 814) [.ref aq.cT,.ref a] ab I:= g1 C λ_ _ _ _ _ C=> OE (n:=9) H ⟨(H.f 63),kr H C.E<|cE (k:=0) aV rfl (c0 rfl)<|cE (k:=1) aV rfl (c0 rfl)<|ks C.E<|ca<|Qa H C.B aw ax he aj N C.D (.inl rfl) λau ba ah=>ad _ (C.ln ba) (C.move ba ah).kb⟩
theorem QP (H:a2 c)(C:fk aq aH I ar)(aw:cS ar.aG)(ax:b<=ar.aG.length)(he:e<=ar.aG.length)(aj:ar.aG.length+(aY<|(bk ar.aG b e).map λr=>cls r<|b7 ar.aG b e).length<=90000)(N:ar.aG.length<=40000)(aV:I a=kZ (.list [.int<|(b:Int)+1,.int<|(e:Int)+1])) (ad:∀Z,ds aH I Z->fk aq aH Z (ar.move (d4 ar.aG b e (b7 ar.aG b e)<|(bk ar.aG b e).map λr=>cls r<|b7 ar.aG b e) (fC ar.aG b e<|(bk ar.aG b e).map λr=>cls r<|b7 ar.aG b e)<|d4 ar.aG b e (b7 ar.aG b e) ((bk ar.aG b e).map λr=>cls r<|b7 ar.aG b e) ar.pt)->ab .none Z):be c 10 (.ref 821) [.ref aq.cT,.ref a] ab I:= g1 C λ_ _ _ _ _ C=> OF (n:=9) H ⟨(H.f 65),kr H C.E<|cE (k:=0) aV rfl (c0 rfl)<|cE (k:=1) aV rfl (c0 rfl)<|ks C.E<|ca<|Qd H C.B aw ax he aj N C.D (.inl rfl) λau ba ah=>ad _ (C.ln ba) (C.move ba ah).kb⟩
theorem GF {s:Nat}(H:a2 c)(C:fk aq aH I ar)(aw:cS ar.aG)(ax:s<=ar.aG.length)(he:e<=ar.aG.length)(aj:ar.aG.length+(aY<|(bk ar.aG s e).map λr=>ht r (b7 ar.aG s e)<|b8 ar.aG s e).length<=90000)(N:ar.aG.length<=40000)(aV:I a=kZ (.list [.int<|(s:Int)+1,.int<|(e:Int)+1])) (ad:∀Z,ds aH I Z->fk aq aH Z (ar.move (d4 ar.aG s e (b7 ar.aG s e)<|(bk ar.aG s e).map λr=>ht r (b7 ar.aG s e)<|b8 ar.aG s e) (fC ar.aG s e<|(bk ar.aG s e).map λr=>ht r (b7 ar.aG s e)<|b8 ar.aG s e)<|((min s e:Nat):Int)+1)->ab .none Z):be c 10 (.ref 807) [.ref aq.cT,.ref a] ab I:= g1 C λ_ _ _ _ _ C=> OM (n:=9) H ⟨(H.f 64),kr H C.E<|cE (k:=0) aV rfl (c0 rfl)<|cE (k:=1) aV rfl (c0 rfl)<|ks C.E<|ca<|Xg H C.B aw ax he aj N C.D (.inl rfl) λau ba ah=>ad _ (C.ln ba) (C.move ba ah).kb⟩
theorem Tw (H:a2 c)(ad:ab (.bool false) I):be c 1 (.ref 296) [.int pt] ab I:=OZ (n:=0) H ⟨rfl,ad⟩
theorem Tv (H:a2 c)(ad:ab (.bool false) I):be c 1 (.ref 289) [.int pt] ab I:=OY (n:=0) H ⟨H.Wq,ad⟩
theorem WL (H:a2 c)(ad:ab (.int pt) I):be c 2 (.ref 303) [.int pt] ab I:=Pk (n:=1) H<|ci (H.f 15)<|Tw H<|ci (H.f 14)<|Tv H ad
theorem MF (Q:∀n∈w.cps.toList,32<=n/\n<127):w.cps.all (· <128)=true:=by refine a6 ug<|m5 abe ?_;exact λy G=>decide_eq_true<|Ly (Q y G).2
theorem ZS (H:a2 c)(Q:∀n∈w.cps.toList,32<=n/\n<127)(aj:w.cps.toList.length<=1000)(ad:lR ab I (fp w)):be c 1 (.ref 744) [.str w] ab I:= PL (n:=0) H ⟨rfl,rfl,MF Q,z7 (by refine J wT ?_;exact nf aj<|by decide) λa au s=>ad _ _ s.ext s.1 s.at⟩
theorem QV (H:a2 c)(C:fk aq aH I ar)(aw:cS ar.aG)(Q:∀n∈w.cps.toList,32<=n/\n<127)(d:w.cps.toList.length<=1000)(ax:b<=ar.aG.length)(he:e<=ar.aG.length)(aj:ar.aG.length+(aY<|strN ar.aG b e<|fp w).length<=90000)(N:ar.aG.length<=40000)(aV:I a=kZ (.list [.int<|(b:Int)+1,.int<|(e:Int)+1,.str w])) (ad:∀Z,ds aH I Z->fk aq aH Z (ar.move (d4 ar.aG b e (b8 ar.aG b e)<|strN ar.aG b e<|fp w) (fC ar.aG b e<|strN ar.aG b e<|fp w)<|(ef ar.aG b e:Int)+1+(aY<|strN ar.aG b e<|fp w).length -(((bk ar.aG b e).getLastD []).length -b8 ar.aG b e:Nat))->ab .none Z):be c 10 (.ref 828) [.ref aq.cT,.ref a] ab I:= g1 C λ_ _ _ _ _ C=> ON (n:=9) H ⟨(H.f 66),kr H C.E<|cE (k:=0) aV rfl (c0 rfl)<|cE (k:=1) aV rfl (c0 rfl) ⟨(H.f 75),cE (k:=2) aV rfl (c0 rfl)<|ca<|ZS H Q d λk au U j ap=> have aI:=C.ext U;ks aI.E<|ca<|ZF H aI.B aw ap (C.D.fresh j) (by unfold fp;refine J (aa0 _) ?_;exact d) ax he aj N aI.D (.inl rfl) λaS g h=>ad _ ((ds.ext U).trans<|aI.ln g) (aI.move g h).kb⟩⟩
theorem GE (H:a2 c)(C:fk aq aH I ar)(aw:cS ar.aG){b:Int}{d:V}(j:(d=.none/\b=1)\/d=.int b)(aA: -3<=b)(a8:b+(bk ar.aG i e).length<=200)(ax:i<=ar.aG.length)(he:e<=ar.aG.length)(aj:ar.aG.length+(aY<|jB (bk ar.aG i e) (b7 ar.aG i e) b).length<=90000)(N:ar.aG.length<=40000)(aV:I a=kZ (.list [.int<|(i:Int)+1,.int<|(e:Int)+1,d])) (ad:∀Z,ds aH I Z->fk aq aH Z (ar.move (d4 ar.aG i e (b7 ar.aG i e)<|jB (bk ar.aG i e) (b7 ar.aG i e) b) (fC ar.aG i e<|jB (bk ar.aG i e) (b7 ar.aG i e) b)<|d4 ar.aG i e (b7 ar.aG i e) (jB (bk ar.aG i e) (b7 ar.aG i e) b) ar.pt)->ab .none Z):be c 10 (.ref 835) [.ref aq.cT,.ref a] ab I:=by
 refine g1 C λmk af bW last bu C=>?_;have tail:CK (dI c 9 ab) [.ref aq.cT,.ref a,.int b] [] I:=⟨(H.f 67),kr H C.E<|cE (k:=0) aV rfl (c0 rfl)<|cE (k:=1) aV rfl (c0 rfl)<|ks C.E<|ca<|WJ H C.B aw aA a8 ax he aj N C.D (.inl rfl) λaS g h=>ad _ (C.ln g) (C.move g h).kb⟩;refine OL (n:=9) H<|cE (k:=2) aV rfl (c0 rfl) ?_;rcases j with⟨rfl,rfl⟩|rfl
 ·exact tail
 ·exact abx (H.f 16)<|cE (k:=2) aV rfl (c0 rfl)<|ca<|WL H tail
theorem IsL.mj {c:Addr->Prop}(C:IsL aF I u xs)(M:∀a,c a->aF a\/I a=By):IsL c I u xs:= eK C λa e n g=>⟨a,e,λm=>(M a m).elim n (λX=>by replace g:=X▸g;exact bY g),g⟩
theorem eh.mj {c:Addr->Prop}(C:eh aF I u h)(M:∀a,c a->aF a\/I a=By):eh c I u h:= cq C λa aa e n g r=>⟨a,aa,e,λm=>(M a m).elim n (λX=>by replace g:=X▸g;exact bY g),g,r.mono λq q X=>X.mj M⟩
theorem oq.mj {c:Addr->Prop}(C:oq aq aF I U)(M:∀a,c a->aF a\/I a=By):oq aq c I U:= bg C λah e r=>⟨ah,e,r.mono λ_ _ ⟨a8,t,r,bo,c2,aQ⟩=>⟨a8,t,r,bo,c2,aQ.mj M⟩⟩
theorem Mi (H:a2 c)(ad:∀r ga a Z,bp I Z->I r=By->I ga=By->I a=By->gP Z r ga a [] 0->ab (.ref r) Z):be c 2 (.ref 229) [.int 16] ab I:=by refine mY H.ok (H.k 5) λa d au m=>Of (n:=0) H<|eW m (H.d 66) (by ext) ?_;intro p aS m;refine dA rfl rfl λl aM bj a9 bn=>gm (m.grow bj) (H.d 67) (by ext) ?_;intro f ay V j;refine gm j (H.d 68) (by ext) ?_;intro w bh b g;exact⟨rfl,ad _ _ _ _ g.ext g.na g.d5 (m.ext.none a9) ⟨g.d3,(g.as Vp).id,b (V bn λX=>by cases X) λX=>by cases X⟩⟩
theorem Iv (H:a2 c)(C:ej aq aH I ar ak af bW last bu)(ad:∀Z r ga a aa m,ds aH I Z->ej aq aH Z ar ak af (kZ a) m bu->gP Z r ga a aa m->aa.length<=ar.n->Z aq.eU=kZ (.cu [(1,.ref r)])->(∀u xs,eh (dT aq bW aH) I u xs->eh (dT aq (kZ a) aH) Z u xs)->ab (.ref r) Z): be c 3 (.ref 751) [.ref aq.cT] ab I:=by
 refine Pf (n:=2) H<|yy C.E<|GK C.E<|u5 C.E ?_;rcases C.N with aM|aM
 ·refine hO aM λa8 bo c2=>?_;clear aM;refine mW a8 (b:=false) rfl<|abx (H.k 5).keep<|ca<|Mi H λr ga a au U fx b9 na i=>u5 (C.ext U).E<|gy (U _ _ a8) (BK _) λaS j=>?_;have aI:=C.ext U;have l:=U _ _ a8;have g:Fr No (λa=>a=aq.eU) No au aS:=.tT j l rfl;refine u5 (aI.E.fr g C.ok.u1 id id id)<|pX j.at rfl ?_;have L:ds aH I au:=.ext U;have d:ds aH au aS:=aI.oS g (λq X=>X.elim) λq X=> .inr<|.inl X;replace C:=bo▸C;replace ad:=bo▸ad;replace C:=c2▸C;have h:∀b,dT aq (kZ a) aH b->dT aq By aH b\/I b=By:=λb aA=>by
   rcases aA with aA|aA|aA
   ·exact .inl<|.inl aA
   ·cases aA;exact .inr na
   ·exact .inl<|.inr<|.inr aA
  have F:Fr No (λa=>a=aq.eU) No I aS:=(Fr.cv U).trans g;have t:∃aa,I aq.cl=kZ (.list aa):=fg (C.B.T) λq q q q G=>⟨_,G.aU⟩;obtain⟨v,t⟩:=t;have M:∀b,No b->dT aq (kZ a) aH b:=λq X=>X.elim;refine ad aS r ga a [] 0 (L.trans d) ⟨C.B.fr F id id C.ok.hH id id id id,C.K,C.E.fr F C.ok.u1 id id id,?_,(C.R.mj h).fr F M,(C.G.mj h).fr F C.ok.Gw M,.inr<|⟨r,ga,a,([]),rfl,j.at,(i.fr g id id),(BK _)⟩,C.num,C.hM,C.nl,C.ex,C.ok,C.ba,C.bh,C.bL,C.ce,C.ct,C.cH,?_,qs (lZ C.D) C.hy<|L.trans d⟩ (i.fr g id id) (BK _) j.at (λu xs X=>(X.mj h).fr F M)
  ·intro b aA;rcases aA with aA|aA|aA
   ·exact F.hI b _<|aA▸t
   ·cases aA;exact g.hI a _ i.an
   ·obtain⟨o,aw⟩:=lZ C.D b aA;exact F.hI b o aw
  ·intro b aA;cases aA;refine⟨λX=>?_,(de t na).symm,(de C.B.R.an na).symm⟩;obtain⟨o,aw⟩:=lZ C.D a X;replace aw:=na▸aw;exact bY aw
 ·refine tA aM λr ga a aa a8 bo c2 aQ=>?_;clear aM;replace C:=a8▸C;replace ad:=a8▸ad;exact mW bo (b:=true) rfl<|u5 C.E<|pX bo rfl<|ad I r ga a aa last (.ext .refl) C c2 aQ bo λq q X=>X
theorem ej.push (C:ej aq aH I ar aJ af (kZ a) last bu)(R:gP I ae l a am last)(x:I aq.eU=kZ (.cu [(1,.ref ae)]))(F:Fr (λb=>b=aq.cl\/b=a) (iR aq.tomD) qK I Z)(a0:bQ aq.tomD Z ar.aG ar.pt ak bA)(f:lP bA ak (kZ cnt)) (ap:∀e∈af,e.num≠0->e∈bA)(an:bA.length<=af.length+2)(aP:gP Z ae l cl e7 pt)(aW:e7.length<=ar.n+1)(ag:pt<=0)(aO:∀e∈bA,pt<=e.num)(ax:cl=a\/I cl=By): ej aq aH Z {ar with mp:=kZ cnt,n:=ar.n+1} ak bA (kZ cl) pt bu/\ds aH I Z/\(∀u xs,eh (dT aq (kZ a) aH) I u xs->eh (dT aq (kZ cl) aH) Z u xs):=by
 have k:ds aH I Z:=C.oS F (λb X=>X.imp id λX=>by exact J X rfl) λb X=> .inl X;have h:∀b,dT aq (kZ cl) aH b->dT aq (kZ a) aH b\/I b=By:=λb aA=>by
  rcases aA with aA|aA|aA
  ·exact .inl<|.inl aA
  ·cases aA;rcases ax with X|X
   ·exact .inl<|.inr<|.inl (by exact J X rfl)
   ·exact .inr X
  ·exact .inl<|.inr<|.inr aA
 have t:∃aa,I aq.cl=kZ (.list aa):=fg (C.B.T) λq q q q G=>⟨_,G.aU⟩;obtain⟨am,t⟩:=t;have cj:∀b,(b=aq.cl\/b=a)->dT aq (kZ a) aH b\/dT aq (kZ cl) aH b:=λb X=> .inl<|X.imp id λX=> .inl (by exact J X rfl);have M:∀u xs,eh (dT aq (kZ a) aH) I u xs->eh (dT aq (kZ cl) aH) Z u xs:=λu xs X=> ((X.mj (c:=λb=>dT aq (kZ a) aH b\/dT aq (kZ cl) aH b) λb aA=>aA.elim .inl<|h b).fr F cj).mj λb aA=> .inl<|.inr aA;have j:oq aq (dT aq (kZ cl) aH) Z ar.fo:= ((C.G.mj (c:=λb=>dT aq (kZ a) aH b\/dT aq (kZ cl) aH b) λb aA=>aA.elim .inl<|h b).fr F (λX=>C.ok.ft X.symm) cj).mj λb aA=> .inl<|.inr aA;refine⟨⟨a0,f,C.E.fr F (λX=>C.ok.fa X.symm) (by decide) (by decide)<|by decide,?_,M _ _ C.R,j,.inr<|⟨ae,l,cl,e7,rfl,(F.cu x λX=>C.ok.hH X.symm),aP,aW⟩,aO,ag,by have:=C.nl;refine(?_:bA.length<=4+2*(ar.n+1));exact b1 21278981719915193892294211301735712769 an this,λX ad=>?_,C.ok,C.ba,C.bh,C.bL,C.ce,C.ct,C.cH,?_,qs (lZ C.D) C.hy k⟩,k,M⟩
 ·intro b aA;rcases aA with aA|aA|aA
  ·exact F.hI b _<|aA▸t
  ·cases aA;exact⟨_,aP.an⟩
  ·obtain⟨o,aw⟩:=lZ C.D b aA;exact F.hI b o aw
 ·refine fw ?_;intro d;obtain⟨e,he,ai,a8,bo⟩:=C.ex X ad;exact⟨e,ap e he<|um ai,ai,a8,bo⟩
 ·intro b aA;cases aA;rcases ax with X|X
  ·refine J X ?_;exact C.cI a rfl
  ·refine⟨λz=>?_,(de t X).symm,(de C.B.R.an X).symm⟩;obtain⟨o,aw⟩:=lZ C.D _ z;replace aw:=X▸aw;exact bY aw
theorem Ak (H:a2 c)(C:ej aq aH I ar ak af (kZ a) last bu)(R:gP I ae l a aa last)(aW:aa.length<=ar.n)(x:I aq.eU=kZ (.cu [(1,.ref ae)]))(aO:ar.n<=14)(ai:1<=pt)(ao:pt<=ar.aG.length+1) (ad:∀Z r bA p m,ds aH I Z->ej aq aH Z {ar with mp:=kZ pt,n:=ar.n+1} r bA (kZ p) m bu->(∀u xs,eh (dT aq (kZ a) aH) I u xs->eh (dT aq (kZ p) aH) Z u xs)->ab .none Z): be c 5 (.ref 261) [.ref ae,.ref aq.b,.int pt] ab I:=by have Q:=C.cI a rfl;refine XI H C.B C.K R ai ao (by have:=C.nl;exact bC 309649938125179768259743234 aO this) C.num C.hM Q.2.1 Q.2.2 (bC 63297857931644417 aW aO) λZ r bA p v m F a0 f ap an aP d ag T ax=>?_;refine hO (C.push R x F a0 f ap an aP (b1 3703159761213441 aW d) ag T ax) λav aN M=>?_;exact ad _ _ _ _ _ aN av M
theorem KX (H:a2 c)(C:ej aq aH I ar ak af bW last bu)(aw:cS ar.aG)(p:ar.pt=(i:Int)+1)(ap:i<=ar.aG.length)(aj:ar.aG.length<=60)(aB:eh (dT aq bW aH) I u h)(ax:h.length<=61)(S:∀r∈h,bU r/\r.length<=60) (ad:∀Z bA,ds aH I Z->ej aq aH Z (if h=[] then ar else ar.move (n5 ar.aG i h) (kS ar.aG i h) (mq ar.aG i h)) ak bA bW last bu->(∀u xs,eh (dT aq bW aH) I u xs->eh (dT aq bW aH) Z u xs)->ab .none Z): be c 9 (.ref 668) [.ref aq.b,u,.int 8] ab I:=by
 by_cases h0:h=[]
 ·subst h0;refine cq aB λa aa e na aE aX=>?_;clear aB;refine J e ?_;have:aa=[]:=gB.mp aX.length;subst this;refine Ga (n:=8) H<|li aE (by decide) ?_;have:=ad I af<|.ext .refl;rw[if_pos rfl] at this;exact this C λq q X=>X
 ·refine cq aB λa aa e na aE aX=>?_;clear aB;refine J e ?_;have B:=C.B;replace B:=p▸B;refine aav H B aw ap aj C.D (.inl rfl) (gA a aa rfl na aE aX) ax S h0 λZ F a0=>?_;have:=ad Z (d6 (n5 ar.aG i h) af)<|C.oS F (λq X=> .inl X) λq X=>X.elim;rw[if_neg h0] at this;exact this (C.move F a0) λu xs X=>X.fr F λb l=> .inl l
theorem QW (H:a2 c)(C:fk aq aH I ar)(aw:cS ar.aG)(p:ar.pt=(e:Int)+1)(ap:e<=ar.aG.length)(aj:ar.aG.length<=60)(aO:ar.n<=14)(ax:ar.fA.length<=61)(S:∀r∈ar.fA,bU r/\r.length<=60){v:V}(aV:v≠.aK) (ad:∀Z,ds aH I Z->fk aq aH Z (if ar.fA=[] then{ar with mp:=kZ ar.pt,n:=ar.n+1} else{ar with mp:=kZ ar.pt,n:=ar.n+1}.move (n5 ar.aG e ar.fA) (kS ar.aG e ar.fA) (mq ar.aG e ar.fA))->ab .none Z):be c 10 (.ref 800) [.ref aq.cT,v] ab I:=by refine g1 C λmk af bW last bu C=>?_;refine OO (n:=9) H<|kr H C.E ⟨(H.f 13),(H.f 76),ca<|Iv H C λau r ga a aa g L aI i aW x bj=>k7 aI.B.R<|ca<|Ak H aI i aW x aO (p▸one_le) (p▸qa ap) λaS k b m j d bd Q=>?_⟩;refine dw (bd.R) λh o hp q=>?_;clear C aI;subst hp;exact abx (H.f 68)<|GL bd.E<|ks bd.E<|ca<|KX H bd aw p ap aj bd.R ax S λaM l y bn q=>ad _ ((L.trans d).trans y) bn.kb
noncomputable def hw (k:Int)(M:List (List Int))(U:List (Int×List (List Int))):List (Int×List (List Int)):= if U.any (λn=>n.1=k) then U.map (λn=>if n.1=k then(n.1,M) else n) else U++[(k,M)]
theorem Ym {k:Int}(aQ:∃t r,u=.ref t/\I t=kZ (.tup [.str "rectangle",r])/\eh aF I r h)(C:cc (pv aF I) aP U):cc (pv aF I) (hv k u aP) (hw k h U):=by
 have ai:∀{aP:List (Int×V)} {U:List (Int×List (List Int))},cc (pv aF I) aP U->aP.any (λn=>n.1=k)=U.any (λn=>n.1=k):=by
  intro aP;induction aP with
  |nil=>intro U C;cases U with|nil=>rfl|cons=>exact C.elim
  |cons p aP D=>
   intro U C;cases U with
   |nil=>exact C.elim
   |cons X U=>obtain⟨⟨e,_⟩,C⟩:=C;exact J rX<|J rX<|J (D C)<|J e rfl
 have ao:∀{aP:List (Int×V)} {U:List (Int×List (List Int))},cc (pv aF I) aP U->cc (pv aF I) (aP.map λn=>if n.1=k then(n.1,u) else n) (U.map λn=>if n.1=k then(n.1,h) else n):=by
  intro aP;induction aP with
  |nil=>intro U C;cases U with|nil=>trivial|cons=>exact C.elim
  |cons p aP D=>
   intro U C;cases U with
   |nil=>exact C.elim
   |cons X U=>
    obtain⟨⟨e,av⟩,C⟩:=C;refine⟨?_,D C⟩;dsimp only;refine J e ?_;split
    ·exact⟨rfl,aQ⟩
    ·exact⟨e,av⟩
 unfold hv hw;refine J (ai C) ?_;split
 ·exact ao C
 ·exact C.append ⟨⟨rfl,aQ⟩,trivial⟩
theorem An {k:Int}:∀{ah:List (Int×V)} {U:List (Int×List (List Int))},cc (pv aF I) ah U->(U.lookup k=By->ah.lookup k=By)/\∀M,U.lookup k=kZ M->∃t r,ah.lookup k=kZ (.ref t)/\I t=kZ (.tup [.str "rectangle",r])/\eh aF I r M:=by
 intro h;induction h with
 |nil=>
  intro f;cases f with
  |nil=>intro s;exact⟨λq=>rfl,λq C=>by exact bY C⟩
  |cons _ _=>intro c;first|exact c.elim|cases c
 |cons i ah D=>
  intro f;obtain⟨co,u⟩:=i;cases f with
  |nil=>intro c;first|exact c.elim|cases c
  |cons l U=>
   intro g;obtain⟨cW,v⟩:=l;obtain⟨⟨e,av⟩,C⟩:=g;have D:=D C;change co=cW at e;refine a6 e<|J wQ<|J wQ ?_;cases X:k==co with
   |true=>refine⟨(λz=>by exact g4 z),λM z=>?_⟩;cases z;refine bP λbz aN=>gG av λt r bo c2 aQ=>?_;clear av;exact aN<|(dM t r (J (show u=.ref t from bo) rfl) c2 aQ)
   |false=>exact D
theorem s7 (H:a2 c)(E:hV aq I bu)(g:I aq.j9=kZ (.cu aP))(ad:ab ((aP.lookup pt).getD .none) I):be c 1 (.ref 715) [.ref aq.ez,.int pt] ab I:= OT (n:=0) H<|di E.iC E.vz Ij<|qe<|⟨(Kv g),_,g,ad⟩
theorem YH (H:a2 c)(E:hV aq I bu)(g:I aq.j9=kZ (.cu aP))(aj:aP.length<=1000)(aQ:u≠.aK)(ad:∀Z,Upd I Z aq.j9 (.cu<|hv pt u aP)->ab .none Z):be c 1 (.ref 722) [.ref aq.ez,.int pt,u] ab I:= Pr (n:=0) H<|o0 aQ<|di E.iC E.vz Ij<|qe<|gy g (by refine J wT ?_;exact nf aj<|by decide) ad
theorem Jz (H:a2 c)(C:ej aq aH I ar ak af bW last bu)(aB:eh (dT aq bW aH) I (.ref a) h)(aj:h.length<=100000)(i:∀r∈h,r.length<=100000)(ap:ar.fo.length<=900) (ad:∀Z,ds aH I Z->ej aq aH Z {ar with fo:=hw pt h ar.fo} ak af bW last bu->ab .none Z):be c 2 (.ref 727) [.ref aq.ez,.int pt,.ref a] ab I:=by refine bP λbz aN=>cq aB λaI aa e na aE aX=>?_;clear aB;refine aN ?_;cases e;refine Px (n:=1) H ⟨(H.f 73),gd aE<|qj (λr=>r) C.D aE aX (aX.length▸aj) (λau w aC K U l a1 bZ=>uU a1 (Ke<|i _ l) λd aS aR aT bd=>bZ _ _ aR (.inr aT) bd) λb au U aA=>fy rfl rfl λt aS aR aT bd=>?_⟩;rw[uk] at aA;have bn:=C.ext<|U.trans aR;refine bg (bn.G) λah g L=>ca<|YH H bn.E g (by refine J L.length ?_;exact nf ap<|by decide) (λX=>by cases X) λay aU=>?_;have F:Fr No (λa=>a=aq.j9) No aS ay:=.tT aU g rfl;have M:∀b,No b->dT aq bW aH b:=λq X=>X.elim;have V:=bn.oS F (λq X=>X.elim) λq X=> .inr<|.inr X;refine ad ay ((ds.ext<|U.trans aR).trans V) ⟨bn.B.fr F id id C.ok.ft id id id id,C.K,bn.E.fr F C.ok.yt id id id,bn.D.fr F,bn.R.fr F M,(bb _ aU.at ?_),bn.N.fr F (λX=>C.ok.Gw X.symm) id λq q=>id,C.num,C.hM,C.nl,C.ex,C.ok,C.ba,C.bh,C.bL,C.ce,C.ct,C.cH,C.cI,qs (lZ bn.D) bn.hy V⟩;exact(Ym (k:=pt) ⟨t,.ref b,rfl,bd,aA.ext aR⟩ L).mono λp X C=>dp C λa8 C=>gG C λt r bo c2 aQ=>⟨a8,t,r,bo,F.tup c2,aQ.fr F M⟩
theorem Az (H:a2 c)(ai:0<=pt)(ao:pt<4194304)(ad:ab (.int pt) I):be c 1 (.ref 758) [.int pt] ab I:=by refine PF (n:=0) H ⟨rfl,?_⟩;exact Qx (by decide)<|kO (p:=0<=pt) ai<|kO (p:=pt<4194304) ao ad
theorem Rr (C:A.length<=40000)(av:b<=40000):(l1 A e b).length<=100000:=by unfold l1;exact J nb<|J hA<|nf (abj (fl<|fZ C)<|nf (BW ..)<|nf (BW ..) av) (by decide)
theorem QU (H:a2 c)(C:fk aq aH I ar)(aw:cS ar.aG)(A:ak=.none\/∃i,ak=.int i)(ax:b<=ar.aG.length)(he:e<=ar.aG.length)(aj:ar.aG.length<=40000)(l:0<=pt)(M:pt<4194304)(iC:ar.fo.length<=900) (aV:I ae=kZ (.list [.int pt,.int<|(b:Int)+1,.int<|(e:Int)+1,ak]))(u:aH ae) (ad:∀Z,ds aH I Z->fk aq aH Z (if ak.isNone then{ar with fo:=hw pt (gr ar.aG b e) ar.fo} else{ar with fo:=hw pt (gr ar.aG b e) ar.fo}.move (d4 ar.aG b e (b8 ar.aG b e)<|lY ar.aG b e) (fC ar.aG b e<|lY ar.aG b e) (d4 ar.aG b e (b8 ar.aG b e) (lY ar.aG b e) ar.pt))->ab .none Z): be c 11 (.ref 772) [.ref aq.cT,.ref ae] ab I:=by
 refine bP λbz aN=>g1 C λmk af bW last bu C=>aN ?_;have R:=gH aw ax he;have d:(gr ar.aG b e).length<=100000:=by refine J (aa0 _) ?_;exact nf R.fx<|nf (t4 aj) (by decide)
 have j:∀r∈gr ar.aG b e,r.length<=100000:=λr aB=>by refine bg (yB.mp aB) λx Q O=>?_;refine a6 O ?_;exact Rr (nf (R.tZ x Q) aj)<|nf R.lt aj
 refine OH (n:=10) H ⟨(H.f 77),cE (k:=0) aV rfl (c0 rfl)<|ca<|Az H l M<|cE (k:=3) aV rfl (c0 rfl) ?_⟩;intros N;rcases A with rfl|⟨i,rfl⟩
 ·refine fy rfl rfl λt au U s w=>eY w rfl ?_;have aI:=C.ext U;have v:=U _ _ aV;exact abx (H.f 60)<|kr H aI.E<|cE (k:=1) v rfl (c0 rfl)<|cE (k:=2) v rfl (c0 rfl)<|ks aI.E<|ca<|u8 H aI.B aw ax he aj aI.D λa aS aR Q=>abx (H.f 74)<|sP (aI.ext aR).E<|ca<|Jz H (aI.ext aR) Q d j iC λaM y bn=>ad aM (((ds.ext U).trans<|.ext aR).trans y) bn.kb
 ·refine fy rfl rfl λt au U s w=>eY w rfl ?_;have aI:=C.ext U;have v:=U _ _ aV;refine abx (H.f 62)<|kr H aI.E<|cE (k:=1) v rfl (c0 rfl)<|cE (k:=2) v rfl (c0 rfl)<|ks aI.E<|ca<|T1 H aI.B aw ax he aj aI.D (.inl rfl) λa aS g Q h=>?_;have bd:=aI.move g h;exact abx (H.f 74)<|sP bd.E<|ca<|Jz H bd Q d j iC λaM y bn=>ad aM (((ds.ext U).trans<|aI.ln g).trans y) bn.kb
def hZ.gL (S:hZ)(k:Nat)(M:List (List Int)):hZ:=if M=[] then S else S.move (n5 S.aG k M) (kS S.aG k M) (mq S.aG k M)
theorem ej.JP (C:ej aq aH I ar ak af bW last bu)(F:Fr (b2 aq.cl) No c8 I Z)(a0:bQ aq.tomD Z ar.aG cnt ak af):ej aq aH Z {ar with pt:=cnt} ak af bW last bu:=by have M:∀a,b2 aq.cl a->dT aq bW aH a:=λa C=> .inl C;exact⟨a0,C.K,C.E.fr F id (by decide) (by decide)<|by decide,C.D.fr F,C.R.fr F M,C.G.fr F id M,C.N.fr F id (by decide) λa e X=>(C.cI a e).2.1 X,C.num,C.hM,C.nl,C.ex,C.ok,C.ba,C.bh,C.bL,C.ce,C.ct,C.cH,C.cI, qs (lZ C.D) C.hy<|C.oS F (λq X=> .inl X) λq X=>X.elim⟩
theorem QS (H:a2 c)(C:fk aq aH I ar)(aw:cS ar.aG)(A:ak=.none\/∃i,ak=.int i)(p:ar.pt=(e:Int)+1)(ap:e<=ar.aG.length)(aj:ar.aG.length<=60)(aO:ar.n<=14)(l:0<=cnt)(M:cnt<4194304) (ag:ar.fo.lookup cnt=kZ h)(ax:h.length<=61)(S:∀r∈h,bU r/\r.length<=60) (aV:I ae=kZ (.list [.int cnt,ak]))(u:aH ae)(am:1<=(ar.gL e h).pt)(z:(ar.gL e h).pt<=(ar.gL e h).aG.length+1)(j:ar.pt<=(ar.gL e h).aG.length+1)(W:(ar.gL e h).n=ar.n) (ad:∀Z,ds aH I Z->fk aq aH Z {ar.gL e h with mp:=kZ (if ak.isNone then(ar.gL e h).pt else ar.pt),n:=ar.n+1,pt:=if ak.isNone then ar.pt else(ar.gL e h).pt}->ab .none Z): be c 11 (.ref 765) [.ref aq.cT,.ref ae] ab I:=by
 refine bP λbz aN=>?_;refine g1 C λmk af bW last bu C=>?_;refine bg (C.G) λah g L=>?_;refine gG ((An L).2 h ag) λt r bo c2 aQ=>?_;refine aN ?_;refine OJ (n:=10) H ⟨(H.f 72),sP C.E ⟨(H.f 77),cE (k:=0) aV rfl (c0 rfl)<|ca<|Az H l M<|ca<|s7 H C.E g ?_⟩⟩;refine J bo ?_;refine kr H C.E<|fy rfl rfl λaC au U s w=>eY w rfl ?_;intros N;have aI:=C.ext U;have v:=U _ _ aV;have O:=U _ _ c2;refine k7 aI.B.R<|it (k:=0) O rfl (c0 rfl)<|eqs<|kO rfl<|abx (H.f 68)<|it (k:=1) O rfl (c0 rfl)<|ks aI.E<|ca<|KX H aI aw p ap aj (aQ.ext U) ax S λaS b d bd Q=>?_;intros al;change ej aq aH aS (ar.gL e h) mk b bW last bu at bd;have F:=d _ _ u v;refine k7 bd.B.R ⟨(H.f 13),(H.f 76),ca<|Iv H bd λaM D ga a aa az y bn o aW x aT=>cE (k:=1) (y _ _ u F) rfl (c0 rfl) ?_⟩;have T:(ar.gL e h).n<=14:=by refine J W ?_;exact aO
 have e:=((ds.ext U).trans d).trans y;rcases A with rfl|⟨i,rfl⟩
 ·refine ca<|Ak H bn o aW x T am z λay an ao av ai V a3 X=>kp a3.B.R (λq q q=>v5) (H.m 17)<|cE (k:=1) (V _ _ u<|y _ _ u F) rfl (c0 rfl)<|ca<|vn H a3.B (p▸one_le) j λbh K P=>?_;have bE:=a3.JP K P;rw[W] at bE;exact ad bh ((e.trans V).trans<|a3.ln K) bE.kb
 ·refine ca<|Ak H bn o aW x T (p▸one_le) j λay an ao av ai V a3 X=>kp a3.B.R (λq q q=>v5) (H.m 17)<|cE (k:=1) (V _ _ u<|y _ _ u F) rfl (c0 rfl)<|ca<|vn H a3.B am z λbh K P=>?_;have bE:=a3.JP K P;rw[W] at bE;exact ad bh ((e.trans V).trans<|a3.ln K) bE.kb
def mI (M:List (List Int)):Prop:=∀r∈M,∀x∈r,x≠10
theorem mI.of (C:∀r∈h,bU r):mI h:=λr aB x Q=>by have:=(C r aB x Q).1;exact c4 946782396447 this
theorem td:(eu<|h.take i).length=dj 0 h i:=by refine J vK ?_;unfold dj;exact J (BI _) rfl
theorem Kh (C:h[i]?=kZ aC)(bi:j<=aC.length):(aY h).take (dj 0 h i+j)=eu (h.take i)++aC.take j:=by exact J (vN C)<|a6 td<|J (aaG _ _ _)<|J (B2 _)<|J List.take_append<|J (acp bi)<|J w8<|J (Bs _) rfl
theorem GI (C:h[i]?=kZ aC)(bi:j<=aC.length):(aY h).drop (dj 0 h i+j)=aC.drop j++gh (h.drop<|i+1):=by exact J (vN C)<|a6 td<|J (aaG _ _ _)<|J (LQ _)<|J ul<|J (acp bi)<|J kW rfl
theorem TK:(eu h).reverse.takeWhile (· !=10)=[]:=by
 rcases List.eq_nil_or_concat h with rfl|aM
 ·rfl
 ·refine fz aM λl r O=>?_;clear aM;refine J O ?_;unfold eu;simp
theorem TL:(gh h).takeWhile (· !=10)=[]:=by
 cases h with
 |nil=>rfl
 |cons r h=>unfold gh;simp
theorem Kt (C:∀x∈A,x≠10)(aA:xs.takeWhile (· !=10)=[]):(A++xs).takeWhile (· !=10)=A:=by exact J (List.takeWhile_append_of_pos λx Q=>by simpa using C x Q)<|J aA<|J (Bs _) rfl
theorem UF (aO:mI h)(C:h[i]?=kZ aC)(bi:j<=aC.length):c5 (aY h) (dj 0 h i+j)=dj 0 h i:=by have aB:=aO aC<|jI C;unfold c5;exact J (Kh C bi)<|J B5<|J (Kt (λx Q=>aB x<|BX<|abz.mp Q) TK)<|J aaH<|J qC<|dH 3622655621199958275 bi rfl rfl
theorem H8 (aO:mI h)(C:h[i]?=kZ aC)(bi:j<=aC.length):cN (aY h) (dj 0 h i+j)=dj 0 h i+aC.length:=by have aB:=aO aC<|jI C;unfold cN;exact J (GI C bi)<|J (Kt (λx Q=>aB x<|od Q) TL)<|J BU<|bS 1379562818669447299 bi rfl
theorem G3 (C:∀x∈xs,x≠10):xs.foldl iJ (h,A)=(h,A++xs):=by
 induction xs generalizing A with
 |nil=>refine J (Bs _) ?_;rfl
 |cons x xs D=>have e:iJ (h,A) x=(h,A++[x]):=if_neg<|C x<|.head _;refine J n7<|J e<|J (D λy G=>C y<|.tail _ G) ?_;simp
theorem AD (h0:h≠[])(aO:mI h):dW (aY h)=h:=by
 have an:∀(o:List (List Int)) (r:List Int) (a:List (List Int)) (b:List Int),mI (r::o)->((aY<|r::o).foldl iJ (a,b)).1++[((aY<|r::o).foldl iJ (a,b)).2]=a++(b++r)::o:=λo=>by
  induction o with
  |nil=>intro r a b C;refine(?_:((r.foldl iJ (a,b)).1++[(r.foldl iJ (a,b)).2])=_);exact J (G3<|C r<|.head _) rfl
  |cons s o D=>
   intro r a b C;have e:(aY<|r::s::o).foldl iJ (a,b)=(aY<|s::o).foldl iJ (a++[b++r],[]):=by refine(?_:(r++10::aY (s::o)).foldl iJ (a,b)=_);refine J LN<|J (G3<|C r<|.head _)<|J n7 ?_;rfl
   refine J e<|J (D s _ _ λx Q=>C x<|.tail _ Q) ?_;simp
 refine fz (List.exists_cons_of_ne_nil h0) λr o O=>?_;subst O;have:=an o r [] [] aO;unfold dW hS;simpa using this
theorem TP (C:h≠[]):aY (h++Q)=aY h++gh Q:=by
 induction h with
 |nil=>exact(C rfl).elim
 |cons n h D=>
  cases h with
  |nil=>
   cases Q with
   |nil=>simp[gh]
   |cons r Q=>
    refine(?_:n++10::aY (r::Q)=_);induction Q generalizing n r with
    |nil=>simp[aY,gh]
    |cons s Q a=>refine(?_:n++10::(r++10::aY (s::Q))=_);have:=a (n:=r) (r:=s) (by simp) λX=>(X rfl).elim;refine J this ?_;simp[aY,gh]
  |cons m h=>refine(?_:n++10::aY ((m::h)++Q)=_);refine J (D<|by simp) ?_;simp[aY]
theorem TM (C:Q≠[]):aY (h++Q)=eu h++aY Q:=by
 induction h with
 |nil=>rfl
 |cons l h D=>
  have:h++Q≠[]:=by simp[C]
  refine J t3<|J (ra this)<|J D ?_;simp[eu]
theorem TS (C:Q≠[]):aY (h++Q++a5)=eu h++aY Q++gh a5:=by exact J (aaG _ _ _)<|J (TM<|by simp[C])<|J (TP C)<|J (aaG _ _ _) rfl
theorem Qh:∀{xs bw:List Int},xs.take e=bw.take e->e<=xs.length->e<=bw.length->fF e xs bw=e:=by
 induction e with
 |zero=>intro xs bw C ai ao;exact rfl
 |succ e D=>intro xs bw C ai ao;cases xs with
  |nil=>cases ai
  |cons x xs=>cases bw with
   |nil=>cases ao
   |cons y bw=>replace C:=BF.inj<|LW▸LW▸C;exact(if_pos C.1:(if x=y then fF e xs bw+1 else 0)=_).trans (congrArg (· +1)<|D C.2 (Cb ai)<|Cb ao)
noncomputable def zs (l:List Int):Str:=⟨(l.map abG).toArray⟩
theorem kT:(zs A).length=A.length:=by simp[zs,Str.length]
theorem rT:zs A++zs xs=zs (A++xs):=abH (by refine J (Str.cps_append _ _) ?_;simp[zs])
theorem t0 (C:∀x∈A,0<=x):fp (zs A)=A:=by unfold fp zs;refine(uj ..).trans<|(qF λx Q=>?_).trans<|uk _;exact L6<|C x Q
theorem Qo:∀y∈fp w,0<=y:=λy G=>by obtain⟨n,_,rfl⟩:=yB.mp G;exact oh n
theorem Lb (x:Str):x=zs (fp x):=abH (by unfold zs fp;rw[uj];have:(abG∘uq)=id:=funext λn=>w1 n;rw[this,List.map_id])
theorem Br (aE:∀x∈A,0<=x)(aA:∀x∈xs,0<=x)(C:zs A=zs xs):A=xs:=by have:=congrArg fp C;rwa[t0 aE,t0 aA] at this
theorem Gh:Lr e pt<=e:=by have:=clipAt_cast e pt;exact Uv 482006509945377952001 this rfl rfl
theorem Qc:max (0:Int) (min (if pt<0 then pt+e else pt) e)=(Lr e pt:Nat):=(clipAt_cast e pt).symm
theorem aaD {n:Nat}:sliceRange ((e:Nat):Int) ((b:Nat):Int) 1=(g9<|b -e).map (λk=>e+k):=by
 by_cases C:e<=b
 ·have:=StrLaws.strSliceIndices_plain C<|nu b;have ai:¬ ((e:Int)<0):=dG 61610;have ao:¬ ((b:Int)<0):=dG 61610;have a8:max (0:Int) (min (e:Int) (b:Int))=e:=Uu 7685460070728974010889 C rfl rfl;have bo:max (0:Int) (min (b:Int) (b:Int))=b:=Us 723411520473467401 rfl rfl;simp only[aaX,ai,ao,if_false,a8,bo,show((1:Int)>0)=True from by simp,if_true] at this;exact this
 ·have:b -e=0:=by exact b1 77395513091 C rfl
  rw[this];have ao:¬ ((e:Int)<b):=bC 281125034 C;simp[sliceRange,ao]
theorem aaA:aaX mp h6 1 e=(g9<|h6.elim e (Lr e) -mp.elim 0 (Lr e)).map (λk=>mp.elim 0 (Lr e)+k):=by rw[<-aaD (n:=e)];unfold aaX;cases mp<;>cases h6<;>simp[Qc]
theorem yr:sO mp h6 (zs A)=zs (cut mp h6 A):=by
 have aA:h6.elim A.length (Lr A.length)<=A.length:=by cases h6 with
  |none=>exact nu _
  |some i=>exact Gh
 have aE:mp.elim 0 (Lr A.length)<=A.length:=by cases mp with
  |none=>exact BK _
  |some i=>exact Gh
 unfold sO cut;rw[kT,aaA];generalize h6.elim A.length (Lr A.length)=b at*;generalize mp.elim 0 (Lr A.length)=a at*;rw[aa0,abI];split
 ·rename_i C;have C:=eq_of_beq C;by_cases e:A.length=0
  ·rw[gB.mp e,L2,L3]
  ·cases(by exact bS 1395870634120126211 aA C e rfl:a=0);cases(by exact bS 846972433993987 aA C rfl:b=A.length);exact congrArg zs (by rw[kW,LI,oe])
 ·refine abH ?_;unfold zs;congr 1;by_cases K:a<=b
  ·have:=StrLaws.picks (A.map abG) (b -a) a (by rw[aa0];exact bS 13883538207281281 aA K rfl);simpa[acl,r9] using this
  ·have:b -a=0:=by exact b1 77395513091 K rfl
   rw[this];simp
theorem K9:LA ("\n":Str) (h.map zs)=zs (aY h):=by
 unfold LA;rw[Cc];induction h with
 |nil=>rfl
 |cons r h D=>cases h with
  |nil=>rfl
  |cons g3 h=>show zs r++("\n":Str)++Cd ("\n":Str) ((g3::h).map zs)=_;rw[D,show("\n":Str)=zs [10] from rfl,rT,rT,ra<|List.cons_ne_nil _ _];simp
theorem aaB:LA ("":Str) (h.map zs)=zs h.flatten:=by
 unfold LA;rw[Cc];induction h with
 |nil=>rfl
 |cons r h D=>cases h with
  |nil=>simp[Cd]
  |cons g3 h=>show zs r++("":Str)++Cd ("":Str) ((g3::h).map zs)=_;rw[D,show("":Str)=zs [] from rfl,rT,rT];simp
theorem aaE (C:∀x∈A,0<=x):LC (zs A) ("\n":Str)=(dW A).map zs:=by
 have ai:=StrLaws.join_split (zs A) ("\n":Str);have ao:=StrLaws.split_free (zs A) 10;have aX:LC (zs A) ("\n":Str)≠[]:=by
  unfold LC LB;split
  ·simp
  ·split<;>simp
 have e:LC (zs A) ("\n":Str)=((LC (zs A) ("\n":Str)).map fp).map zs:=by rw[uj];exact(uk _).symm.trans<|qF λx _=>Lb x
 have q:mI ((LC (zs A) ("\n":Str)).map fp):=λr aB x Q X=>by obtain⟨p,aP,rfl⟩:=yB.mp aB;obtain⟨n,aO,e⟩:=yB.mp Q;have e:(n:Int)=x:=e;exact ao p aP<|(by exact dZ 47580326461574659 X e:n=10)▸aO
 have bi:aY ((LC (zs A) ("\n":Str)).map fp)=A:=by
  rw[e,<-Cc] at ai;have ai:LA ("\n":Str) (((LC (zs A) ("\n":Str)).map fp).map zs)=zs A:=ai;rw[K9] at ai;refine Br (λx Q=>?_) C ai;have:∀o:List (List Int),(∀r∈o,∀x∈r,0<=x)->∀x∈aY o,0<=x:=by
   intro o;induction o with
   |nil=>intro _ x Q;cases Q
   |cons r o D=>
    intro aB x Q;by_cases aO:o=[]
    ·subst aO;exact aB r (aaO.mpr rfl) x Q
    ·rw[ra aO] at Q;rcases bc.mp Q with Q|Q
     ·exact aB r (L4 ..) x Q
     ·rcases Q8.mp Q with rfl|Q
      ·decide
      ·exact D (λr g=>aB r<|abJ _ g) x Q
  exact this _ (λr aB=>by obtain⟨p,_,rfl⟩:=yB.mp aB;exact Qo) x Q
 have:=AD (λX=>aX<|Ca.mp X) q;rw[bi] at this;rw[e,<-this]
theorem AK (C:∀x∈A,0<=x):Builtin.Str.subAt (zs A) ("\n":Str) i=true<->A[i]?=kZ 10:=by
 rw[StrLaws.subAt_eq,beq_iff_eq];show((A.map abG).drop i).take 1=[10]<->_;rw[List.take_one,abo,qw];cases e:A[i]? with
 |none=>exact⟨λX=>(nomatch(X:([]:List Nat)=[10])),λX=>(nomatch X)⟩
 |some x=>
  obtain⟨n,rfl⟩:=aaZ<|C x<|jI e;refine⟨λX=>?_,λX=>?_⟩
  ·cases(X:[n]=[10]);rfl
  ·cases(uq.inj (kZ.inj X):n=10);rfl
variable{bd:Nat->Prop}
theorem Sh [DecidablePred bd]:∀{r:Option Nat},(forIn (m:=Id) a0 r λi s=>if bd i then pure (ForInStep.yield<|kZ i) else pure (ForInStep.yield s)).run=a0.foldl (λr i=>if bd i then kZ i else r) r:=by
 induction a0 with
 |nil=>intro r;rfl
 |cons a a0 D=>
  intro r;rw[Lf,n7];by_cases X:bd a
  ·rw[if_pos X,if_pos X];exact D
  ·rw[if_neg X,if_neg X];exact D
theorem Sg {P:Nat->Prop}[DecidablePred P][DecidablePred bd]:∀{r:Option Nat},(∀i∈a0,P i<->bd i)->a0.foldl (λr i=>if P i then kZ i else r) r=a0.foldl (λr i=>if bd i then kZ i else r) r:=by
 induction a0 with
 |nil=>intro r _;rfl
 |cons a a0 D=>intro r C;rw[n7,n7,D λi aL=>C i<|abJ _ aL];have:=C a<|L4 ..;simp only[this]
theorem T9 (C:∀x∈A,0<=x):ng (zs A) ("\n":Str) 0 e=(g9 e).foldl (λr i=>if A[i]?=kZ 10 then kZ i else r) By:=by unfold ng;simp;rw[Sh,<-List.range_eq_range',abK,LN,n7,xl,if_neg λX=>absurd X.1<|Nat.not_succ_le_self e];exact Sg λi aL=>⟨λX=>(AK C).mp X.2,λX=>⟨Ls.mp aL,(AK C).mpr X⟩⟩
theorem Yt (C:∀x∈A,0<=x)(ap:b<=A.length):tF (zs A) ("\n":Str) 0 b+1=(c5 A b:Nat):=by
 have a8:fromIndex (zs A).length 0=0:=rfl;have bo:s8 (zs A).length (b:Int)=b:=by unfold s8;rw[kT,if_neg<|by exact dG 61610,LU<|oh b,w1,ke ap]
 unfold tF;rw[a8,bo,T9 C];clear a8 bo;induction b with
 |zero=>rw[Ic];rfl
 |succ b D=>
  obtain⟨x,Q⟩:∃x,A[b]?=kZ x:=⟨_,Lw ap⟩;rw[abK,LN,n7,xl,Ib Q];by_cases X:x=10
  ·rw[if_pos<|by rw[Q,X],if_pos X];rfl
  ·rw[if_neg<|by rw[Q];exact λe=>X<|kZ.inj e,if_neg X];exact D<|xi ap
theorem Ia:∀{d:Nat},(∀j,b<=j->j<b+d->A[j]?≠kZ 10)->b+d<=A.length->(A[b+d]?=kZ 10\/b+d=A.length)->cN A b=b+d:=by
 intro d;induction d generalizing b with
 |zero=>
  intro _ an C;rcases C with C|C
  ·have C:A[b]?=kZ 10:=C;rw[zk C,if_pos rfl];rfl
  ·rw[xa] at C;rw[C];exact H9
 |succ d D=>intro aO an C;have aG:b<A.length:=b1 125225668866 an;have Q:=Lw aG;have e:b+(d+1)=b+1+d:=lp 1995160256643;rw[zk Q,if_neg λX=>aO b (nu _) (lp 219678722)<|by rw[Q,X]];rw[e] at C an⊢;exact D (λj ai ao=>aO j (bC 487067905 ai)<|b1 12693312744462338 ao) an C
theorem R3 (C:∀x∈A,0<=x)(ap:e<=A.length):u9 (zs A) ("\n":Str) e=if cN A e<A.length then((cN A e:Nat):Int) else-1:=by
 have a8:fromIndex (zs A).length (e:Int)=e:=by unfold fromIndex;rw[if_neg<|by exact dG 61610,LU<|oh e,w1]
 have a:∀i,L5 (zs A) ("\n":Str) (zs A).length i<->A[i]?=kZ 10:=λi=>by unfold L5;rw[AK C,kT];refine⟨And.right,λX=>⟨?_,X⟩⟩;exact(xn.mp X).1
 unfold u9;rw[a8];rcases StrLaws.occ_head_from (zs A) ("\n":Str) e 1 (nu 1) with⟨h0,aO⟩|⟨i,r,h0,d,L,aO⟩
 ·rw[h0];have:cN A e=e+(A.length -e):=Ia (λj ai ao=>λX=>aO j ai<|(a j).mpr X) (by exact b1 2289755623553 ap rfl)<|.inr (by exact b1 2289755623555 ap rfl);rw[if_neg<|by exact bS 36512364245252 this rfl]
 ·rw[h0];have aL:=(a i).mp L;have aG:=(xn.mp aL).1;have:cN A e=e+(i -e):=Ia (λj ai ao=>λX=>aO j ai (by exact bS 149554643931894018 d ao rfl)<|(a j).mpr X) (by exact bS 13882649367154817 d aG rfl)<|.inl (by rw[show e+(i -e)=i by exact b1 2289755623555 d rfl];exact aL);rw[if_pos<|by exact dH 650626734865698132226 d aG this rfl];show(i:Int)=_;exact bS 37133067414704070825 d this rfl
theorem Xr:we (zs A) e=zs (A++dr (e -A.length) 32):=by
 unfold we;rw[kT];split
 ·rename_i C;rw[show e -A.length=0 by exact b1 36306064932611 C rfl];simp
 ·refine abH ?_;unfold kV;simp[zs]
theorem Yn:qi e (" ":Str)=zs (dr e 32):=by
 have g:∀(e:Nat) (N:Array Nat),(dr e #[32]).foldl (· ++ ·) N=N++(dr e 32).toArray:=by
  intro e;induction e with
  |zero=>intro N;simp
  |succ e D=>intro N;rw[aaV,n7,D,aaV,Array.append_assoc];exact congrArg (N++ ·) (by simp)
 unfold qi;split
 ·rename_i C;rw[show e=0 by exact bM 218795779 C];rfl
 ·split
  ·rename_i C;have:e=1:=by
    rcases eM .. ▸C with C|C
    ·exact uq.inj<|eq_of_beq C
    ·cases C
   rw[this];rfl
  ·refine abH ?_;show(dr (abG e) (#[32]:Array Nat)).foldl (· ++ ·) #[]=_;rw[g,w1];simp[zs]
theorem Z4:∀{A:List Int},(∀x∈A,0<=x)->((A.map abG).takeWhile (#[32]:Array Nat).contains).length=(A.takeWhile (· ==32)).length:=by
 intro A;induction A with
 |nil=>intro _;rfl
 |cons x A D=>
  intro C;have e:(#[32]:Array Nat).contains x.toNat=(x==32):=by
   have:=C x<|L4 ..;by_cases X:x=32
   ·refine J X ?_;simp
   ·rw[beq_eq_false_iff_ne.mpr X];have:x.toNat≠32:=λaS=>X<|(L6 this).symm.trans<|congrArg uq aS;simp[this]
  rw[n8,B7,B7,e];split
  ·exact congrArg (· +1)<|D λy G=>C y<|abJ _ G
  ·rfl
theorem GJ:A.dropWhile (· ==32)=A.drop (A.takeWhile (· ==32)).length:=by
 induction A with
 |nil=>rfl
 |cons x A D=>
  rw[List.dropWhile_cons,B7];split
  ·exact D
  ·rfl
theorem Vi (C:∀x∈A,0<=x):vW (zs A) (" ":Str)=zs (A.dropWhile (· ==32)):=by
 have e:stripLo ((" ":Str)).cps.contains true (zs A)=(A.takeWhile (· ==32)).length:=Z4 C;unfold vW stripSame PySem.stripped;rw[e,GJ];show(if((A.takeWhile (· ==32)).length==0&&(zs A).length==(zs A).length)=true then zs A else Builtin.Str.strSub (zs A) _ (zs A).length)=_;rw[beq_self_eq_true,aa2];split
 ·rename_i X;rw[eq_of_beq X,kW]
 ·refine abH<|BR.mp ?_;rw[StrLaws.strSub_toList];show((A.map abG).drop _).take _=(A.drop _).map abG;rw[r9,kT,pj<|by rw[BU,aa0];exact nu _]
theorem TD (Q:A[i]?=kZ pt)(aj:A.length<=100000)(ad:ab (.str<|zs [pt]) I):gc (.str<|zs A) (.int i) ab I:=by have aG:=(xn.mp Q).1;refine(kR pt.toNat ?_ (dG 695480) (bC 17732864688296 aj aG) ad);unfold Jj seqIndex?;rw[kT];have ai:¬ ((i:Int)<0):=dG 61610;have ao:(i:Int).toNat=i:=w1 i;simp[zs,ai,ao,aG];rw[Lw aG] at Q;rw[kZ.inj Q]
theorem rR (C:A.length<=100000):(zs A).length<=gW:=by refine J kT<|J wT ?_;exact nf C (by decide)
theorem qm {l:List Int}(aj:l.length<=100000)(C:ab (.str<|zs<|l.take e) I):cutAt (.str<|zs l) By (kZ (e:Int)) I ab:=by
 refine⟨?_,?_⟩<;>refine J yr<|J u0 ?_
 ·exact rR<|fZ aj
 ·exact C
theorem nZ {l:List Int}(aj:l.length<=100000)(C:ab (.str<|zs<|l.drop e) I):cutAt (.str<|zs l) (kZ (e:Int)) By I ab:=by
 refine⟨?_,?_⟩<;>refine J yr<|J ys ?_
 ·exact rR<|fl aj
 ·exact C
theorem sB (aj:A.length<=100000)(C:ab (.str<|zs<|(A.take b).drop e) I):cutAt (.str<|zs A) (kZ (e:Int)) (kZ (b:Int)) I ab:=by
 refine⟨?_,?_⟩<;>refine J yr<|J Gv ?_
 ·exact rR<|fl<|fZ aj
 ·exact C
theorem i8 {a b:List Int}(aj:a.length+b.length<=100000)(C:ab (.str<|zs<|a++b) I):eV (.str<|zs a) (.str<|zs b) ab I:=by
 refine⟨?_,?_⟩
 ·refine J rT ?_;exact C
 ·refine J rT ?_;exact rR (by refine J nb ?_;exact aj)
theorem hx (aj:A.length<=100000)(C:ab (.int (A.length:Nat)) I):ou [.str<|zs A] ab I:=by
 refine⟨?_,?_⟩<;>refine J kT ?_
 ·exact il aj (by decide)
 ·exact C
theorem wn (aO:e<1000)(aj:A.length<100000)(C:ab (.str<|zs<|A++dr (e -A.length) 32) I):pG [.str<|zs A,.int e] ab I:=by refine⟨bM 7518404776 aO,by refine J kT ?_;exact aj,dG 662712,?_⟩;refine J Xr ?_;exact C
theorem At (aO:e<1000)(C:ab (.str<|zs<|dr e 32) I):m1 (.str (" ":Str)) (.int e) ab I:=by
 refine⟨dG 662712,bM 7518404776 aO,by decide,?_,?_⟩<;>refine J Yn ?_
 ·exact rR (by refine J hA ?_;exact bM 469896193 aO)
 ·exact C
theorem JK (an:∀x∈A,0<=x)(ap:e<=A.length)(C:∀i:Int,i+1=(c5 A e:Nat)->ab (.int i) I):sG [.str<|zs A,.str ("\n":Str),.int 0,.int e] ab I:=C _<|Yt an ap
theorem YL (an:∀x∈A,0<=x)(ap:e<=A.length)(C:ab (.int (if cN A e<A.length then((cN A e:Nat):Int) else-1)) I):uL [.str<|zs A,.str ("\n":Str),.int e] ab I:=by show ab (.int<|u9 (zs A) ("\n":Str) e) I;refine J (R3 an ap) ?_;exact C
theorem YN (an:∀x∈A,0<=x)(aj:A.length<100000)(C:ab (.str (zs (A.dropWhile (· ==32)))) I):sF [.str<|zs A,.str (" ":Str)] ab I:=by refine⟨by refine J kT ?_;exact aj,?_⟩;refine J (Vi an) ?_;exact C
abbrev cP (M:List (List Int)):List V:=M.map λr=> .str<|zs r
theorem AA:(h.map zs).map V.str=cP h:=by refine J uj ?_;rfl
theorem JL (an:∀x∈A,0<=x)(aj:A.length<=100000)(C:∀r D,ei I D r (.list<|cP<|dW A)->ab (.ref r) D):sJ [.str<|zs A,.str ("\n":Str)] ab I:=by
 refine⟨rfl,rR aj,?_,λr D n=>C r D ?_⟩
 ·refine J (length_partsBetween _ _ _)<|J kT<|J wT ?_;have:=StrLaws.occ_length_le (zs A) ("\n":Str) 0 A.length<|A.length+1;exact bC 943505273279795329 aj this
 ·rw[aaE an,AA] at n;exact n
theorem HH:((h.map zs).map (·.length)).sum=(h.map (·.length)).sum:=by exact J uj<|congrArg List.sum<|qF λr _=>kT
theorem tI (C:I a=kZ (.list<|cP h))(aj:(h.map (·.length)).sum+h.length<=100000)(ad:ab (.str<|zs<|aY h) I):sE [.str ("\n":Str),.ref a] ab I:=by refine(c7 (h.map zs) (J C<|J AA rfl) (joinOk_of_weight (by refine J HH<|J (aa0 _) ?_;exact bC 3560802852052920045697 aj)<|by decide) ?_);refine J K9 ?_;exact ad
theorem YM (C:I a=kZ (.list<|cP h))(aj:(h.map (·.length)).sum+h.length<=100000)(ad:ab (.str<|zs h.flatten) I):sE [.str ("":Str),.ref a] ab I:=by refine(c7 (h.map zs) (J C<|J AA rfl) (joinOk_of_weight (by refine J HH<|J (aa0 _) ?_;exact bC 3560802852052920045697 aj)<|by decide) ?_);refine J aaB ?_;exact ad
theorem pZ {M:List (List Int)}(C:M≠[]):(M.map (·.length)).sum+M.length=(aY M).length+1:=by
 induction M with
 |nil=>exact(C rfl).elim
 |cons r M D=>
  by_cases X:M=[]
  ·refine J X ?_;simp[aY]
  ·refine J (ra X) ?_;have:=D X;simp only[n8,LY,hC,nb];exact bS 255697702758363360305154179 this
theorem As {l:List Int}(Q:l[i]?=kZ pt)(aj:l.length<=100000)(ad:ab (.str<|zs [pt]) I):gc (.str<|zs l) (.int i) ab I:=TD Q aj ad
theorem sEq {b:List Int}(aE:∀x∈A,0<=x)(aA:∀x∈b,0<=x)(C:ab (.bool<|decide<|A=b) I):oEq (.str<|zs A) (.str<|zs b) ab I:=by refine eqs ?_;have:decide (zs A=zs b)=decide (A=b):=decide_eq_decide.mpr ⟨Br aE aA,λe=>e▸rfl⟩;refine J this ?_;exact C
theorem YQ (aE:∀x∈A,0<=x)(aA:∀x∈xs,0<=x)(C:ab (.bool (!decide (A=xs))) I):i6 (.str<|zs A) (.str<|zs xs) ab I:=by show ab (.bool (!decide (zs A=zs xs))) I;have:decide (zs A=zs xs)=decide (A=xs):=decide_eq_decide.mpr ⟨Br aE aA,λe=>e▸rfl⟩;refine J this ?_;exact C
theorem nS (C:ab (.bool<|decide<|pt<last) I):oLt (.int pt) (.int last) ab I:=C
theorem Hh (C:ab (.bool<|decide<|pt>=last) I):m0 (.int pt) (.int last) ab I:=C
theorem UB (C:ab (.bool<|decide<|pt<=last) I):oLe (.int pt) (.int last) ab I:=C
theorem rh {len:Nat}(it:Nat->List V)(E:Nat->aR->List V)(P:Nat->aR->az->Prop){a:aR}(e:am=E 0 a)(h0:P 0 a I)(aO:∀k a I,P k a I->kK dx k I (if k<len then kZ (it k) else By)) (ax:∀k a I,P k a I->k<len->bT (pb a0 (it k)<|E k a) (kI (eC (E<|k+1)<|P<|k+1) dk) I)(he:∀a I,P len a I->dk .next (E len a) I):jR dx a0 bT dk am I:= zu it (λk=>eC (E k)<|P k) (bb a e h0) (λk q I A=>bg A λa e C=>aO k a I C) (λk q I A ap=>bg A λa e C=>e▸ax k a I C ap) λq I A=>bg A λa e C=>e▸he a I C
theorem oV {len:Nat}(it:Nat->List V)(g:Nat->V)(aj:len<=100000)(aO:∀k Z,bp I Z->kK dx k Z (if k<len then kZ (it k) else By)) (ax:∀k Z K,bp I Z->k<len->(∀aH,bp Z aH->K (g k) aH)->ck (it k++e7) K Z)(he:∀Z,bp I Z->fj ((g9 len).map g) Z):km dx ck e7 fj I:=by
 refine zr it (λag Z=>bp I Z/\ag=(g9 ag.length).map g) (by refine J wT ?_;exact nf aj<|by decide) ⟨.refl,rfl⟩ (λag Z C=>aO _ _ C.1) (λag Z C an=>ax _ _ _ C.1 an λaH x=>⟨C.1.trans x,?_⟩) λag Z C an=>?_
 ·refine J nb<|J hC<|J uc<|J abK<|J qB<|a6 C.2 ?_;rfl
 ·refine J C.2<|J an ?_;exact he _ C.1
theorem wi {f:aR->cQ}{d:aR}{aa:List aR}:(g9 aa.length).map (λk=>f<|(aa[k]?).getD d)=aa.map f:=by
 refine wZ λi=>J qw<|J qw ?_;by_cases C:i<aa.length
 ·refine J (BE C)<|J (Lw C) ?_;simp[Lw C]
 ·refine J (w0<|pm C)<|J (w0<|by rw[abI];exact pm C) ?_;rfl
structure eO (O P:Addr)(l k:V)(I:az)(t dQ:List Int):Prop where
 bH:I O=kZ (.gD [("text",.str (zs t)),("spots",.ref P),("rectangle",l),("kept",k)])
 bI:I P=kZ (.list (bm dQ))
noncomputable def gk (f:Int->Int)(p:Int):Int:=f (p+1) -1
theorem JT:(A.map<|gk bn).map (gk bG)=A.map (gk λp=>bG<|bn p):=by exact J uj<|qF λp _=>by unfold gk;simp
noncomputable def lu (f:Int->Int)(k:Nat)(dQ:List Int):List Int:=(dQ.take k).map f++dQ.drop k
theorem IC:(lu bn e A)[e]?=A[e]?:=by
 unfold lu;by_cases C:e<A.length
 ·refine J (kU<|by rw[aa0,qC];exact b1 34627841 rfl)<|J (aa0 _)<|J qC<|J abL ?_;congr 1;exact bS 2321095525247488131 C rfl rfl
 ·exact J (w0<|by rw[nb,aa0,qC,BU];exact bS 3604607125701136513 C rfl rfl)<|J (w0<|bC 82177 C) rfl
theorem IE (C:A[e]?=kZ pt):(lu bn e A).set e (bn pt)=lu bn (e+1) A:=by
 have ap:=(xn.mp C).1;unfold lu;have a8:A.take (e+1)=A.take e++[pt]:=by refine J jH<|J C ?_;rfl
 have bo:A.drop e=pt::A.drop (e+1):=J (abp ap)<|a6 (kZ.inj<|(Lw ap).symm.trans C) rfl;refine J a8<|J qB<|J bo<|J (List.set_append_right _ _<|by rw[aa0,qC];exact b1 34627841 rfl)<|J (aa0 _)<|J qC<|J (show e -min e A.length=0 by exact bS 9348258398809859 ap rfl rfl) ?_;simp
theorem ID:(lu bn e A).length=A.length:=by unfold lu;refine J nb<|J (aa0 _)<|J qC<|J BU ?_;exact bS 616152272343171 rfl rfl
theorem V2 (C:A[b]?=kZ pt)(e:bn pt=pt):lu bn b A=lu bn (b+1) A:=by
 refine a6 (IE C)<|J e ?_;have ap:=(xn.mp C).1;refine wZ λi=>J eZ ?_;split
 ·rename_i X;refine a6 X ?_;exact J IC<|J C<|J (if_pos<|by rw[ID];exact ap) rfl
 ·rfl
theorem Ge (ai:¬ (b=aL/\last>b))(ao:¬ (b<aL/\last>=aL))(a7:last>b->¬ b<aL)(an:b<=aL):dO ((b:Int)+1) ((aL:Int)+1) pt (last+1) -1=last:=by
 have e:last+1 -1=last:=tj 14485657;have k:¬ last>b:=λX=>(Nat.lt_or_eq_of_le an).elim (a7 X) λe=>ai ⟨e,X⟩;have k:¬ last+1>(b:Int)+1:=dZ 733643344522 k;unfold dO;by_cases X:b=aL
 ·exact J (if_pos<|bC 17854624500361 X)<|J (if_neg k) e
 ·exact J (if_neg<|bC 4520992782198815 X)<|J (if_neg λm=>ao ⟨BO an X,dZ 229304185585831 m⟩)<|J (if_neg k) e
theorem HU (H:a2 c)(C:eO ae cl aJ ak I t xs)(an:low<=b)(B:b<=t.length)(aj:t.length+A.length<=100000)(L:xs.length<=100) (ad:∀Z,Fr (b2 cl) (b2 ae) No I Z->eO ae cl aJ ak Z (t.take low++A++t.drop b) (xs.map<|gk<|dO (low+1) (b+1) A.length)->ab .none Z):be c 1 (.ref 1344) [.ref ae,.int low,.int b,.str<|zs A] ab I:=by
 refine O2 (n:=0) H<|ek C.bH rfl<|qm (bC 51816500225 aj)<|i8 (by refine J qC ?_;exact bS 2523717914801737857 aj rfl)<|ek C.bH rfl<|nZ (bC 51816500225 aj)<|i8 (by refine J nb<|J qC<|J BU ?_;exact ff 411117374348430743039811586177 an aj rfl rfl)<|ss C.bH (gV rfl) λau h=>?_;have k:=h.at;have l:au cl=kZ (.list<|bm xs):=h.keep C.bH C.bI (by intro X;cases X);refine ek k rfl ⟨⟨_,l⟩,?_⟩;let f:=gk<|dO ((low:Int)+1) ((b:Int)+1) (A.length:Nat);let E:Nat->V×V->List V:=λ_ x=>[.ref ae,.int low,.int b,.str<|zs A,x.1,x.2];let a4:Nat->V×V->az->Prop:=λj _ Z=>Fr (b2 cl) (b2 ae) No I Z/\eO ae cl aJ ak Z (t.take low++A++t.drop b) (lu f j xs);refine rh (len:=xs.length) (λj=>[.int j,.int<|(xs[j]?).getD 0]) E a4 (a:=(.aK,.aK)) rfl ⟨.upd h C.bH λs=>s rfl,k,l⟩ (λj x Z aL=>(bb _ aL.2.bI ?_)) (λj x Z aL bi=>?_) λx Z aL=>?_
 ·refine J ta<|J IC ?_;by_cases X:j<xs.length
  ·refine J (if_pos X)<|J (Lw X) ?_;rfl
  ·refine J (if_neg X)<|J (w0<|pm X) ?_;rfl
 ·obtain⟨p,aP⟩:∃p,xs[j]?=kZ p:=⟨_,Lw bi⟩;obtain⟨ba,aI⟩:=aL;have aE:(bm<|lu f j xs).length=xs.length:=J eb<|J ID rfl;have same:f p=p->eC (E<|j+1) (a4<|j+1) [.ref ae,.int low,.int b,.str<|zs A,.int j,.int p] Z:=λe=>eC.mk ((.int j,.int p):V×V) ⟨ba,aI.bH,V2 aP e▸aI.bI⟩;have st:∀v,v=f p->m2 (.ref cl) (.int j) (.int v) (λD=>eC (E<|j+1) (a4<|j+1) [.ref ae,.int low,.int b,.str<|zs A,.int j,.int p] D) Z:=λv e=> cw aI.bI (by refine J aE ?_;exact bi) (by refine J aE ?_;exact il L<|by decide) λD u=>eC.mk ((.int j,.int p):V×V) ⟨ba.trans<|.lB u aI.bI rfl,u.keep aI.bI aI.bH (by intro X;cases X),by refine J u.at<|J e ?_;unfold bm;exact a6 (IE aP)<|J Ce rfl⟩;have pM:f p=dO ((low:Int)+1) ((b:Int)+1) (A.length:Nat) (p+1) -1:=rfl;refine J aP ?_;have g:¬ (low=b/\p>low)->¬ (low<b/\p>=b)->xH (tl (dI c 0 ab) (eC (E<|j+1)<|a4<|j+1) bv) [.ref ae,.int low,.int b,.str<|zs A,.int j,.int p] [] Z:=λfJ ic=> nS<|cx (λam=>nS<|cx (λz=>ek aI.bH rfl<|st _<|by refine J pM ?_;unfold dO;refine J (if_neg<|gF 480191992287185643551 am z)<|J (if_neg<|dZ 11032974920331 z)<|J (if_pos<|dZ 725053409928 am) ?_;exact dG 59335282857) λz=>same<|pM.trans<|Ge fJ ic (λ_ X=>ic ⟨X,aa1.mp z⟩) an) λam=>same<|pM.trans<|Ge fJ ic (λX=>absurd X am) an;have d:(low=b/\p>low)\/(low<b/\p>=b)->xG (tl (dI c 0 ab) (eC (E<|j+1)<|a4<|j+1) bv) [.ref ae,.int low,.int b,.str<|zs A,.int j,.int p] [] Z:=λfJ=> hx (bC 51564841985 aj) (ek aI.bH rfl (st _ (by
    refine J pM ?_;unfold dO;rcases fJ with⟨e,n⟩|⟨e,n⟩
    ·refine J (if_pos<|bC 17854624500361 e)<|J (if_pos<|dZ 725053409928 n) ?_;exact me 22048928602380490343319705 e
    ·refine J (if_neg<|bC 284574480377887 e)<|J (if_pos<|dZ 720758442631 n) ?_;exact Uw 71772540395171809400460183062841497)))
  have i:¬ (low=b/\p>low)->xI (tl (dI c 0 ab) (eC (E<|j+1)<|a4<|j+1) bv) [.ref ae,.int low,.int b,.str<|zs A,.int j,.int p] [] Z:=λfJ=> nS<|cx (λam=>Hh<|cx (λz=>d<|.inr ⟨bC 436896002 am,z⟩) λz=>g fJ λX=>z X.2) λam=>g fJ λX=>am<|bC 270639272 X.1;exact qV<|cx (λam=>Ho<|cx (λz=>d<|.inl ⟨bC 436900099 am,z⟩) λz=>i λX=>z X.2) λam=>i λX=>am<|bC 271687849 X.1
 ·refine ad Z aL.1 ?_;have:=aL.2;unfold lu at this;rw[oe,B9,Bs] at this;exact this
theorem eO.ext {k:V}(C:eO a ae ak k I t A)(x:bp I Z):eO a ae ak k Z t A:=⟨x _ _ C.bH,x _ _ C.bI⟩
theorem cS.nn (C:cS t):∀x∈t,0<=x:=λx Q=>(C x Q).elim (λe=>by exact c4 2699071735 e) λe=>by have:=e.1;exact c4 14446839 this
theorem zC (C:ab (.int (min e b:Nat)) I):nF [.int e,.int b] ab I:=by rw[<-Ja] at C;exact C
theorem VA (C:ab (.int (max e b:Nat)) I):ov [.int e,.int b] ab I:=by rw[<-I9] at C;exact C
theorem VZ (aB:I ae=kZ (.list [.int e,.int b]))(C:ab (.int (min e b:Nat)) I):nF [.ref ae] ab I:=(e5 _ _ aB<|by refine J Ja ?_;exact C)
theorem Vz (aB:I ae=kZ (.list [.int e,.int b]))(C:ab (.int (max e b:Nat)) I):ov [.ref ae] ab I:=(e5 _ _ aB<|by refine J I9 ?_;exact C)
theorem zg (H:a2 c)(C:eO a ae aJ ak I t A)(aw:cS t)(ax:b<=t.length)(he:e<=t.length)(aj:t.length<=90000) (ad:∀fM r Z,bp I Z->Z fM=kZ (.tup [.int<|ef t b e,.ref r,.int<|b7 t b e,.int<|b8 t b e])->Z r=kZ (.list<|cP<|bk t b e)->I r=By->ab (.ref fM) Z):be c 1 (.ref 1349) [.ref a,.int b,.int e] ab I:=by
 have av:=aw.nn;have h:min b e<=t.length:=bS 214850212097 ax rfl;have f:max b e<=t.length:=bS 880507773653249 ax he rfl;have d:ef t b e<=gx t b e:=(gH aw ax he).UE;have G:gx t b e<=t.length:=(gH aw ax he).aO;have tail:xP (dI c 0 ab) [.ref a,.int b,.int e,.aK,.int<|gx t b e,.int<|ef t b e] [] I:=by
  intros cd;refine fy rfl rfl λfD au U s aI=> .inr<|bb _ aI ?_;refine oV (len:=2) (λj=>[.int<|(if j=0 then b else e:Nat)]) (λj=> .int<|(if j=0 then c9 t b else c9 t e:Nat)) (by decide) (λj Z x=>(bb _ (x _ _ aI) ?_)) (λj Z K x bi bZ=>?_) λaS aR=>?_
  ·match j with
   |0=>rfl
   |1=>rfl
   |j+2=>refine J (if_neg<|dG 141199204484) ?_;rfl
  ·have B:=(C.ext U).ext x;have hm:(if j=0 then b else e)<=t.length:=by split<;>assumption
   refine ek B.bH rfl ⟨rfl,JK av hm λi aL=>?_⟩;have g:c5 t (if j=0 then b else e)<=(if j=0 then b else e):=rk;refine dC<|gJ (m:=(((if j=0 then c9 t b else c9 t e:Nat)):Int)) ?_<|bZ _ .refl;split at aL<;>rename_i X
   ·rw[if_pos X] at g⊢;refine J (if_pos X) ?_;unfold c9;exact me 38785585713603398579825049 g aL rfl
   ·rw[if_neg X] at g⊢;refine J (if_neg X) ?_;unfold c9;exact me 38785585713603398579825049 g aL rfl
  ·intro eI aM a9;have a7:eO a ae aJ ak aM t A:=((C.ext U).ext aR).ext a9.ext;refine ek a7.bH rfl<|sB (bM 6184766294526977 aj) ⟨rfl,JL (λx Q=>av x<|BX<|od Q) (by refine J BU<|J qC ?_;exact dH 24358889022318051975040001 aj rfl rfl) λr ay bq=>?_⟩;have aA:ay eI=kZ (.list [.int (c9 t b:Nat),.int (c9 t e:Nat)]):=bq.ext _ _ a9.at;refine VZ aA<|Vz aA<|fy rfl rfl λfM bh bD y bE=>?_;have N:bp I aM:=(U.trans aR).trans a9.ext;exact ad fM r bh ((N.trans bq.ext).trans bD) bE (bD _ _ bq.at)<|N.none bq.1
 refine Pa (n:=0) H<|ek C.bH rfl ⟨rfl,zC<|JK av h λi aL=>jq aL<|ek C.bH rfl ⟨rfl,VA<|YL av f ?_⟩⟩;intros k;have g:cN t (max b e)<=t.length:=rj f;by_cases X:cN t (max b e)<t.length
 ·exact J (if_pos X)<|nS<|cr (dG 61610) tail
 ·refine J (if_neg X) ?_;have a8:gx t b e=t.length:=by unfold gx;exact bC 4363129091 g X
  exact nS<|kO (j5 64952)<|ek C.bH rfl<|hx (bM 6184766294526977 aj)<|a8▸tail
theorem HZ (H:a2 c)(C:eO ae cl aJ ak I t A)(aw:cS t)(ax:b<=t.length)(he:e<=t.length)(aj:t.length<1000) (ad:∀r Z,bp I Z->I r=By->Z r=kZ (.list<|cP<|gr t b e)->ab (.ref r) Z):be c 2 (.ref 1368) [.ref ae,.int b,.int e] ab I:=by
 have R:=gH aw ax he;refine Pb (n:=1) H ⟨(H.f 118),ca<|zg H C aw ax he (bM 7883592743198209 aj) λfM r au U bu aB fx=>eY bu rfl<|gd aB ?_⟩;intros y;refine oV (len:=(cP<|bk t b e).length) (λj=>[((cP<|bk t b e)[j]?).getD .aK]) (λj=> .str<|zs<|l1 (((bk t b e)[j]?).getD []) (b7 t b e)<|b8 t b e) (by have:=R.fx;refine J (aa0 _) ?_;exact bC 3685567742217217 aj this) (λj Z x=>(bb _ (x _ _ aB) sW.symm)) (λj Z K x bi bZ=>?_) λaS aR a aM a9=>?_
 ·rw[aa0] at bi;obtain⟨aC,l⟩:∃aC,(bk t b e)[j]?=kZ aC:=⟨_,Lw bi⟩;have N:=R.tZ aC<|jI l;have ai:=R.lt;have ao:=R.kv;have a8:((cP<|bk t b e)[j]?).getD .aK=.str (zs aC):=by refine J qw<|J l ?_;rfl
  have ap:=bZ Z .refl;rw[l] at ap;exact J a8<|sB (bC 1104277539841 aj N) ⟨rfl,gJ (wy ao)<|wn (bS 225269184015244290 aj ai rfl) (by refine J BU<|J qC ?_;exact ff 24264687816333381995522 aj ai rfl rfl) ap⟩
 ·have:(g9 (cP<|bk t b e).length).map (λj=>V.str<|zs<|l1 (((bk t b e)[j]?).getD []) (b7 t b e)<|b8 t b e)=cP (gr t b e):=by refine J (aa0 _)<|J (wi (f:=λaC=>V.str<|zs<|l1 aC (b7 t b e)<|b8 t b e)) ?_;rw[cP,gr,uj];rfl
  rw[this] at a9;exact ad a aM ((U.trans aR).trans a9.ext) ((U.trans aR).none a9.1) a9.at
def lr (w:Str)(aC:List Int)(f l:Nat)(cs:List Int):List Int:=if w="string" then qk aC f l cs else if w="number" then jD aC f cs else if w="open" then ht aC f l else if w="clear" then gR aC f l else if w="close" then cls aC f else aC.take f++aC.drop l
theorem Ir (H:a2 c)(a1:["string","number"].any (· ==w)=true){d:Nat}(hm:(w="string"->d=aD)/\(¬ w="string"->d=i))(aj:aC.length<1000)(j:A.length<=1000)(hf:i<1000)(h:aD<1000) (ad:∀Z,bp I Z->ab (.str<|zs<|(pad aC i).take i++A++(pad aC i).drop d) Z):be c 1 (.ref 1363) [.str w,.str<|zs aC,.int i,.int aD,.str<|zs A] ab I:=by
 have aP:(pad aC i).length<2000:=by unfold pad;refine J nb<|J hA ?_;exact b1 2517540302045817316708482 aj hf rfl
 refine F8 (n:=0) H<|fy rfl rfl λt au U s aI=>mW (b:=true) aI (bb (["string","number"]) rfl a1.symm) ⟨rfl,wn hf (bM 469896194 aj)<|qm (l:=pad aC i) (bM 137443751889921 aP)<|i8 (by refine J qC ?_;exact bS 922777468052993478785 j hf rfl)<|eqs<|cx (λe=>?_) λe=>?_⟩
 ·exact nZ (l:=pad aC i) (bM 137443751889921 aP)<|i8 (by refine J nb<|J qC<|J BU ?_;exact ff 1075463858784853907290858484467841 j aP rfl rfl)<|hm.1 e▸ad _ U
 ·exact nZ (l:=pad aC i) (bM 137443751889921 aP)<|i8 (by refine J nb<|J qC<|J BU ?_;exact dH 1055181449181202236866911233181825 j aP rfl rfl)<|hm.2 e▸ad _ U
theorem Ui (H:a2 c)(a1:w="string"\/w="number"\/w="open"\/w="clear"\/w="close"\/w="delete")(l:∀x∈aC,0<=x)(aj:aC.length<1000)(j:A.length<=1000)(a:e<=i)(hm:i<1000) (ad:∀Z,bp I Z->ab (.str<|zs<|lr w aC e i A) Z):be c 1 (.ref 1363) [.str w,.str<|zs aC,.int e,.int i,.str<|zs A] ab I:=by
 have eP:["string","number"].any (· ==w)=false->(aC.length<=e->lr w aC e i A=aC)->(e<aC.length->∀au,bp I au->CX (dI c 0 ab) [.str w,.str<|zs aC,.int e,.int i,.str<|zs A] [] au)->be c 1 (.ref 1363) [.str w,.str<|zs aC,.int e,.int i,.str<|zs A] ab I:=λh0 ai ao=> F8 (n:=0) H<|fy rfl rfl λt au U s aI=>mW (b:=false) aI (bb (["string","number"]) rfl h0.symm)<|js<|hx (bM 469896193 aj)<|UB<|cx (λg=>ai (qD.mp g)▸ad _ U) λg=>ao (qH λX=>g<|qD.mpr X) _ U;rcases a1 with rfl|rfl|rfl|rfl|rfl|rfl
 ·exact Ir H (by decide) ⟨λ_=>rfl,λX=>(X rfl).elim⟩ aj j (bC 1928994036738 a hm) hm ad
 ·exact Ir H (by decide) (d:=e) ⟨λX=>absurd X<|by decide,λ_=>rfl⟩ aj j (bC 1928994036738 a hm) hm ad
 ·refine eP (by decide) (λC=>if_pos C) λC au U=>eqs<|cr (by decide)<|eqs<|kO rfl<|qm (bM 469896193 aj)<|gJ (wy a)<|At (b1 36305829501954 hm rfl)<|i8 (by refine J qC<|J hA ?_;exact dH 4988630340665705499463809 a hm rfl rfl)<|nZ (bM 469896193 aj)<|i8 (by refine J nb<|J qC<|J hA<|J BU ?_;exact ff 1075469100489532307217641740765313 aj hm rfl rfl rfl) ?_;exact(if_neg (abM C):ht aC e i=_)▸ad _ U
 ·refine eP (by decide) (λC=>?_) λC au U=>eqs (cr (by decide)<|eqs<|cr (by decide)<|eqs<|cr (by decide)<|qm (bM 469896193 aj)<|hx (bM 469896193 aj)<|Ho<|cx (λX=>gJ (wy a)<|At (b1 36305829501954 hm rfl)<|nZ (bM 469896193 aj)<|i8 (by refine J hA<|J BU ?_;exact dH 1296361049742303059350655105 aj X rfl rfl)<|i8 (by refine J nb<|J qC<|J hA<|J BU ?_;exact ff 17207505606623625721328354554118273 aj X rfl rfl rfl) ?_) λX=>i8 (b:=[]) (by refine J qC<|J uc ?_;exact bS 56520670250047172737 a hm rfl) ?_)
  ·show gR aC e i=aC;unfold gR;exact J (if_neg<|b1 8875282692 a C)<|J (Bs _)<|J (pj C) rfl
  ·have:gR aC e i=aC.take e++(dr (i -e) 32++aC.drop i):=by unfold gR;exact J (if_pos<|bC 436896002 X) rfl
   exact this▸ad _ U
  ·have:gR aC e i=aC.take e++[]:=by unfold gR;exact J (if_neg<|bC 436904196 X) rfl
   exact this▸ad _ U
 ·refine eP (by decide) (λC=>if_pos C) λC au U=>eqs<|cr (by decide)<|eqs<|cr (by decide)<|eqs<|kO rfl<|qm (bM 469896193 aj)<|nZ (bM 469896193 aj) ⟨rfl,YN (λx Q=>l x<|od Q) (by refine J BU ?_;exact b1 36305829497858 aj rfl)<|i8 (by refine J qC<|J GJ<|J BU<|J BU ?_;exact ff 44760105995587059542921345 aj rfl rfl rfl) ?_⟩;exact(if_neg (abM C):cls aC e=_)▸ad _ U
 ·refine eP (by decide) (λC=>?_) λC au U=>eqs (kO rfl<|qm (bM 469896193 aj)<|nZ (bM 469896193 aj)<|i8 (by refine J qC<|J BU ?_;exact dH 664529229177181442177 aj rfl rfl) ?_)
  ·show aC.take e++aC.drop i=aC;exact J (pj C)<|J (Cf<|b1 8607895809 a C)<|J (Bs _) rfl
  ·exact ad _ U
theorem JC (C:i<xs.length -e):(xs.drop e).reverse[i]?=xs[xs.length -1 -i]?:=by refine J (qx<|by rw[BU];exact C)<|J BU<|J abL<|congrArg (xs[·]?) ?_;exact J ((congrArg (· -i)<|abN ..).trans (abN ..):xs.length -e -1 -i=xs.length -1 -i -e)<|iN<|ff 3916845076801603641601 C rfl rfl rfl
theorem YE {I:az}{bq:KK}{o w:List Int}{a b:Nat}{D bX p l bB f i n:V}(aw:∀x∈o,0<=x)(a1:∀x∈w,0<=x)(g:o.length<=100000)(h:w.length<=100000)(aE:a<=w.length)(aA:b<=o.length -a) (C:xO bq [D,bX,p,l,bB,f,.int a,i,.int b,n,.str<|zs w,.str<|zs o,.int (fF b (o.drop a).reverse (w.drop a).reverse:Nat)] [] I): CW bq [D,bX,p,l,bB,f,.int a,i,.int b,n,.str<|zs w,.str<|zs o,.int 0] [] I:=by
 let xs:=(o.drop a).reverse;let bw:=(w.drop a).reverse;let E:Nat->Unit->List V:=λj _=>[D,bX,p,l,bB,f,.int a,i,.int b,n,.str<|zs w,.str<|zs o,.int (j:Nat)];refine vO b E (λj _ Z=>Z=I/\fF b xs bw=j+fF (b -j) (xs.drop j) (bw.drop j)) (a:=()) rfl ⟨rfl,(BI _).symm⟩ λj _ Z bi aU=>?_;obtain⟨rfl,aU⟩:=aU;refine jA ?_;intro c;have fin:fF (b -j) (xs.drop j) (bw.drop j)=0->xO bq [D,bX,p,l,bB,f,.int a,i,.int b,n,.str<|zs w,.str<|zs o,.int (j:Nat)] [] Z:=λe=>by rw[e,xa] at aU;exact aU▸C
 refine nS<|cx (λai=>dt<|hx (by exact bM 201395201 h)<|nS<|cx (λao=>?_) λao=>fin<|sM λx y hm ex d=>?_) λai=>fin<|sM λx y hm ex d=>absurd (qG.mpr hm) ai
 ·have ai:=qG.mp ai;have ao:j<w.length -a:=by exact bS 157999411323502850 ao rfl
  have a8:xs[j]?=o[o.length -1 -j]?:=JC (by exact b1 2889037779202 aA ‹_›);have bo:bw[j]?=w[w.length -1 -j]?:=JC ao;obtain⟨x,Q⟩:∃x,o[o.length -1 -j]?=kZ x:=⟨_,Lw<|by exact hN 4050299951511334246511939842 aA ‹_› rfl rfl rfl⟩;obtain⟨y,G⟩:∃y,w[w.length -1 -j]?=kZ y:=⟨_,Lw<|by exact dH 61765698043246486782210 ‹_› rfl rfl⟩;refine hx (by exact bM 201395201 g)<|dC<|gJ (m:=((o.length -1 -j:Nat):Int)) (by exact hN 1082048024512774623330707323111909785 aA ‹_› rfl rfl rfl)<|As Q (by exact bM 201395201 g)<|hx h<|dC<|gJ (m:=((w.length -1 -j:Nat):Int)) (by exact dH 16500836622074964601404669340057 ‹_› rfl rfl)<|As G h<|sEq (λz aj=>?_) (λz aj=>?_)<|cx (λhe=>?_) λaX=>?_
  ·refine J (aaO.mp aj) ?_;exact aw _<|jI Q
  ·refine J (aaO.mp aj) ?_;exact a1 _<|jI G
  ·have he:x=y:=(BF.inj he).1;refine jq (m:=((j+1:Nat):Int)) rfl<|py.mk (E:=E) () ai ⟨rfl,?_⟩;rw[aU,Gi ai (a8.trans Q)<|bo.trans<|he▸G,jg _ 1,<-BZ]
  ·refine fin<|sM λO k _ ex d=>?_;rw[a8,Q] at ex;rw[bo,G] at d;cases ex;cases d;exact λX=>aX<|X▸rfl
 ·have a7:=(xn.mp d).1;have a7:j<w.length -a:=by rw[aaH,BU] at a7;exact a7
  exact absurd (by exact bS 9942961665739400 a7 rfl) ao
theorem HY (H:a2 c)(C:eO bs N aJ ak I (A++aY h++xs) t)(z:I ae=kZ (.list<|cP h))(S:I cl=kZ (.list<|cP a5))(bF:h.length=a5.length)(h0:h≠[]) (af:∀r∈h,∀x∈r,0<=x)(av:∀r∈a5,∀x∈r,0<=x){f:Nat}(aa:f<=aD)(y:∀(i:Nat) (o w:List Int),h[i]?=kZ o->a5[i]?=kZ w->w≠o->min f o.length<=w.length/\o.take (min f o.length)=w.take (min f o.length)) (aj:A.length+(aY h).length+(aY a5).length+xs.length<=90000)(D:h.length<=1000)(L:t.length<=100) (ad:∀Z,Fr (b2 N) (b2 bs) No I Z->eO bs N aJ ak Z (A++aY a5++xs) (t.map<|gk<|fB A.length f aD h a5 h.length)->ab .none Z):be c 2 (.ref 1356) [.ref bs,.int A.length,.ref ae,.ref cl,.int f,.int aD] ab I:=by
 let n:=h.length;let E:Nat->V×V×V×V×V×V->List V:=λj x=>[.ref bs,.int A.length,.ref ae,.ref cl,.int f,.int aD,x.1,.int<|((dj A.length h (n -j):Nat):Int) -1,x.2.1,x.2.2.1,x.2.2.2.1,x.2.2.2.2.1,x.2.2.2.2.2];let a4:az->Nat->V×V×V×V×V×V->az->Prop:=λar j _ Z=>Fr (b2 N) (b2 bs) No ar Z/\eO bs N aJ ak Z (A++aY (h.take (n -j)++a5.drop (n -j))++xs) (t.map<|gk<|fB A.length f aD h a5 j);have ax:(cP h).length=n:=aa0 _;have B:(cP a5).length=n:=(aa0 _).trans bF.symm;have aA:=FX (lo:=A.length) h0;have bi:=pZ h0;refine O9 (n:=1) H ⟨rfl,tI z (ff 68636982318457136532044254500622465 aj bi)<|hx (bS 103763160086629809458177 aj)<|jq (m:=(((dj A.length h n:Nat):Int) -1)) (by show((A.length:Nat):Int)+((aY h).length:Nat)=((dj A.length h h.length:Nat):Int) -1;exact b1 240998914447350827657 aA) ?_⟩;intros an;refine(c7 _ z (by refine J ax<|J wT ?_;exact nf D<|by decide) λbN au s=>(c7 _ (s.ext _ _ S) (by refine J B<|J wT ?_;exact nf D<|by decide) λbP aS aT=>⟨⟨_,aT.ext _ _ s.at⟩,⟨_,aT.at⟩,?_⟩));have aR:bp I aS:=s.ext.trans aT.ext;have ai:aS bN=kZ (.list (cP h).reverse):=aT.ext _ _ s.at;have ao:aS bP=kZ (.list (cP a5).reverse):=aT.at;have ne1:bN≠N:=λX=>by have:=s.1;rw[X,C.bI] at this;cases this
 have al:bP≠N:=λX=>by have:=s.ext.none aT.1;rw[X,C.bI] at this;cases this
 refine rh (len:=n) (λj=>[((cP h).reverse[j]?).getD .aK,((cP a5).reverse[j]?).getD .aK]) E (a4 aS) (a:=(.aK,.aK,.aK,.aK,.aK,.aK)) rfl ⟨.cv .refl,?_⟩ (λj x Z aL=>(dM _ _ (aL.1.list ai ne1) (aL.1.list ao al) ?_)) (λj x Z aL k=>?_) λx Z aL=>?_
 ·have:A++aY (h.take (n -0)++a5.drop (n -0))++xs=A++aY h++xs:=by exact J (LI _)<|J oe<|J (Cf<|r5 bF.symm)<|J (Bs _) rfl
  refine J this ?_;have e:t.map (gk<|fB A.length f aD h a5 0)=t:=(qF λp _=>by show p+1 -1=p;exact tj 14485657).trans<|uk _;refine J e ?_;exact C.ext aR
 ·by_cases X:j<n
  ·refine J (if_pos X)<|J (Lw<|by rw[aaH,ax];exact X)<|J (Lw<|by rw[aaH,B];exact X) ?_;rfl
  ·refine J (if_neg X)<|J (w0<|by rw[aaH,ax];exact bC 82177 X) ?_;rfl
 ·refine hr ?_;intro aq;obtain⟨ba,K⟩:=aL;have q:n -(j+1)<n:=b1 231451577688322 k rfl;obtain⟨o,aw⟩:∃o,h[n -(j+1)]?=kZ o:=⟨_,Lw q⟩;obtain⟨w,a1⟩:∃w,a5[n -(j+1)]?=kZ w:=⟨_,Lw<|bF▸q⟩;have ap:((cP h).reverse[j]?).getD .aK=.str (zs o):=by refine J (qx<|by rw[ax];exact k)<|J ax<|J qw<|J (show n -1 -j=n -(j+1) by exact dH 242425179535774404867 rfl rfl rfl)<|J aw ?_;rfl
  have acf:((cP a5).reverse[j]?).getD .aK=.str (zs w):=by refine J (qx<|by rw[B];exact k)<|J B<|J qw<|J (show n -1 -j=n -(j+1) by exact dH 242425179535774404867 rfl rfl rfl)<|J a1 ?_;rfl
  refine J ap<|J acf ?_;obtain⟨a6,aC,bq⟩:=Jr (te aw).1 (te a1).2<|nf aj (by decide);have P:=af _<|jI aw;have M:=av _<|jI a1;have bb:(A++eu (h.take<|n -(j+1))).length=dj A.length h (n -(j+1)):=by refine J nb ?_;exact sA
  have W:dj A.length h (n -j)=dj A.length h (n -(j+1))+o.length+1:=by refine J (show n -j=n -(j+1)+1 by exact bS 646055584422192551939 k rfl rfl) ?_;exact qQ aw
  have a0:A++aY (h.take (n -j)++a5.drop (n -j))++xs=(A++eu (h.take<|n -(j+1)))++o++(gh (a5.drop<|n -(j+1)+1)++xs):=by refine J (show n -j=n -(j+1)+1 by exact bS 646055584422192551939 k rfl rfl)<|J (v0 aw) ?_;simp only[aaG]
  have R:A++aY (h.take (n -(j+1))++a5.drop (n -(j+1)))++xs=(A++eu (h.take<|n -(j+1)))++w++(gh (a5.drop<|n -(j+1)+1)++xs):=by refine J (zE a1) ?_;simp only[aaG]
  rw[a0] at K;have T:(A++eu (h.take<|n -(j+1))).length=A.length+(eu<|h.take<|n -(j+1)).length:=nb;have U:(gh (a5.drop<|n -(j+1)+1)++xs).length=(gh<|a5.drop<|n -(j+1)+1).length+xs.length:=nb;generalize am:A++eu (h.take<|n -(j+1))=aH at*;generalize gh (a5.drop<|n -(j+1)+1)++xs=bl at*;have fin:∀{a b g:V} {aM:az},Fr (b2 N) (b2 bs) No aS aM->eO bs N aJ ak aM (aH++w++bl) (t.map<|gk<|fB A.length f aD h a5<|j+1)->xN (tl (dI c 1 ab) (eC (E<|j+1)<|a4 aS<|j+1) bv) [.ref bs,.int A.length,.ref ae,.ref cl,.int f,.int aD,a,.int<|((dj A.length h (n -j):Nat):Int) -1,b,.int (dj A.length h (n -(j+1)):Nat),.str<|zs w,.str<|zs o,g] [] aM:=λ{a b g aM} F Q=> dC<|eC.mk (E:=E<|j+1) (a,b,.int (dj A.length h (n -(j+1)):Nat),.str<|zs w,.str<|zs o,g) ⟨F,R▸Q⟩;refine hx aC<|gJ (m:=((dj A.length h (n -(j+1)):Nat):Int)) (b1 241142993727112915353 W)<|hx aC<|zC<|fy rfl rfl λfM aM bj a9 bn=>eY bn rfl ?_;intros cc;have d:=K.ext bj;have a7:=ba.trans<|.cv bj;refine YQ M P<|mn (λaX=>?_) λhe=>?_
  ·obtain⟨aE,ah⟩:=y _ o w aw a1 aX;have v:fY (min f o.length) o w=min f o.length:=Qh ah (BV ..) aE;have bt:fF (o.length -aD) (o.drop<|min f o.length).reverse (w.drop<|min f o.length).reverse=ez (min f o.length) (o.length -aD) o w:=by unfold ez;exact J v rfl
   have l:=@tG (min f o.length) (o.length -aD) o w;rw[v] at l;have O:=@JF aH bl o w (min f o.length)<|o.length -aD;rw[v] at O;have aU:∀p,fB A.length f aD h a5 (j+1) p=o8 aH.length (min f o.length) (o.length -aD) o w (fB A.length f aD h a5 j p):=λp=>by have:=ww (lo:=A.length) (f:=f) (aD:=aD) aw a1 aX bb<|fB A.length f aD h a5 j p;rw[qC,BU] at this;exact this.symm
   refine hx aC<|dC<|vZ (m:=((o.length -aD:Nat):Int)) (me 48542594212517186057 rfl rfl)<|YE P M aC bq aE (ff 959609652070682071297 aa rfl rfl rfl) ?_;refine J bt ?_;generalize ag:ez (min f o.length) (o.length -aD) o w=g at*;have aG:(aH++o++bl).length=aH.length+o.length+bl.length:=J nb<|J nb rfl;have bg:((w.take<|w.length -g).drop<|min f o.length).length=w.length -g -min f o.length:=J BU<|J qC<|J (ke<|BW ..) rfl;refine⟨H.f 117,jq (m:=((aH.length+min f o.length:Nat):Int)) (b1 38562533345929 bb)<|hx aC<|dt<|gJ (m:=((aH.length+o.length -g:Nat):Int)) (hN 42190029062235759131681961846937 bb l.1 rfl rfl)<|hx bq<|gJ (m:=((w.length -g:Nat):Int)) (dH 4765313744674366294681 l.2 rfl rfl)<|sB bq<|ca<|HU H d (hN 104072490813815861489569921 l.1 rfl rfl rfl) (ff 5992045090216947969 aG rfl) (by refine J bg ?_;exact Uq 572821119989963329043780011235326762112337665214923733486950682753 a6 T U aG rfl rfl) (by refine J (aa0 _) ?_;exact L) λay bK G=>fin (a7.trans bK) ?_⟩;rw[O,JT,bg] at G;have:(λp=>dO (((aH.length+min f o.length:Nat):Int)+1) (((aH.length+o.length -g:Nat):Int)+1) ((w.length -g -min f o.length:Nat):Int)<|fB A.length f aD h a5 j p)=fB A.length f aD h a5 (j+1):=funext λp=>by refine J (aU p) ?_;unfold o8;exact J v<|J ag rfl
   rw[this] at G;exact G
  ·refine fin a7 ?_;have:fB A.length f aD h a5 (j+1)=fB A.length f aD h a5 j:=funext λp=>(wv aw a1 he<|fB A.length f aD h a5 j p).symm;exact J this<|J he<|d
 ·have e:A++aY (h.take (n -n)++a5.drop (n -n))++xs=A++aY a5++xs:=by exact J (abk _)<|J w8<|J kW<|J (Cg _) rfl
  have:=aL.2;rw[e] at this;exact ad Z ((Fr.cv aR).trans aL.1) this
theorem Vx {g:aR->cQ}:aw.mapIdx (λq a=>g a)=aw.map g:=by exact wZ λi=>J ui<|J qw rfl
theorem Vy {g ad:Nat->aR->cQ}(e:∀i a,aw[i]?=kZ a->g i a=ad i a):aw.mapIdx g=aw.mapIdx ad:=by
 refine wZ λi=>J ui<|J ui ?_;cases X:aw[i]? with
 |none=>rfl
 |some a=>exact congrArg kZ<|e i a X
theorem Vh (aB:bU A)(aU:bU xs):bU (lr w A e i xs):=by
 have d:lQ 32:=⟨by decide,by decide⟩;have c:∀{a b:List Int},bU a->bU b->bU (a++b):=λaE aA x Q=>(bc.mp Q).elim (aE x)<|aA x;have rep:∀n,bU (dr n 32):=λn x Q=>(kg.mp Q).2▸d;have nil:bU []:=iE;unfold lr;split
 ·exact c (c ((o5 aB).take _) aU)<|(o5 aB).drop _
 ·split
  ·exact c (c ((o5 aB).take _) aU)<|(o5 aB).drop _
  ·split
   ·unfold ht;split
    ·exact aB
    ·exact c (c (aB.take _)<|rep _)<|aB.drop _
   ·split
    ·unfold gR;refine c (aB.take _) ?_;split
     ·exact c (rep _)<|aB.drop _
     ·exact nil
    ·split
     ·unfold cls;split
      ·exact aB
      ·exact c (aB.take _) λx Q=>aB.drop _ x<|(abO _).subset Q
     ·exact c (aB.take _)<|aB.drop _
theorem Vg {r cs:List Int}(g:e<=b):(lr w r e b cs).length<=r.length+(b+cs.length):=by
 have aP:(pad r e).length<=r.length+e:=by refine J Ac ?_;exact abl.mpr ⟨w2 ..,w4 ..⟩
 unfold lr;split
 ·unfold qk;simp only[nb,qC,BU];exact hN 88920711243913833091559470467201 g aP rfl rfl
 ·split
  ·unfold jD;simp only[nb,qC,BU];exact hN 109203120847565503515506721753217 g aP rfl rfl
  ·split
   ·unfold ht;split
    ·exact lq 35129345
    ·simp only[nb,qC,BU,hA];exact hN 1044994794777777706643818625 rfl rfl rfl
   ·split
    ·unfold gR;split
     ·simp only[nb,qC,BU,hA];exact hN 4280298678819477614209978695809 g rfl rfl rfl
     ·simp only[nb,qC,uc];exact dH 352269595373697 rfl
    ·split
     ·unfold cls;split
      ·exact lq 35129345
      ·have:=(abO (p:=(· ==(32:Int))) (l:=r.drop e)).length_le;rw[BU] at this;simp only[nb,qC];exact hN 464362628534061127700609 this rfl rfl
     ·simp only[nb,qC,BU];exact ff 236508373647220382634113 g rfl rfl
theorem y5 {K:Nat}{M:List (List Int)}:∀{a5:List (List Int)},a5.length=M.length->(∀(i:Nat) r g3,M[i]?=kZ r->a5[i]?=kZ g3->g3.length<=r.length+K)->(aY a5).length<=(aY M).length+M.length*K:=by
 induction M with
 |nil=>intro a5 an C;cases a5 with
  |nil=>exact BK _
  |cons=>cases an
 |cons r M D=>intro a5 an C;cases a5 with
  |nil=>cases an
  |cons g3 a5=>
   have h0:=C 0 r g3 rfl rfl;cases M with
   |nil=>cases a5 with
    |nil=>refine(?_:g3.length<=r.length+1*K);refine J (Nat.one_mul _) ?_;exact h0
    |cons=>cases c6.inj an
   |cons s M=>cases a5 with
    |nil=>cases c6.inj an
    |cons ay a5=>have D:=D (a5:=ay::a5) (c6.inj an) λi x O ai ao=>C (i+1) x O ai ao;refine(?_:(g3++10::aY (ay::a5)).length<=(r++10::aY (s::M)).length+((s::M).length+1)*K);exact J nb<|J nb<|J hC<|J hC<|J (se _ _)<|ff 408521740669713151351361470593 D h0
theorem Iq (g:b<=i):min b A.length<=(lr w A b i xs).length/\A.take (min b A.length)=(lr w A b i xs).take (min b A.length):=by
 have go:∀{x y:List Int},x.take (min b A.length)=A.take (min b A.length)->min b A.length<=x.length->min b A.length<=(x.take b++y).length/\A.take (min b A.length)=(x.take b++y).take (min b A.length):=λ{x y} ai ao=>by
  have e:min b A.length<=(x.take b).length:=by refine J qC ?_;exact dH 18865571204436225 ao rfl rfl
  refine⟨by refine J nb ?_;exact b1 269621249 e,?_⟩;exact J (xf e)<|J abm<|J (ke<|abi ..)<|J ai rfl
 have aP:∀{y z:List Int},min b A.length<=((pad A b).take b++y++z).length/\A.take (min b A.length)=((pad A b).take b++y++z).take (min b A.length):=λ{y z}=>by exact J (aaG _ _ _)<|go (by unfold pad;exact J (xf<|BV ..) rfl) (by unfold pad;refine J nb ?_;exact bS 5106702337 rfl)
 have a:min b A.length<=A.length/\A.take (min b A.length)=A.take (min b A.length):=⟨BV ..,rfl⟩;have bV:∀{y:List Int},min b A.length<=(A.take b++y).length/\A.take (min b A.length)=(A.take b++y).take (min b A.length):=go rfl<|BV ..;unfold lr;split
 ·exact aP
 ·split
  ·exact aP
  ·split
   ·unfold ht;split
    ·exact a
    ·refine J (aaG _ _ _) ?_;exact bV
   ·split
    ·exact bV
    ·split
     ·unfold cls;split
      ·exact a
      ·exact bV
     ·exact bV
theorem Jl {n:Nat}(aV:aa[n -1]?=kZ u)(e:aa.length=n)(aP:0<n)(aj:aa.length<=100000):item (.list aa) (.int (-1)) u:=⟨by unfold pick;refine J (if_neg<|by decide)<|J (if_pos<|bC 34226659068599 e aP)<|J (by exact bS 243361767020196671747 e rfl rfl:((-1:Int)+aa.length).toNat=n -1) ?_;exact aV,bM 201407490 aj⟩
def gp (w:Str)(cs:List Int)(cnt:Int)(n i:Nat):List Int:=if w="number" then ry (cnt+n) (cnt+i) else cs
def cZ (w:Str)(t:List Int)(s e:Nat)(cs:List Int)(cnt:Int):List (List Int):=(bk t s e).mapIdx λi r=>lr w r (b7 t s e) (b8 t s e)<|gp w cs cnt (bk t s e).length i
def iW (w:Str)(t:List Int)(s e:Nat):Nat:=if["open","close","number"].any (· ==w)=true then b7 t s e else b8 t s e
def tN (w:Str)(t:List Int)(s e:Nat)(N:List (List Int))(dQ:List Int):List Int:= if w="open" then dQ.set 0 ((min s e:Nat):Int) else if w="string" then dQ.set 0 ((ef t s e:Int)+(aY N).length -(((bk t s e).getLastD []).length -b8 t s e:Nat)) else dQ
theorem AG (bI:I a=kZ (.list<|bm A))(ai:0<A.length)(ao:A.length<=100)(C:∀Z,Upd I Z a (.list<|bm<|A.set 0 pt)->cd Z):m2 (.ref a) (.int 0) (.int pt) cd I:= cw (k:=0) bI (by refine J eb ?_;exact ai) (by refine J eb ?_;exact il ao<|by decide) λD u=>C D (by unfold bm;refine J Ce ?_;exact u)
theorem eO.rL (C:eO a ae aJ ak I t A)(u:Upd I Z ae (.list<|bm<|A.set 0 pt)):eO a ae aJ ak Z t (A.set 0 pt)/\Fr (b2 ae) (b2 a) No I Z:=⟨⟨u.keep C.bI C.bH (by intro X;cases X),u.at⟩,.lB u C.bI rfl⟩
theorem p4 {s:Nat}{cs:List Int}:(cZ w t s e cs cnt).length=(bk t s e).length:=xd
theorem rs (C:(bk t b e)[i]?=kZ xs)(av:(cZ w t b e A cnt)[i]?=kZ aC):aC=lr w xs (b7 t b e) (b8 t b e) (gp w A cnt (bk t b e).length i):=by unfold cZ at av;rw[ui,C] at av;exact(kZ.inj av).symm
theorem IL (R:jT t b e)(h:∀i,i<(bk t b e).length->(gp w A cnt (bk t b e).length i).length<=900/\bU (gp w A cnt (bk t b e).length i)):∀n∈cZ w t b e A cnt,bU n:=λn aO=>by obtain⟨i,aL⟩:=abP aO;have aG:=(xn.mp aL).1;rw[p4] at aG;have aw:=Lw aG;exact J (rs aw aL)<|Vh (R.dE _<|jI aw) (h i aG).2
theorem QX (H:a2 c)(a1:w="string"\/w="number"\/w="open"\/w="clear"\/w="close"\/w="delete")(C:eO cl bs bh ba I t xs)(aw:cS t)(ax:b<=t.length)(he:e<=t.length)(aj:t.length<900) (aB:I a=kZ (.list<|cP<|bk t b e))(Q:I ae=kZ (.list<|(g9 (bk t b e).length).map λi=> .str<|zs<|gp w A cnt (bk t b e).length i))(h:∀i,i<(bk t b e).length->(gp w A cnt (bk t b e).length i).length<=900/\bU (gp w A cnt (bk t b e).length i)) (p:a≠bs)(G:(aY<|cZ w t b e A cnt).length<=80000)(v:0<xs.length)(L:xs.length<=100) (ad:∀Z,Fr (b2 bs) (b2 cl) No I Z->eO cl bs bh ba Z (fC t b e<|cZ w t b e A cnt) (tN w t b e (cZ w t b e A cnt)<|xs.map<|gk<|d4 t b e (iW w t b e)<|cZ w t b e A cnt)->ab .none Z): uw (dI c 2 ab) [.ref cl,.str w,.int b,.int e,ak,aJ,.int (iW w t b e:Nat),.int (b7 t b e:Nat),.int (b8 t b e:Nat),.int (ef t b e:Nat),.aK,.ref a,.ref ae,aW] [] I:=by
 have R:=gH aw ax he;have av:∀a∈bk t b e,∀x∈a,0<=x:=λa aB x Q=>by have:=(R.dE a aB x Q).1;exact c4 14446839 this
 have g:=R.kv;have aG:=R.lt;have E:=R.fx;refine⟨⟨_,aB⟩,⟨_,Q⟩,oV (len:=(bk t b e).length) (λj=>[.str<|zs<|((bk t b e)[j]?).getD [],.str<|zs<|gp w A cnt (bk t b e).length j]) (λj=> .str<|zs<|((cZ w t b e A cnt)[j]?).getD []) (bC 3685571500313601 aj E) (λj Z x=>(dM _ _ (x _ _ aB) (x _ _ Q) ?_)) (λj Z K x bi bZ=>?_) λau U q aS aT=>?_⟩
 ·by_cases X:j<(bk t b e).length
  ·rw[if_pos X,qw,qw,BE X,Lw X];rfl
  ·rw[if_neg X,qw,w0<|pm X];rfl
 ·obtain⟨o,aw⟩:∃o,(bk t b e)[j]?=kZ o:=⟨_,Lw bi⟩;obtain⟨r,aO⟩:∃r,(cZ w t b e A cnt)[j]?=kZ r:=⟨_,Lw<|by refine J p4 ?_;exact bi⟩;have N:=R.tZ o<|jI aw;have a8:((bk t b e)[j]?).getD []=o:=by refine J aw ?_;rfl
  refine J a8<|⟨H.f 120,ca<|Ui H a1 (av o<|jI aw) (bC 1108035640322 aj N) (nf (h j bi).1<|by decide) g (bC 1108035640322 aj aG) λaH O=>?_⟩;have:=bZ aH O;rw[aO,rs aw aO] at this;exact this
 ·have S:aS q=kZ (.list<|cP<|cZ w t b e A cnt):=by exact J aT.at<|a6 (p4 (w:=w) (cs:=A) (cnt:=cnt))<|J (wi (f:=λa=>V.str<|zs a)) rfl
  have aR:bp I aS:=U.trans aT.ext;have bH:eO cl bs bh ba aS (t.take (ef t b e)++aY (bk t b e)++t.drop (gx t b e)) xs:=(congrArg (λx=>eO cl bs bh ba aS x xs) R.eq).mp<|C.ext aR;have bF:=tE R;refine⟨H.f 119,?_⟩;have an:=HY (ab:=λu Z=>CS (dI c 2 ab) [.ref cl,.str w,.int b,.int e,ak,aJ,.int (iW w t b e:Nat),.int (b7 t b e:Nat),.int (b8 t b e:Nat),.int (ef t b e:Nat),.ref q,.ref a,.ref ae,aW] [] Z) H bH (aR _ _ aB) S p4.symm R.ne av (λn aO x Q=>?_) (f:=b7 t b e) (aD:=iW w t b e) (by unfold iW;split<;>omega) (λi o n ai ao _=>rs ai ao▸Iq g) (by rw[qC,BU] at*;exact dH 93474379293993855011896498584277946555467905 aj G bF) (bC 3685571500317697 aj E) L λaM a7 d=>?_
  ·rw[R.p2] at an;exact ca an
  ·have:=IL R h n aO x Q;exact abT (by decide) this.1
  ·have d:eO cl bs bh ba aM (fC t b e<|cZ w t b e A cnt) (xs.map<|gk<|d4 t b e (iW w t b e)<|cZ w t b e A cnt):=by rw[R.p2] at d;exact d
   have F:=(Fr.cv aR).trans a7;have bg:∀{f:Int->Int},(xs.map f).length=xs.length:=aa0 _;by_cases am:w="open"
   ·subst am;exact eqs<|kO rfl<|zC<|ek d.bH rfl<|AG d.bI (by refine J bg ?_;exact v) (by refine J bg ?_;exact L) λay u=>eqs<|cr (by decide)<|ad ay (F.trans (d.rL u).2) (d.rL u).1
   ·refine eqs (cr am<|eqs<|cx (λz=>?_) λz=>?_)
    ·subst z;have s:q≠bs:=λX=>by have:=aT.1;rw[X,U _ _ C.bI] at this;cases this
     have aX:cZ "string" t b e A cnt≠[]:=λX=>R.ne<|gB.mp (by refine a6 (p4 (w:="string") (cs:=A) (cnt:=cnt))<|J X ?_;rfl);have al:=pZ aX;have ag:0<(bk t b e).length:=abC.mpr R.ne;have l:=oT R.ne;have k:=R.tZ _<|jI l;refine⟨rfl,tI (a7.list S s) (b1 4071740136256648942176702593 G al)<|hx (bM 5497571527166977 G)<|dt<|ii (a7.list (aR _ _ aB) p) (Jl (u:=.str<|zs<|(bk t b e).getLastD []) (n:=(bk t b e).length) (by refine J qw<|J l ?_;rfl) (aa0 _) ag<|by refine J (aa0 _) ?_;exact bC 3685571500313601 aj E)<|hx (bC 1108035636225 aj k)<|dC<|vZ (m:=(((((bk t b e).getLastD []).length -b8 t b e:Nat)):Int)) (me 48542594212517186057 rfl rfl)<|dC<|ek d.bH rfl<|AG d.bI (by refine J bg ?_;exact v) (by refine J bg ?_;exact L) λay u=>?_⟩;exact ad ay (F.trans (d.rL u).2) (d.rL u).1
    ·have:=ad aM F;unfold tN at this;rw[if_neg am,if_neg z] at this;exact this d
theorem I3 (ai: -3<=pt)(ao:pt<=200):pt.natAbs.log2<1920:=by exact il (nf (LL _)<|zG ai ao) (by decide)
theorem KC (D:A.length<=900/\bU A)(ai: -3<=cnt)(ao:cnt+e<=200)(aL:i<e):(gp w A cnt e i).length<=900/\bU (gp w A cnt e i):=by
 unfold gp;split
 ·have:=tt (w:=cnt+e) (n:=cnt+i) (dZ 207494333381815 ai) (gF 18625790782568702087 ao aL) (dZ 207494333381815 ai) ao;refine⟨?_,ZC this.1⟩;unfold ry fp;refine J (aa0 _) ?_;exact bM 30299782145 this.2
 ·exact D
theorem Uf (H:a2 c)(a1:w="string"\/w="number"\/w="open"\/w="clear"\/w="close"\/w="delete")(C:eO a ae aJ ak I t xs)(aw:cS t)(ax:aD<=t.length)(he:e<=t.length)(aj:t.length<900)
 (D:A.length<=900/\bU A)(ai: -3<=cnt)(ao:cnt+(bk t aD e).length<=200)(G:(aY<|cZ w t aD e A cnt).length<=80000)(v:0<xs.length)(L:xs.length<=100)
 (ad:∀Z,Fr (b2 ae) (b2 a) No I Z->eO a ae aJ ak Z (fC t aD e<|cZ w t aD e A cnt) (tN w t aD e (cZ w t aD e A cnt)<|xs.map<|gk<|d4 t aD e (iW w t aD e)<|cZ w t aD e A cnt)->ab .none Z):
 be c 3 (.ref 1373) [.ref a,.str w,.int aD,.int e,.str<|zs A,.int cnt] ab I:=by
 have R:=gH aw ax he
 have E:=R.fx
 have B:(cP<|bk t aD e).length=(bk t aD e).length:=aa0 _
 refine O4 (n:=2) H ⟨H.f 118,ca<|zg H C aw ax he (bM 70933987526385153 aj) λfM r au U bu aB fx=>eY bu rfl<|gd aB ?_⟩
 intros cd;have p:r≠ae:=λX=>by replace fx:=C.bI▸X▸fx;cases fx
 refine oV (len:=(cP<|bk t aD e).length) (λj=>[((cP<|bk t aD e)[j]?).getD .aK]) (λ_=> .str<|zs A) (gF 4786649184381166881793 ai ao B) (λj Z x=>(bb _ (x _ _ aB) sW.symm)) (λj Z K x bi bZ=>bZ Z .refl) λaS aR bF aM a9=>?_
 have bj:bp I aM:=(U.trans aR).trans a9.ext
 refine fy rfl rfl λu ay bf bq a3=>?_
 have aN:bp au ay:=(aR.trans a9.ext).trans bf
 have q:=C.ext<|bj.trans bf
 have tail:∀{bh:az} {bF:Addr} {l:V},bp ay bh->bh bF=kZ (.list<|(g9 (bk t aD e).length).map λi=> .str<|zs<|gp w A cnt (bk t aD e).length i)->uw (dI c 2 ab) [.ref a,.str w,.int aD,.int e,.str<|zs A,.int cnt,.int (iW w t aD e:Nat),.int (b7 t aD e:Nat),.int (b8 t aD e:Nat),.int (ef t aD e:Nat),.aK,.ref r,.ref bF,l] [] bh:=λ{bh bF l} x Q=> QX H a1 (q.ext x) aw ax he aj (x _ _<|aN _ _ aB) Q (λi aL=>KC D ai ao aL) p G v L λZ F g=>ad Z ((Fr.cv<|(bj.trans bf).trans x).trans F) g
 have d:xJ (dI c 2 ab) [.ref a,.str w,.int aD,.int e,.str<|zs A,.int cnt,.aK,.int (b7 t aD e:Nat),.int (b8 t aD e:Nat),.int (ef t aD e:Nat),.aK,.ref r,.aK,.aK] [.int (iW w t aD e:Nat),.ref bF] ay:=by
  intros al;refine fy rfl rfl λam bh bD y bE=>eY bE rfl<|eqs<|cx (λX=>?_) λX=>?_
  ·intros S;have k:=bD _ _<|aN _ _ aB;have h:=(rz (n:=cnt+(bk t aD e).length) (dZ 207494333381815 ai) ao).2;refine li k (by refine J B ?_;exact dZ 8937965690765655042 ai ao)<|jq (m:=cnt+(bk t aD e).length) (J B rfl) ⟨I3 (dZ 207494333381815 ai) ao,il h<|by decide,li k (by refine J B ?_;exact dZ 8937965690765655042 ai ao) ?_⟩;intros s;refine J B ?_;refine m6 (dZ 8937965690765642753 ai ao)<|oV (len:=(bk t aD e).length) (λj=>[.int<|0+1*(j:Nat)]) (λj=> .str<|zs<|gp w A cnt (bk t aD e).length j) (dZ 8937965690765642753 ai ao) (λj Z x=>rfl) (λj Z K x bi bZ=>?_) λbv bL M bO aI=>tail ((bD.trans bL).trans aI.ext) aI.at;have ap:=bZ Z .refl;have a8:gp w A cnt (bk t aD e).length j=fp (nT (cnt+(bk t aD e).length)<|cnt+j):=by unfold gp;refine J (if_pos X) ?_;rfl
   replace ap:=(g7<|Lb _)▸a8▸ap;have o:=(rz (n:=cnt+j) (dZ 207494333381815 ai)<|gF 18625790782568702087 ao bi).2;have T:=(tt (w:=cnt+(bk t aD e).length) (n:=cnt+j) (dZ 207494333381815 ai) (gF 18625790782568702087 ao bi) (dZ 207494333381815 ai) ao).2;refine jq (m:=cnt+(j:Nat)) (Ur 722838735626928265) ⟨I3 (dZ 207494333381815 ai)<|gF 18625790782568702087 ao bi,rfl,?_,il o<|by decide,?_,ap,?_⟩
   ·exact qG.mpr<|il h (by decide:3<1000)
   ·exact w9 (by decide:(-1000:Int)<0)<|oh _
   ·refine J wT<|nf (?_:(nT (cnt+(bk t aD e).length)<|cnt+j).cps.size<=7) (by decide);refine a6 aaU ?_;exact T
  ·refine tail bD<|J (bD _ _<|bf _ _ a9.at)<|J B<|congrArg (λz=>kZ<|Mine.O.list z)<|qF λi _=>?_;unfold gp;exact J (if_neg X) rfl
 refine mW (b:=["open","close","number"].any (· ==w)) a3 (bb ["open","close","number"] rfl rfl) ?_
 cases X:["open","close","number"].any (· ==w) with
 |true=>have e:iW w t aD e=b7 t aD e:=if_pos X;replace d:=e▸d;exact d
 |false=>have e:iW w t aD e=b8 t aD e:=if_neg (by refine J X ?_;decide);replace d:=e▸d;exact d
noncomputable def mid (M:List (List Int))(t b:Nat):List (List Int):=(M.take<|b+1).drop t
theorem VX {M:List (List Int)}(ai:e<=b):M.take e++mid M e b++M.drop (b+1)=M:=by unfold mid;have:M.take e=(M.take<|b+1).take e:=J abm<|J (ke<|bC 270342145 ai) rfl;exact J this<|J (rV _ _)<|J (rV _ _) rfl
theorem IB {t:Nat}(ao:b<h.length):(mid h t b).length=b+1 -t:=by unfold mid;refine J BU<|J qC ?_;exact ff 73934961049263702537281795 ao rfl rfl rfl
theorem zB {M:List (List Int)}(ai:e<=b)(ao:b<M.length):mid M e b≠[]:=λX=>by have:=IB (t:=e) ao;rw[X,uc] at this;exact b1 3685722681835855 ai this rfl
theorem VW (C:A∈mid h e b):A∈h:=BX<|od C
theorem ZT {M:List (List Int)}(ai:e<=b)(ao:b<M.length):aY M=eu (M.take e)++aY (mid M e b)++gh (M.drop<|b+1):=by
 conv=>lhs;rw[<-VX (M:=M) ai]
 exact TS<|zB ai ao
theorem VU {M:List (List Int)}{t b:Nat}{a:List Int}(ai:t<=b)(aA:M[b]?=kZ a):dj 0 M b+a.length=(eu (M.take t)++aY (mid M t b)).length:=by
 have ao:=(xn.mp aA).1;have a8:=qQ (lo:=0) aA;have bo:=rd<|zB (M:=M) ai ao;refine J nb<|J td ?_;have c2:dj 0 M (b+1)=dj 0 M t+((mid M t b).map λr=>r.length+1).sum:=by
  unfold dj mid;conv=>lhs;rw[<-rV t (M.take<|b+1),qB,B8,abm,ke (by exact bC 270342145 ai:t<=b+1)]
  exact lp 1166218923907
 exact ff 25537603200724400783393034371 a8 bo c2
theorem FW (h0:h≠[]):dj 0 h h.length=(aY h).length+1:=by unfold dj;refine J oe<|J (rd h0) ?_;exact dG 3971
theorem MM {M:List (List Int)}:∀{k:Nat},k<=M.length->dj 0 M k<=dj 0 M M.length:=by
 intro k ap;unfold dj;have:M.length=k+(M.length -k):=b1 17751117797379 ap rfl;refine J oe ?_;conv=>rhs;rw[<-rV k M,qB,B8]
 exact lp 4445441921
theorem MN (C:h[i]?=kZ aC):dj 0 h i+aC.length<=(aY h).length:=by
 have aL:=(xn.mp C).1;have h0:h≠[]:=λe=>by rw[e] at aL;simp at aL
 have ai:=qQ (lo:=0) C;have ao:=FW h0;have a7:=MM (M:=h) (k:=i+1) aL;exact dH 316936411322823254085761 ai ao a7
def kt (M:List (List Int))(i:Nat):Nat:=dj 0 M i+(M[i]?.getD []).length
theorem qU (C:h[i]?=kZ A):kt h i=dj 0 h i+A.length:=by unfold kt;refine J C ?_;rfl
theorem GM {M:List (List Int)}(h0:M≠[]):kt M (M.length -1)=(aY M).length:=by have aP:=abC.mpr h0;obtain⟨r,aB⟩:∃r,M[M.length -1]?=kZ r:=⟨_,Lw<|by exact bC 897734091010 aP rfl⟩;have ai:=qQ (lo:=0) aB;have ao:=FW h0;replace ai:=(by exact bC 229819927351427 aP rfl:M.length -1+1=M.length)▸ai;refine J (qU aB) ?_;exact bS 242704561778044571779 ai ao
theorem Q3 {M:List (List Int)}(C:i+1<M.length):kt M i<(aY M).length/\kt M i+1=dj 0 M (i+1):=by obtain⟨r,aB⟩:∃r,M[i]?=kZ r:=⟨_,Lw<|bC 487072002 C⟩;obtain⟨g3,g⟩:∃r,M[i+1]?=kZ r:=⟨_,Lw C⟩;have ai:=qQ (lo:=0) aB;have ao:=MN g;exact J (qU aB)<|⟨dH 41757887054446989442 ai ao,b1 58837625423857795 ai⟩
theorem aan {M:List (List Int)}(aO:mI M){i:Nat}(aL:i<M.length):∀n,d7 (aY M) (kt M i) n=kt M (min (i+n)<|M.length -1):=by
 intro h;induction h with
 |zero=>refine J (xa _)<|J (ke<|by exact b1 902297559297 aL rfl) ?_;rfl
 |succ n D=>
  have D:=D;have h0:M≠[]:=λX=>by replace aL:=X▸aL;simp at aL
  refine J (by exact rfl:d7 (aY M) (kt M i) (n+1)=if d7 (aY M) (kt M i) n<(aY M).length then cN (aY M) (d7 (aY M) (kt M i) n+1) else d7 (aY M) (kt M i) n)<|J D ?_;by_cases X:i+n<M.length -1
  ·refine J (ke<|by exact b1 141870370945 X)<|J (ke<|by exact b1 36318827610241 X) ?_;obtain⟨ai,ao⟩:=Q3 (M:=M) (i:=i+n) (by exact bS 15147066832744155266 X rfl);obtain⟨g3,g⟩:∃r,M[i+n+1]?=kZ r:=⟨_,Lw<|by exact bS 15147066832744155266 X rfl⟩;refine J (if_pos ai)<|J ao ?_;have:=H8 aO g<|BK _;rw[xa] at this;exact J this<|J (by exact lp 14364666069123:i+(n+1)=i+n+1)<|J (qU g) rfl
  ·exact J (mx<|by exact b1 8996919297 X)<|J (mx<|by exact b1 2303396943873 X)<|J (GM h0)<|J (if_neg<|by exact dG 4) rfl
theorem Xy (h0:h≠[]):∀{k:Nat},k<=(aY h).length->∃i aC j,h[i]?=kZ aC/\j<=aC.length/\k=dj 0 h i+j:=by
 induction h with
 |nil=>exact(h0 rfl).elim
 |cons r h D=>
  intro k ap;by_cases X:k<=r.length
  ·exact(g6 (0) r k rfl X<|by unfold dj;simp)
  ·have aX:h≠[]:=λz=>by subst z;exact X ap
   rw[ra aX,nb,hC] at ap;obtain⟨i,aC,j,ai,ao,a7⟩:=D aX (k:=k -(r.length+1))<|bS 15240750486387822849 ap rfl;refine(g6 (i+1) aC j ai ao ?_);unfold dj at a7⊢;exact J LW<|J n8<|J LY<|dH 265574139253161187473952166873091 X a7 rfl
structure Mx (t:List Int)(k N:Nat):Prop where
 own:cb t k N=(dW (t.drop (c5 t k))).take N
 aL:(cb t k N).length<N->gK t k N=t.length
 sp:t.take (c5 t k)++aY (cb t k N)++t.drop (gK t k N)=t
 cw:(t.take (c5 t k)).length=c5 t k
theorem KZ (aw:cS t)(ap:e<=t.length)(G:0<b):Mx t e b:=by
 have aO:mI (dW t):=mI.of<|tM _ _ rfl aw;have bi:aY (dW t)=t:=y6 _ _ rfl;have aX:dW t≠[]:=AE;generalize dW t=M at*;subst bi;obtain⟨i,aC,j,aB,bi,bn⟩:=Xy aX ap;have aL:=(xn.mp aB).1;have a:c5 (aY M) e=dj 0 M i:=by refine J bn ?_;exact UF aO aB bi
 have h:cN (aY M) e=kt M i:=by refine J bn<|J (qU aB) ?_;exact H8 aO aB bi
 obtain⟨m,hm⟩:∃m,m=min (i+(b -1)) (M.length -1):=⟨_,rfl⟩;have f:i<=m:=ff 62079436862385920418049 aL hm rfl rfl;have aE:m<M.length:=ff 61784289520156251660546 aL hm rfl rfl;obtain⟨k,g⟩:∃r,M[m]?=kZ r:=⟨_,Lw aE⟩;have c:gK (aY M) e b=kt M m:=by unfold gK;exact J h<|J (aan aO aL _)<|a6 hm rfl
 have rm:=VU (M:=M) f g;have fD:=ZT (M:=M) f aE;have d:cb (aY M) e b=mid M i m:=by
  unfold cb;refine J c<|J a<|J (qU g)<|J rm<|a6 td ?_;conv=>lhs;rw[fD]
  exact J B3<|J abt<|AD (zB f aE) λr aB=>aO r<|VW aB
 have cr:(aY M).take (dj 0 M i)=eu (M.take i):=by have:=Kh aB<|BK _;rw[w8,Bs,xa] at this;exact this
 refine⟨?_,λC=>?_,?_,?_⟩
 ·have hd:(aY M).drop (dj 0 M i)=aY (M.drop i):=by have:=GI aB<|BK _;rw[kW,xa] at this;exact J this<|J (yx aB)<|J HF rfl
  refine J d<|J a<|J hd<|J (AD (λX=>by rw[yx aB] at X;cases X) λr aB=>aO r<|od aB) ?_;unfold mid;refine J kX<|wZ λx=>J abu<|J abu ?_;by_cases ai:x<m+1 -i
  ·exact J (if_pos ai)<|J (if_pos<|tk 67952447051107594351106122619756802 G hm ai rfl rfl rfl) rfl
  ·refine J (if_neg ai) ?_;split
   ·exact J abL<|J (w0<|H4 4773000906684393107056187496077245235432921089 hm ai ‹_› rfl rfl rfl rfl) rfl
   ·rfl
 ·rw[d,IB aE] at C;exact J c<|J (show m=M.length -1 by exact hN 1051728465728747336096993521923 hm C rfl rfl rfl)<|J (GM aX) rfl
 ·refine J a<|J cr<|J d<|J c<|J (qU g)<|J rm ?_;conv=>rhs;rw[fD]
  exact J fD<|J abt rfl
 ·exact J a<|J cr<|J td rfl
theorem GC (C:I a=kZ (.list aa))(an:I l=kZ (.list []))(aX:a≠l):e0 I 1 (.ref a) (.ref l) (decide<|aa=[]):=by
 cases aa with
 |nil=>exact .zn (λq=>true) aX C an rfl (λj u w C=>bY C) rfl
 |cons u aa=>exact .of (.len aX C an λX=>(by cases X)) rfl
theorem WN (C:I a=kZ (.list aa))(an:I l=kZ (.list []))(aX:a≠l)(ad:ab (.bool<|decide<|aa=[]) I):oEq (.ref a) (.ref l) ab I:=(dM (1) _ (by decide) (GC C an aX) ad)
theorem I7 (C:I a=kZ (.list aa))(an:I l=kZ (.list []))(aX:a≠l)(ad:ab (.bool (!decide (aa=[]))) I):i6 (.ref a) (.ref l) ab I:=(dM (1) _ (by decide) (GC C an aX) ad)
theorem QA:cut By (kZ (-1)) aw=aw.take (aw.length -1):=by
 have:Lr aw.length (-1)=aw.length -1:=by have:=clipAt_cast aw.length (-1);rw[if_pos<|by decide] at this;exact Ux 16644464290474720881236849103107 this rfl rfl rfl
 unfold cut;show(aw.drop 0).take (Lr aw.length (-1) -0)=_;exact J this<|J kW<|J (LI _) rfl
theorem hR:(cP h).length=h.length:=aa0 _
theorem JV {b:List (List Int)}:cP h++cP b=cP (h++b):=(qB ..).symm
theorem JX:(cP h).take e=cP (h.take e):=(acl ..).symm
theorem Ze:(cP h).drop e=cP (h.drop e):=(r9 ..).symm
theorem wA (C:e<=100000):e<=gW:=by refine J wT ?_;exact nf C (by decide)
theorem J8 (C:(aY h).length<=e):(h.map (·.length)).sum+h.length<=e+1:=by
 by_cases X:h=[]
 ·refine J X ?_;simp
 ·have:=pZ X;exact bS 243847546010811764865 C this
theorem XZ {F M:List (List Int)}(C:eO bs N bL bh I t A)(E:I ae=kZ (.list<|cP<|F.take e))(aF:I a=kZ (.list<|cP<|F.drop e))(P:I cl=kZ (.list<|cP M))(d:F.length=M.length)(G:M≠[]) (aB:M.length<=61)(al:∀r∈M,r.length<=60)(bi:(aY F).length<=80000)(v:0<A.length)(L:A.length<=100) (ad:∀Z,bp I Z->∀D,Upd Z D N (.list<|bm<|A.set 0<|(low:Int)+((aY<|F.take<|M.length -1).length+(if 1<M.length then 1 else 0):Nat)+(aD+(M.getLastD []).length:Nat))->ab .none D): xL (dI c 2 ab) [.ref bs,.ref cl,.int aD,.ref a,ak,.int low,.ref ae,aW,ba] [] I:=by
 have S:=abC.mpr G;have K:(F.take e).length<=61:=by refine J qC ?_;exact bS 85690172726045697 d aB rfl
 have g:(F.drop e).length<=61:=by refine J BU ?_;exact bS 220780569361116161 d aB rfl
 refine⟨rfl,qd E aF (wA<|by refine J hR<|J hR ?_;exact bC 66447799831236737 K g) λaJ au s=>?_⟩;have a8:au aJ=kZ (.list<|cP F):=J s.at<|J JV<|J (rV _ _) rfl;refine(c7 _ a8 (wA<|by refine J hR ?_;exact bC 16222376889345 d aB) λa4 aS aT=>?_);have bo:aS a4=kZ (.list<|cP<|F.take<|M.length -1):=J aT.at<|J QA<|J hR<|J JX<|J d rfl;refine dA rfl rfl λbx aM bj a9 bn=>qd (bj _ _ bo) bn (wA<|by refine J hR<|J qC ?_;simp;exact bS 1437642536901268712136193 d aB rfl) λbN ay bq=>?_;have aQ:ay bN=kZ (.list<|cP<|F.take (M.length -1)++[[]]):=by refine J bq.at ?_;exact congrArg (λz=>kZ<|Mine.O.list z)<|JV (b:=[[]])
 have bf:bp I ay:=((s.ext.trans aT.ext).trans bj).trans bq.ext;have o:(aY<|F.take (M.length -1)++[[]]).length=(aY<|F.take<|M.length -1).length+(if 1<M.length then 1 else 0):=by
  refine J oR ?_;by_cases X:F.take (M.length -1)=[]
  ·refine J (if_pos X)<|J X ?_;have:=congrArg xc X;rw[qC,uc] at this;refine J (if_neg<|bS 240046700666361557204 d this rfl rfl) ?_;rfl
  ·refine J (if_neg X)<|J nb ?_;have:M.length -1≠0:=λz=>X (by refine J z ?_;rfl);refine J (if_pos<|bC 14299541074130 this rfl) ?_;rfl
 have ag:=@re F<|M.length -1;have l:=oT G;have k:=al _<|jI l;have bR:=C.ext bf;have f:(if 1<M.length then 1 else 0)<=1:=by split;exact nu _;exact BK _
 refine tI aQ (nf (J8<|nu _)<|by refine J o ?_;exact b1 6044643820961856455326107777 f ag bi)<|hx (by refine J o ?_;exact b1 23611889925632251778568321 f ag bi)<|dt<|dt<|ii (bf _ _ P) (Jl (u:=.str<|zs<|M.getLastD []) (n:=M.length) (by refine J qw<|J l ?_;rfl) hR S<|by refine J hR ?_;exact bM 3959491585 aB)<|hx (bM 738266113 k)<|jq (m:=(low:Int)+((aY<|F.take<|M.length -1).length+(if 1<M.length then 1 else 0):Nat)+(aD+(M.getLastD []).length:Nat)) (by refine J o ?_;exact H3 5351036366243966323615523833993)<|ek bR.bH rfl<|AG bR.bI v L λD u=>ad ay bf D u
theorem zO (C:eO ae cl aJ ak I t A)(x:bp I Z)(n:Z a=By):a≠cl:=λX=>by have:=x.none n;rw[X,C.bI] at this;cases this
theorem HX (H:a2 c)(C:eO cl bs aJ ak I t xs)(aw:cS t)(ap:b<=t.length)(bq:xs[0]?=kZ (b:Int))(P:I ae=kZ (.list<|cP h))(b0:ae≠bs)(aB:h.length<=61)(al:∀r∈h,bU r/\r.length<=60)(aj:t.length<=60)(L:xs.length<=100)
  (ad:∀Z,Fr (b2 bs) (b2 cl) No I Z->eO cl bs aJ ak Z (if h=[] then t else kS t b h) (if h=[] then xs else(xs.map<|gk<|n5 t b h).set 0 (mq t b h -1))->ab .none Z):be c 3 (.ref 1378) [.ref cl,.ref ae] ab I:=by
 have v:0<xs.length:=(xn.mp bq).1
 refine O8 (n:=2) H<|dA rfl rfl λhM ar aN bx R=>WN (aN _ _ P) R (λX=>by replace bx:=P▸(g7 X)▸bx;cases bx)<|cx (λe=>?_) λe=>?_
 ·have e:h=[]:=Ca.mp e
  have:=ad ar<|.cv aN
  rw[if_pos e,if_pos e] at this
  exact this<|C.ext aN
 have G:h≠[]:=λX=>e (by refine J X ?_;rfl)
 have a4:=abC.mpr G
 have bl:=KZ aw ap a4
 have m:=Bf ap a4
 have av:=aw.nn
 have ai:=C.ext aN
 have bX:ef t b b=c5 t b:=by unfold ef;exact J (abQ _) rfl
 have bW:b7 t b b=c9 t b:=by unfold b7;exact J (abQ _) rfl
 have ah:c9 t b<=60:=nf (BW ..)<|nf ap aj
 refine⟨H.f 118,ek ai.bH rfl<|ll (k:=0) ai.bI bq (bM 1543609345 L)<|ek ai.bH rfl<|ll (k:=0) ai.bI bq (bM 1543609345 L)<|ca<|zg H ai aw ap ap (bM 12386092858940929 aj) λfM r au U bu _ _=>eY bu rfl ?_⟩
 refine J bX<|J bW ?_
 have bT:=aN.trans U
 have ao:=C.ext bT
 refine ek ao.bH rfl<|nZ (bM 738266113 aj) ⟨rfl,JL (λx Q=>av x<|od Q) (by refine J BU ?_;exact b1 36306097867777 aj rfl) λbN aS aT=>?_⟩
 have bE:=bT.trans aT.ext
 refine li (bE _ _ P) (by refine J hR ?_;exact bM 3959503874 aB) ?_
 refine J hR ?_
 have b9:(cP<|dW<|t.drop<|c5 t b).length<=100000:=by refine J hR ?_;have:=@J2<|t.drop<|c5 t b;rw[BU] at this;exact bS 56663490072144841729 aj this rfl
 refine wF (k:=h.length) aT.at b9 λbA aM bj cc aI=>?_
 replace aI:=(g7 bl.own)▸JX▸aI
 have N:=bE.trans bj
 have q:(cU t b h).length=h.length:=qu
 have bY:bA≠bs:=zO C bE cc
 have bR:∀i:Nat,(((cb t b h.length)[i]?).getD []).length<=60:=λi=>by
  cases X:(cb t b h.length)[i]? with
  |none=>exact BK _
  |some o=>
   have:=vL<|jI X
   rw[tY,BU,qC] at this
   show o.length<=60;exact ff 6260666164305154092033 aj this rfl rfl
 have cd:∀o∈(cb t b h.length),bU o:=λo bt=>tM _ _ rfl (λx Q=>aw x<|BX<|od Q) o bt
 have bV:∀f∈(cU t b h),f.length<=120:=λf hf=>by
  obtain⟨i,aL⟩:=abP hf
  have aG:=(xn.mp aL).1
  replace aG:=q▸aG
  have af:=Lw aG
  have:=n4 (A:=t) (k:=b) af
  rw[aL] at this
  refine J (kZ.inj this)<|J rF ?_
  have:=bR i
  have:=(al _<|jI af).2
  exact bS 10847899480306338035877679233 ah ‹_› this rfl
 have W:(aY<|cU t b h).length<=61*121:=nf (y4 bV) (by refine J q ?_;exact uo _ aB)
 --ce h cj cf there
 refine⟨⟨_,aI⟩,⟨_,N _ _ P⟩,oV (len:=(cb t b h.length).length) (λj=>[.str<|zs<|((cb t b h.length)[j]?).getD [],.str<|zs<|(h[j]?).getD []]) (λj=> .str<|zs<|((cU t b h)[j]?).getD []) (bC 1107767135233 aB m.1) (λj Z x=>(dM _ _ (x _ _ aI) (x _ _<|N _ _ P) ?_)) (λj Z K x bi bZ=>?_) λay bf fx bh y=>?_⟩
 ·by_cases X:j<(cb t b h.length).length
  ·refine J (if_pos X)<|J qw<|J qw<|J (Lw X)<|J (Lw<|LS X m.1) ?_;rfl
  ·refine J (if_neg X)<|J qw<|J (w0<|pm X) ?_;rfl
 ·obtain⟨w,a1⟩:∃w,h[j]?=kZ w:=⟨_,Lw<|LS bi m.1⟩
  have a9:=(al _<|jI a1).2
  have aC:=bR j
  have a8:(h[j]?).getD []=w:=by refine J a1 ?_;rfl
  have g:=bZ Z .refl
  have bo:((cU t b h)[j]?).getD []=jD (((cb t b h.length)[j]?).getD []) (c9 t b) w:=by show((cU t b h)[j]?).getD []=_;refine J (n4 a1) ?_;rfl
  replace g:=bo▸g
  refine J a8 ?_
  generalize((cb t b h.length)[j]?).getD []=o at*
  have bg:(pad o<|c9 t b).length<=120:=by unfold pad;refine J nb<|J hA ?_;exact b1 9835285455422096281729 ah aC rfl
  refine⟨rfl,wn (bM 738270210 ah) (bM 738266114 aC)<|qm (l:=pad o<|c9 t b) (bM 515631025153 bg)<|i8 (by refine J qC ?_;exact bS 922781953029911089281 ah a9 rfl) ⟨rfl,wn (bM 738270210 ah) (bM 738266114 aC)<|nZ (l:=pad o<|c9 t b) (bM 515631025153 bg)<|i8 (by refine J nb<|J qC<|J BU ?_;exact dH 4121802535772779607495477889153 a9 bg rfl rfl) g⟩⟩
 have E:bh fx=kZ (.list<|cP<|(cU t b h).take (cb t b h.length).length):=by
  refine J y.at<|congrArg (λz=>kZ<|Mine.O.list z) (?_:_=Ch (λr=>V.str<|zs r) (B4 (cb t b h.length).length<|cU t b h))
  have:((cU t b h).take (cb t b h.length).length).length=(cb t b h.length).length:=by refine J qC ?_;exact bS 862438880776451 m.1 q rfl
  exact a6 (wi (f:=λr=>V.str<|zs r) (d:=[]) (aa:=(cU t b h).take (cb t b h.length).length))<|J this<|qF λi aL=>J abu<|J (if_pos<|Ls.mp aL) rfl
 have aH:=(N.trans bf).trans y.ext
 have bQ:=y.ext _ _<|bf _ _ aI
 refine li bQ (by refine J hR ?_;exact bC 1107767147522 aB m.1) ?_
 refine J hR<|wD (k:=(cb t b h.length).length) (aH _ _ P) (by refine J hR ?_;exact bM 3959491585 aB) λbP bv bL ci a7=>gd a7 ?_
 replace a7:=Ze▸a7
 have bJ:(h.drop (cb t b h.length).length).length=h.length -(cb t b h.length).length:=BU
 refine oV (len:=(cP<|h.drop (cb t b h.length).length).length) (λj=>[((cP<|h.drop (cb t b h.length).length)[j]?).getD .aK]) (λj=> .str<|zs<|(((cU t b h).drop (cb t b h.length).length)[j]?).getD []) (by refine J hR ?_;exact bS 221329508493495297 aB bJ rfl) (λj Z x=>(bb _ (x _ _ a7) sW.symm)) (λj Z K x bi bZ=>?_) λbO bw fr bz aV=>?_
 ·replace bi:=hR▸bi
  obtain⟨w,a1⟩:∃w,h[(cb t b h.length).length+j]?=kZ w:=⟨_,Lw<|dH 10224437063454850 bJ bi rfl⟩
  have a9:=(al _<|jI a1).2
  have a8:((cP<|h.drop (cb t b h.length).length)[j]?).getD .aK=.str (zs w):=by refine J qw<|J abL<|J a1 ?_;rfl
  have bo:(((cU t b h).drop (cb t b h.length).length)[j]?).getD []=dr (c9 t b) 32++w:=by
   refine J abL<|J (n4 a1)<|J (w0<|w2 ..) ?_
   show jD [] (c9 t b) w=_
   unfold jD pad
   simp
  have g:=bZ Z .refl
  replace g:=bo▸g
  exact J a8<|At (bM 738270210 ah)<|i8 (by refine J hA ?_;exact bC 12403779669069953 ah a9) g
 have aF:bz fr=kZ (.list<|cP<|(cU t b h).drop (cb t b h.length).length):=by
  refine J aV.at<|congrArg (λz=>kZ<|Mine.O.list z) (?_:_=Ch (λr=>V.str<|zs r) ((cU t b h).drop (cb t b h.length).length))
  have:((cU t b h).drop (cb t b h.length).length).length=(cP<|h.drop (cb t b h.length).length).length:=J hR<|J BU<|J BU<|J q rfl
  exact a6 (wi (f:=λr=>V.str<|zs r) (d:=[]) (aa:=(cU t b h).drop (cb t b h.length).length))<|J this rfl
 have ba:=((aH.trans bL).trans bw).trans aV.ext
 have aQ:=(bL.trans bw).trans aV.ext
 have tail:∀{aO:az} {bB:V},Fr (b2 bs) (b2 cl) No bz aO->eO cl bs aJ ak aO (t.take (c5 t b)++aY (cb t b h.length)++(ij t b h++t.drop (gK t b h.length))) (xs.map<|gk λp=>if(cb t b h.length).length<h.length then dO ((gK t b h.length:Nat)+1) ((gK t b h.length:Nat)+1) (ij t b h).length p else p)->
   xM (dI c 2 ab) [.ref cl,.ref ae,.int (c9 t b:Nat),.ref fr,bB,.int (c5 t b:Nat),.ref fx,.ref bA,.int (b8 t b b:Nat)] [] aO:=λ{aO bB} ax a3=>by
  have bK:fx≠bs:=zO C (N.trans bf) y.1
  have b3:fr≠bs:=zO C ((aH.trans bL).trans bw) aV.1
  have aX:∀f∈cU t b h,bU f:=λf hf=>by
   obtain⟨i,aL⟩:=abP hf
   have aG:=(xn.mp aL).1
   replace aG:=q▸aG
   have af:=Lw aG
   have:=n4 (A:=t) (k:=b) af
   rw[aL] at this
   exact J (kZ.inj this)<|Aj (tX aw aj).1 (al _<|jI af).1
  have e4:∀{r:List Int},bU r->∀x∈r,0<=x:=λaP x Q=>abT (by decide) (aP x Q).1
  have b4:(aY<|cb t b h.length).length<=60:=by refine J tY<|J BU<|J qC ?_;exact dH 1451902927669111809 aj rfl rfl
  have ag:=@re (cU t b h) (cb t b h.length).length
  have aA:=@rb (cb t b h.length).length<|cU t b h
  have bp:(ij t b h).length<=61*121+1:=by
   unfold ij
   split
   ·refine J hC ?_;exact bC 5222170213215469844041431081603201 W aA
   ·exact BK _
  have B:=bl.cw
  have b6:(t.take<|c5 t b).length<=60:=by refine J qC ?_;exact b1 19817718426625 aj rfl
  refine⟨H.f 119,?_⟩
  have an:=HY (ab:=λu Z=>xL (dI c 2 ab) [.ref cl,.ref ae,.int (c9 t b:Nat),.ref fr,bB,.int (c5 t b:Nat),.ref fx,.ref bA,.int (b8 t b b:Nat)] [] Z) H a3 (ax.list (aQ _ _ bQ) bY) (ax.list (aQ _ _ E) bK) (by refine J qC ?_;exact bS 845946206294275 m.1 q rfl) (abC.mp m.2) (λr aB=>e4<|cd r aB) (λr aB=>e4<|aX r<|BX aB) (f:=c9 t b) (aD:=c9 t b) (nu _)
   (λi o w ai ao _=>?_) (by rw[nb,BU];exact tk 12949907094290239897789651349776320623079668205034402982659531938078951553 aj W b4 ag bp b6 rfl) (bC 1107767139329 aB m.1) (by rw[aa0];exact L) λbD bm aq=>?_
  ·rw[B] at an
   exact ca an
  ·have aG:=(xn.mp ai).1
   replace ao:=(if_pos aG)▸abu▸ao
   obtain⟨T,bd⟩:∃T,h[i]?=kZ T:=⟨_,Lw<|LS aG m.1⟩
   replace ao:=ai▸(n4 bd)▸ao
   exact a6 (kZ.inj ao)<|Iq (w:="number")<|nu _
  ·replace aq:=B▸JT▸aq
   have F:=ax.trans bm
   have aE:∀{f:Int->Int},(xs.map f).length=xs.length:=aa0 _
   refine XZ (F:=cU t b h) (M:=h) aq (F.list (aQ _ _ E) bK) (F.list aF b3) (F.list (ba _ _ P) b0) q G aB (λr aB=>(al r aB).2) (bM 9146637989970412713483777 W) (by refine J aE ?_;exact v) (by refine J aE ?_;exact L) λbF aW D u=>?_
   have bG:=aq.ext aW
   have:=ad D<|(((Fr.cv ba).trans F).trans<|.cv aW).trans (bG.rL u).2
   rw[if_neg G,if_neg G] at this
   refine this ?_
   have e:(c5 t b:Int)+((aY<|(cU t b h).take<|h.length -1).length+(if 1<h.length then 1 else 0):Nat)+(c9 t b+(h.getLastD []).length:Nat)=mq t b h -1:=by unfold mq tW;exact H3 68869724471646837902089545177933961
   exact a6 e<|(bG.rL u).1
 refine dA rfl rfl λa5 aO s S aU=>I7 (s _ _ aF) aU (λX=>by replace S:=aF▸(g7 X)▸S;cases S)<|mn (λX=>?_) λX=>?_
 ·have hm:(cb t b h.length).length<h.length:=qH λz=>X (by refine J (Cf<|by rw[q];exact z) ?_;rfl)
  have bn:=bl.aL hm
  have aZ:=ba.trans s
  have a3:=C.ext aZ
  have aA:=@rb (cb t b h.length).length<|cU t b h
  have ch:((cU t b h).drop (cb t b h.length).length).length<=61:=by refine J BU ?_;exact bS 225269196094827521 aB q rfl
  refine ek a3.bH rfl<|hx (bM 738266113 aj) ⟨H.f 117,rfl,tI (s _ _ aF) (nf (J8<|nu _)<|bC 75992578250813951758465 W aA)<|i8 (a:=[10]) (by rw[hC,uc];exact bC 19454100032208371637418113 W aA)<|ca<|HU H a3 (nu _) (nu _) (by rw[nb,hC,uc];exact b1 671186601588046367090835084312705 aj W aA) L λbD bm aq=>tail ((Fr.cv s).trans bm) ?_⟩
  have bk:ij t b h=[10]++aY ((cU t b h).drop (cb t b h.length).length):=by unfold ij;refine J (if_pos hm) ?_;rfl
  have a0:t.take (c5 t b)++aY (cb t b h.length)++(ij t b h++t.drop (gK t b h.length))=t.take t.length++([10]++aY ((cU t b h).drop (cb t b h.length).length))++t.drop t.length:=by
   have:=bl.sp
   rw[bn,B9,Bs] at this
   exact J bn<|J B9<|J (Bs _)<|J this<|J bk<|J oe<|J (Bs _) rfl
  refine J a0 ?_
  have am:(λp=>if(cb t b h.length).length<h.length then dO ((gK t b h.length:Nat)+1) ((gK t b h.length:Nat)+1) (ij t b h).length p else p)=dO ((t.length:Nat)+1) ((t.length:Nat)+1) (([10]++aY ((cU t b h).drop (cb t b h.length).length)).length:Nat):=funext λp=>by exact J (if_pos hm)<|J bn<|J bk rfl
  exact J am<|aq
 ·have hm:¬ (cb t b h.length).length<h.length:=λz=>by
   have:=congrArg xc X
   rw[hR,BU,q,uc] at this
   exact b1 1262488715855 z this rfl
  refine tail (.cv s) ?_
  have bk:ij t b h=[]:=by unfold ij;exact J (if_neg hm) rfl
  have am:(λp=>if(cb t b h.length).length<h.length then dO ((gK t b h.length:Nat)+1) ((gK t b h.length:Nat)+1) (ij t b h).length p else p)=λp=>p:=funext λp=>by exact J (if_neg hm) rfl
  have aR:xs.map (gk λp=>p)=xs:=(qF λp _=>by show p+1 -1=p;exact tj 14485657).trans<|uk _
  rw[am,aR,bk,Cg,bl.sp]
  exact C.ext<|ba.trans s
def iQ (eQ cl:Addr)(I:az):Prop:=∃ns f cnt,I eQ=kZ (.list [.ref cl,.int f,.int cnt])/\I cl=kZ (.list<|bm ns)/\ns.length<=1000
abbrev qM (eQ cl:Addr):Addr->Prop:=λa=>a=eQ\/a=cl
theorem iQ.ext (C:iQ ae cl I)(x:bp I Z):iQ ae cl Z:=tz C λns gy aA a b d=>(g6 ns gy aA (x _ _ a) (x _ _ b) d)
theorem mulL (ai:0<=pt)(ao:pt<18446744073709551616):IntMulOk pt last:=.of_left<|intBits_le_64 (w9 (by decide) ai) ao
theorem yE {a m:Int}(C:0<m):0<=a.fmod m/\a.fmod m<m:=⟨Int.fmod_nonneg_of_pos _ C,Int.fmod_lt_of_pos _ C⟩
theorem zf (H:a2 c)(C:iQ ae cl I)(hm:0<ew)(h:ew<1000000)(ad:∀(v:Nat) Z,v<ew->Fr (qM ae cl) No No I Z->iQ ae cl Z->ab (.int v) Z):be c 1 (.ref 1337) [.ref ae,.int ew] ab I:=by
 obtain⟨ns,f,cnt,hd,aU,aj⟩:=C;have p:(ew:Int)≠0:=bM 254741023 hm;have w:(0:Int)<ew:=bM 15862520 hm;have fin:∀{Z} (a:Int),Fr (qM ae cl) No No I Z->iQ ae cl Z->ab (.int<|a.fmod ew) Z:=λ{Z} a F D=>by obtain⟨t,q⟩:=yE (a:=a) w;obtain⟨v,aV⟩:=aaZ t;rw[aV] at q⊢;exact ad v Z (qG.mp q) F D
 refine O5 (n:=0) H<|cE (k:=0) (u:=.ref cl) hd rfl (c0 rfl)<|dA rfl rfl λhM au U s aI=>I7 (U _ _ aU) aI (λX=>by replace s:=aU▸(g7 X)▸s;cases s)<|mn (λe=>?_) λe=>?_
 ·cases ns with
  |nil=>exact(e rfl).elim
  |cons x ns=>
   have l:=U _ _ hd;have o:=U _ _ aU;have bF:(bm<|x::ns).length<2^62:=by refine J eb ?_;exact il aj (by decide)
   refine cE (k:=0) (u:=.ref cl) l rfl (c0 rfl)<|cE (k:=0) (u:=.int x) o rfl bF ?_;refine abx p<|abx (by omega)<|cE (k:=0) (u:=.ref cl) l rfl (c0 rfl)<|cw (k:=0) o (by refine J eb ?_;exact sb _) bF λaS j=>?_;have b:=j.keep o l (by intro X;cases X);have d:aS cl=kZ (.list<|bm<|x.fdiv ew::ns):=j.at;have g:Fr (qM ae cl) No No I aS:=(Fr.cv U).trans<|.lB j o<|.inr rfl;have r:(bm<|x.fdiv ew::ns).length<2^62:=by refine J eb ?_;exact il aj (by decide)
   refine cE (k:=0) (u:=.ref cl) b rfl (c0 rfl)<|cE (k:=0) (u:=.int<|x.fdiv ew) d rfl r<|qV<|cx (λ_=>cE (k:=0) (u:=.ref cl) b rfl (c0 rfl) ⟨ty_list d,rfl,_,_,d,by refine J eb ?_;exact aj,λaM i=>abx p<|fin _ (g.trans<|.lB i d<|.inr rfl) ?_⟩) λ_=>abx p<|fin _ g<|g6 _ _ _ b d aj;exact(g6 ns f cnt (i.keep d b<|by intro X;cases X) i.at (xi aj))
 ·have l:=U _ _ hd;refine cE (k:=2) (u:=.int cnt) l rfl (c0 rfl)<|cw (k:=2) l (p6 rfl) (c0 rfl) λaS j=>?_;have b:aS ae=kZ (.list [.ref cl,.int f,.int<|cnt+1]):=j.at;have g:Fr (qM ae cl) No No I aS:=(Fr.cv U).trans<|.lB j l<|.inl rfl;have d:aS cl=kZ (.list<|bm ns):=j.keep l (U _ _ aU) (by cases ns<;>(intro X;cases X));obtain⟨aJ,a4⟩:=yE (a:=(f.fmod 4294967291+2654435761*(cnt+1))) (m:=4294967291) (by decide);obtain⟨t,q⟩:=yE (a:=((f.fmod 4294967291+2654435761*(cnt+1)).fmod 4294967291*(f.fmod 4294967291+2654435761*(cnt+1)).fmod 4294967291+40503*(cnt+1)+7)) (m:=4294967279) (by decide);refine cE (k:=1) (u:=.int f) b rfl (c0 rfl)<|abx (by decide)<|cE (k:=2) (u:=.int<|cnt+1) b rfl (c0 rfl)<|abx (mulL (by decide)<|by decide)<|abx (by decide)<|abx (mulL aJ<|c4 1393796573409644975774078395390848912006664 a4)<|cE (k:=2) (u:=.int<|cnt+1) b rfl (c0 rfl)<|abx (mulL (by decide)<|by decide)<|abx (by decide)<|abx (mulL t<|c4 1393796569515422331872957673992976665091592 q)<|abx (by decide)<|abx (by decide)<|abx (by decide)<|abx p<|fin _ g<|g6 _ _ _ b d aj
theorem Io (aB:I a=kZ (.list<|bm xs))(aj:xs.length<=1000)(ax:∀x Z K,(∀y,K (.int y) Z)->ck (.int x::e7) K Z) (he:∀bw,bw.length=xs.length->fj (bm bw) I):km (.list a) ck e7 fj I:=by
 refine zp (λag Z=>Z=I/\∃bw:List Int,ag=bm bw) (by refine J eb<|J wT ?_;exact bM 469863425 aj) (AX rfl ([]) rfl) (λag Z C=>C.1▸aB) (λag Z u C aQ=>?_) λag Z C an=>?_
 ·obtain⟨rfl,bw,rfl⟩:=C;obtain⟨x,_,rfl⟩:=oK aQ;exact ax x Z _ λy=>(AX rfl (bw++[y])<|by unfold bm;refine J qB ?_;rfl)
 ·obtain⟨rfl,bw,rfl⟩:=C;exact he bw (by replace an:=eb▸eb▸an;exact an)
theorem Ue (H:a2 c)(dc:c.base.get? a=kZ (listOf ag b))(ba:bV (bm A) ag.toList)(aj:A.length<=1000) (ad:∀ae cl Z,bp I Z->I ae=By->I cl=By->ae≠cl->iQ ae cl Z->ab (.ref ae) Z):be c 1 (.ref 1330) [.ref a] ab I:=by
 have g:cut By (kZ 24) (bm A)=bm (A.take 24):=(u0 (aa:=bm A) (k:=24)).trans (acl ..).symm;refine O3 (n:=0) H<|c7 _ (e5 ag b dc ba) (by refine J eb<|J wT ?_;exact bM 469863425 aj) λp au s=>gd s.at ?_;have aP:au p=kZ (.list<|bm<|A.take 24):=J s.at<|a6 g rfl;have bg:(A.take 24).length<=24:=by refine J qC ?_;exact bC 307923487559169 rfl
 refine Io aP (bM 103314168833 bg) (λx Z K bZ=>?_) λbw G co aS aT=>?_
 ·exact abx (mulL (by decide)<|by decide)<|nS<|cx (λ_=>dt<|bZ _) λ_=>dt<|bZ _
 refine gd aT.at (Io aT.at (bC 284876826811393 bg G) (λx Z K bZ=>?_) λzs f cW aM a9=>?_)
 ·exact⟨by decide,by decide,by decide,λv aV=>abx (by refine J aV ?_;exact um<|Int.pow_pos<|by decide)<|bZ _⟩
 refine gd a9.at<|bJ ?_;intro m;have h:zs.length<=24:=b1 593836510539444391425 bg G f;refine(dM (λj ag Z=>Z=aM/\j<=zs.length/\ag.length<=j/\∃bw:List Int,ag=bm bw) zs.length (by refine J wT ?_;exact b1 2319673869294734337 bg G f) ⟨rfl,BK _,nu _,[],rfl⟩ λj ag Z C=>?_);obtain⟨rfl,bi,aH,d,rfl⟩:=C;refine⟨aH,bi,λe=>⟨(bb _ a9.at (by refine J e<|J ta<|J (w0<|nu _) ?_;rfl)),λcl ay bq=>?_⟩,λaG=>(bb ([.int zs[j]]) (bb _ a9.at (by refine J ta<|J (Lw aG) ?_;rfl)) ?_)⟩
 ·refine li (bq.ext _ _ a9.at) (by refine J eb ?_;exact b1 2319673869294713858 bg G f)<|abx (mulL (by decide)<|by decide)<|bb zs (bq.ext _ _ a9.at)<|dt<|abx (gV rfl) λae bh y=>?_;have aw:bp I ay:=((s.ext.trans aT.ext).trans a9.ext).trans bq.ext;refine ad ae cl bh (aw.trans y.ext) (aw.none y.1) ((s.ext.trans aT.ext).trans a9.ext|>.none bq.1) (λX=>by have:=y.1;rw[X,bq.at] at this;cases this)<|g6 d _ _ y.at (y.ext _ _ bq.at) ?_;replace aH:=eb▸aH;exact dH 63109726659660663753874433 bg G f aH e
 ·refine⟨by decide,by decide,by decide,λv aV=>Hh<|cx (λ_=>⟨rfl,aG,?_,d++[zs[j]],?_⟩) λ_=>⟨rfl,aG,abF aH,d,rfl⟩⟩
  ·refine J nb ?_;exact t4 aH
  ·unfold bm;refine J qB ?_;rfl
structure kl where
 O:Addr
 P:Addr
 L:Addr
 K:Addr
 eQ:Addr
 cl:Addr
def XL (aF:Addr->Prop)(W:kl):Addr->Prop:=λa=>aF a\/a=W.O\/a=W.P\/a=W.K\/a=W.eQ\/a=W.cl
def jn (W:kl):Addr->Prop:=λa=>a=W.P\/a=W.eQ\/a=W.cl
def jk (W:kl):Addr->Prop:=λa=>a=W.O\/a=W.K
def sv (aF:Addr->Prop)(I:az)(a:Addr)(M:List (List Int)):Prop:=aF a/\I a=kZ (.list<|cP M)
def mH (aF:Addr->Prop)(I:az)(p:Int×V)(X:Int×List (List Int)):Prop:=p.1=X.1/\∃a,p.2=.ref a/\aF a/\I a=kZ (.list<|cP X.2)
structure lO where
 aG:List Int
 sp:List Int
 last:List (List Int)
 fH:List (Int×List (List Int))
structure fi (aF:Addr->Prop)(W:kl)(I:az)(T:lO):Prop where
 bH:eO W.O W.P (.ref W.L) (.ref W.K) I T.aG T.sp
 cj:sv aF I W.L T.last
 bZ:∃a0,I W.K=kZ (.cu a0)/\cc (mH aF I) a0 T.fH
 hd:iQ W.eQ W.cl I
 wM:¬ aF W.O
 rP:¬ aF W.P
 wL:¬ aF W.K
 rQ:¬ aF W.eQ
 pf:¬ aF W.cl
 fJ:W.P≠W.eQ
 ic:W.P≠W.cl
 ro:W.eQ≠W.cl
 hI:eF aF I
 x4:∀a ae ah,aF a->I a≠kZ (.attrs ae ah)
variable{aR:Int×List (List Int)}
theorem mH.rn {p:Int×V}(C:mH aF I p aR)(af:∀a,aF a->L a)(ap:∀a aa,aF a->I a=kZ (.list aa)->au a=kZ (.list aa)):mH L au p aR:= let⟨e,a,a8,z,g⟩:=C;⟨e,a,a8,af a z,ap a _ z g⟩
def mL (aF:Addr->Prop)(I au:az):Addr->Prop:=λa=>aF a\/(I a=By/\∃aa,au a=kZ (.list aa))
variable{q:kl}{aZ:lO}
theorem fi.keep (C:fi aF q I aZ)(k:ds (XL aF q) I Z):fi aF q Z aZ:=by have ap:∀a aa,aF a->I a=kZ (.list aa)->Z a=kZ (.list aa):=λa aa z e=>k a _ (.inl z) e;obtain⟨a0,co,cW⟩:=C.bZ;obtain⟨ns,gy,aA,fa,ft,hH⟩:=C.hd;exact⟨⟨k _ _ (.inr<|.inl rfl) C.bH.bH,k _ _ (.inr<|.inr<|.inl rfl) C.bH.bI⟩,⟨C.cj.1,k _ _ (.inl C.cj.1) C.cj.2⟩,(bb a0 (k _ _ (.inr<|.inr<|.inr<|.inl rfl) co)<|cW.mono λ_ _ X=>X.rn (λ_ z=>z) ap),(g6 ns gy aA (k _ _ (.inr<|.inr<|.inr<|.inr<|.inl rfl) fa) (k _ _ (.inr<|.inr<|.inr<|.inr<|.inr rfl) ft) hH), C.wM,C.rP,C.wL,C.rQ,C.pf,C.fJ,C.ic,C.ro,λa z=>cO (C.hI a z) λo e=>⟨o,k a o (.inl z) e⟩,λa ae ah z e=>by obtain⟨o,aW⟩:=C.hI a z;have:=k a o (.inl z) aW;rw[e] at this;cases this;exact C.x4 a ae ah z aW⟩
variable{bG:lO}
theorem fi.step {N:Addr}(C:fi aF q I bG)(F:Fr (jn q) (jk q) No I Z)(af:∀a,aF a->D a)(aO:∀a,D a->aF a\/(I a=By/\∃aa,Z a=kZ (.list aa))) (bH:eO q.O q.P (.ref N) (.ref q.K) Z aZ.aG aZ.sp)(cj:sv D Z N aZ.last)(bZ:∃a0,Z q.K=kZ (.cu a0)/\cc (mH D Z) a0 aZ.fH)(hd:iQ q.eQ q.cl Z):fi D {q with L:=N} Z aZ:=by
 intros a8;have alive:∀a,(∃o,I a=kZ o)->¬ aF a->¬ D a:=λa A z c=>cO A λo e=>by
  rcases aO a c with X|⟨X,_⟩
  ·exact z X
  ·replace e:=X▸e;cases e
 obtain⟨a0,co,_⟩:=C.bZ;obtain⟨ns,gy,aA,fa,ft,_⟩:=C.hd;refine⟨bH,cj,bZ,hd,alive _ ⟨_,C.bH.bH⟩ C.wM,alive _ ⟨_,C.bH.bI⟩ C.rP,alive _ ⟨_,co⟩ C.wL,alive _ ⟨_,fa⟩ C.rQ,alive _ ⟨_,ft⟩ C.pf,C.fJ,C.ic,C.ro,λa z=>?_,λa ae ah z e=>?_⟩
 ·rcases aO a z with X|⟨_,aa,X⟩
  ·obtain⟨o,e⟩:=C.hI a X;exact F.hI a o e
  ·exact⟨_,X⟩
 ·rcases aO a z with X|⟨_,aa,X⟩
  ·obtain⟨o,aW⟩:=C.hI a X;have ax:xW (jn q) (jk q) No a o:=by
    cases o with
    |list aa=>exact λaS=>aS.elim (λaS=>C.rP<|aS▸X) λaS=>aS.elim (λaS=>C.rQ<|aS▸X) λaS=>C.pf<|aS▸X
    |cu ah=>exact λaS=>aS.elim (λaS=>C.wM<|aS▸X) λaS=>C.wL<|aS▸X
    |gD ah=>exact λaS=>aS.elim (λaS=>C.wM<|aS▸X) λaS=>C.wL<|aS▸X
    |attrs ae ah=>exact id
    |_=>trivial
   have:=F.keep a o aW ax;rw[e] at this;cases this;exact C.x4 a ae ah X aW
  ·replace X:=e▸X;cases X
theorem fi.kc (C:fi aF q I aZ)(F:Fr (jn q) (jk q) No I Z):∀a aa,aF a->I a=kZ (.list aa)->Z a=kZ (.list aa):=λa aa z e=>F.list e λX=>X.elim (λX=>C.rP<|X▸z) λX=>X.elim (λX=>C.rQ<|X▸z) λX=>C.pf<|X▸z
theorem fi.own (C:fi aF q I aZ)(F:Fr (b2 q.P) (b2 q.O) No I Z)(bH:eO q.O q.P (.ref q.L) (.ref q.K) Z t xs):fi aF q Z {aZ with aG:=t,sp:=xs}/\Fr (jn q) (jk q) No I Z:=by have ai:Fr (jn q) (jk q) No I Z:=F.mono (λa X=> .inl X) (λa X=> .inl X) λ_ X=>X;have fI:=C.kc ai;obtain⟨a0,co,cW⟩:=C.bZ;obtain⟨ns,gy,aA,fa,ft,hH⟩:=C.hd;exact⟨C.step (N:=q.L) ai (λ_ z=>z) (λa z=> .inl z) bH ⟨C.cj.1,fI _ _ C.cj.1 C.cj.2⟩ (bb a0 (F.cu co λX=>oY co C.bH.bH (nofun) X)<|cW.mono λ_ _ X=>X.rn (λ_ z=>z) fI)<|g6 ns gy aA (F.list fa<|us C.fJ) (F.list ft<|us C.ic) hH,ai⟩
theorem fi.draw (C:fi aF q I aZ)(F:Fr (qM q.eQ q.cl) No No I Z)(D:iQ q.eQ q.cl Z):fi aF q Z aZ/\Fr (jn q) (jk q) No I Z:=by have ai:Fr (jn q) (jk q) No I Z:=F.mono (λa X=>X.elim (λX=> .inr<|.inl X) λX=> .inr<|.inr X) (λa X=>X.elim) λ_ X=>X;have fI:=C.kc ai;obtain⟨a0,co,cW⟩:=C.bZ;exact⟨C.step (N:=q.L) ai (λ_ z=>z) (λa z=> .inl z) ⟨F.keep _ _ C.bH.bH id,F.list C.bH.bI λX=>X.elim C.fJ C.ic⟩ ⟨C.cj.1,fI _ _ C.cj.1 C.cj.2⟩ (bb a0 (F.cu co id)<|cW.mono λ_ _ X=>X.rn (λ_ z=>z) fI) D,ai⟩
theorem fi.ext (C:fi aF q I aZ)(x:bp I Z):fi (mL aF I Z) q Z aZ:=by have af:∀a,aF a->mL aF I Z a:=λ_ z=> .inl z;obtain⟨a0,co,cW⟩:=C.bZ;exact C.step (N:=q.L) (.cv x) af (λa z=>z) (C.bH.ext x) ⟨af _ C.cj.1,x _ _ C.cj.2⟩ (bb a0 (x _ _ co)<|cW.mono λ_ _ X=>X.rn af λa aa _ e=>x _ _ e)<|C.hd.ext x
theorem fi.YX (C:fi aF q I aZ)(u:Upd I Z q.O (.gD [("text",.str<|zs aZ.aG),("spots",.ref q.P),("rectangle",.ref l),("kept",.ref q.K)]))(an:sv aF I l h):fi aF {q with L:=l} Z {aZ with last:=h}/\Fr (jn q) (jk q) No I Z:=by have F:Fr (jn q) (jk q) No I Z:=.upd u C.bH.bH λs=>s<|.inl rfl;have fI:=C.kc F;obtain⟨a0,co,cW⟩:=C.bZ;obtain⟨ns,gy,aA,fa,ft,hH⟩:=C.hd;exact⟨C.step (N:=l) F (λ_ z=>z) (λa z=> .inl z) ⟨u.at,u.keep C.bH.bH C.bH.bI⟩ ⟨an.1,fI _ _ an.1 an.2⟩ (bb a0 (u.keep C.bH.bH co)<|cW.mono λ_ _ X=>X.rn (λ_ z=>z) fI)<|g6 ns gy aA (u.keep C.bH.bH fa) (u.keep C.bH.bH ft) hH,F⟩
theorem TW (aQ:∃a,u=.ref a/\aF a/\I a=kZ (.list<|cP h)):∀{ah:List (Int×V)} {U:List (Int×List (List Int))},cc (mH aF I) ah U->cc (mH aF I) (hv pt u ah) (hw pt h U):=by
 intro ah U C;have ai:ah.any (λn=>n.1=pt)=U.any (λn=>n.1=pt):=by
  induction ah generalizing U with
  |nil=>cases U with|nil=>rfl|cons=>exact C.elim
  |cons p ah D=>cases U with
   |nil=>exact C.elim
   |cons X U=>obtain⟨⟨e,_⟩,C⟩:=C;exact J rX<|J rX<|J (D C)<|J e rfl
 have ao:cc (mH aF I) (ah.map λn=>if n.1=pt then(n.1,u) else n) (U.map λn=>if n.1=pt then(n.1,h) else n):=by
  clear ai;induction ah generalizing U with
  |nil=>cases U with|nil=>trivial|cons=>exact C.elim
  |cons p ah D=>cases U with
   |nil=>exact C.elim
   |cons X U=>
    obtain⟨⟨e,av⟩,C⟩:=C;refine⟨?_,D C⟩;refine(?_:mH aF I (if p.1=pt then(p.1,u) else p) (if X.1=pt then(X.1,h) else X));by_cases aS:p.1=pt
    ·refine J (if_pos aS)<|J (if_pos<|e▸aS) ?_;exact⟨e,aQ⟩
    ·refine J (if_neg aS)<|J (if_neg<|e▸aS) ?_;exact⟨e,av⟩
 unfold hv hw;refine J ai ?_;split
 ·exact ao
 ·exact C.append ⟨⟨rfl,aQ⟩,trivial⟩
theorem fi.YW {d:List (List Int)}(C:fi aF q I aZ)(Q:I q.K=kZ (.cu aP))(u:Upd I Z q.K (.cu<|hv pt (.ref l) aP))(an:sv aF I l d):fi aF q Z {aZ with fH:=hw pt d aZ.fH}/\Fr (jn q) (jk q) No I Z:=by have F:Fr (jn q) (jk q) No I Z:=.tT u Q<|.inr rfl;have fI:=C.kc F;obtain⟨b,co,cW⟩:=C.bZ;replace co:=Q▸co;cases co;obtain⟨ns,gy,aA,fa,ft,hH⟩:=C.hd;exact⟨C.step (N:=q.L) F (λ_ z=>z) (λa z=> .inl z) ⟨u.keep Q C.bH.bH,u.keep Q C.bH.bI⟩ ⟨C.cj.1,fI _ _ C.cj.1 C.cj.2⟩ (bb _ u.at ((TW (c7 l rfl an.1 an.2) cW).mono λ_ _ X=>X.rn (λ_ z=>z) fI))<|g6 ns gy aA (u.keep Q fa) (u.keep Q ft) hH,F⟩
theorem ej.Uc (C:ej aq aH I ar ak af bW last bu)(F:Fr L D No I Z)(cj:∀a,L a->aH a)(O:∀a,D a->aH a)(bt:∀a,aF a->aH a\/I a=By)(W:eF aF Z)(m:∀a ae ah,aF a->Z a≠kZ (.attrs ae ah)):ej aq aF Z ar ak af bW last bu:=by
 have M:∀a,L a->dT aq bW aH a:=λa z=> .inr<|.inr<|cj a z;have d:∀a,(∃o,I a=kZ o)->¬ aH a->¬ aF a:=λa A z c=>cO A λo e=>(bt a c).elim z λX=>by replace e:=X▸e;exact bY e
 have h:∀a,dT aq bW aF a->dT aq bW aH a\/Z a=By\/I a=By:=λa z=>by
  rcases z with z|z|z
  ·exact .inl<|.inl z
  ·exact .inl<|.inr<|.inl z
  ·exact(bt a z).elim (λX=> .inl<|.inr<|.inr X) λX=> .inr<|.inr X
 have P:=C.R.fr F M;have j:=C.G.fr F (λX=>C.ct<|O _ X) M;have nm:∀{u:V} {xs:List (List Int)},eh (dT aq bW aH) I u xs->eh (dT aq bW aF) Z u xs:=λ{u xs} C=>cq C λa aa a8 bo c2 aQ=>
  have out:∀b,(∃o,I b=kZ o)->¬ dT aq bW aH b->¬ dT aq bW aF b:=λb A z c=>cO A λo e=>by
   rcases c with c|c|c
   ·exact z<|.inl c
   ·exact z<|.inr<|.inl c
   ·exact(bt b c).elim (λX=>z<|.inr<|.inr X) λX=>by replace e:=X▸e;exact bY e
  ⟨a,aa,a8,out a ⟨_,c2⟩ bo,F.list c2 λX=>bo<|M a X,aQ.mono λ_ _ C=>eK C λb i f g=>⟨b,i,out b ⟨_,g⟩ f,F.list g λX=>f<|M b X⟩⟩
 refine bg (C.G) λah k n=>?_;have l:∃o,I aq.cl=kZ o:=C.D _<|.inl rfl;have p:∃o,I aq.ls=kZ o:=⟨_,C.B.R.an⟩;refine⟨C.B.fr F (λX=>C.bh<|cj _ X) (λX=>C.ba<|cj _ X) (λX=>C.bL<|O _ X) id id id id,C.K,C.E.fr F (λX=>C.ce<|O _ X) id id id,λa z=>?_,nm C.R,(bb ah (F.cu k λX=>C.ct<|O _ X)<|n.mono λ_ _ C=>dp C λa8 C=>gG C λt r bo c2 aQ=>⟨a8,t,r,bo,F.tup c2,nm aQ⟩), C.N.fr F (λX=>C.cH<|O _ X) id λa e X=>(C.cI a e).1<|cj _ X,C.num,C.hM,C.nl,C.ex,C.ok,d _ l C.ba,d _ p C.bh,d _ ⟨_,C.B.R.hm.fU⟩ C.bL,d _ ⟨_,C.E.fG⟩ C.ce,d _ ⟨_,k⟩ C.ct,?_,λa e=>?_,m⟩
 ·rcases z with rfl|z|z
  ·exact cO l λo e=>F.hI _ o e
  ·obtain⟨o,e⟩:=C.D a<|.inr<|.inl z;exact F.hI _ o e
  ·exact W a z
 ·rcases C.N with⟨e,_⟩|aM
  ·exact d _ ⟨_,e⟩ C.cH
  ·refine j8 aM λr ga a aa aB=>hO aB λq e q=>?_;clear aM;exact d _ ⟨_,e⟩ C.cH
 ·obtain⟨o,X⟩:=C.D a<|.inr<|.inl e;exact hO (C.cI a e) λai ao a7=>⟨d a ⟨o,X⟩ ai,ao,a7⟩
structure dK (aq:hY)(aF:Addr->Prop)(W:kl)(I:az)(T:lO)(S:hZ):Prop where
 l:fi aF W I T
 w:fk aq (XL aF W) I S
theorem fi.KF (C:fi aF q I aZ):eF (XL aF q) I:=λa z=>by
 obtain⟨a0,co,cW⟩:=C.bZ;obtain⟨ns,gy,aA,fa,ft,hH⟩:=C.hd;rcases z with z|rfl|rfl|rfl|rfl|rfl
 ·exact C.hI a z
 ·exact⟨_,C.bH.bH⟩
 ·exact⟨_,C.bH.bI⟩
 ·exact⟨_,co⟩
 ·exact⟨_,fa⟩
 ·exact⟨_,ft⟩
theorem fi.KE (C:fi aF q I aZ):∀a ae ah,XL aF q a->I a≠kZ (.attrs ae ah):=λa ae ah z e=>by
 obtain⟨a0,co,cW⟩:=C.bZ;obtain⟨ns,gy,aA,fa,ft,hH⟩:=C.hd;rcases z with z|rfl|rfl|rfl|rfl|rfl
 ·exact C.x4 a ae ah z e
 ·replace e:=C.bH.bH▸e;cases e
 ·replace e:=C.bH.bI▸e;cases e
 ·replace e:=co▸e;cases e
 ·replace e:=fa▸e;cases e
 ·replace e:=ft▸e;cases e
theorem dK.to {b:kl}(C:dK aq aF b I bG ar)(F:Fr (jn b) (jk b) No I Z)(av:fi L q Z aZ)(bt:∀a,XL L q a->XL aF b a\/I a=By):dK aq L q Z aZ ar:=by
 obtain⟨l,mk,af,bW,last,bu,w⟩:=C;refine⟨av,mk,af,bW,last,bu,w.Uc F (λa X=>?_) (λa X=>?_) bt av.KF av.KE⟩
 ·exact X.elim (λX=> .inr<|.inr<|.inl X) λX=>X.elim (λX=> .inr<|.inr<|.inr<|.inr<|.inl X) λX=> .inr<|.inr<|.inr<|.inr<|.inr X
 ·exact X.elim (λX=> .inr<|.inl X) λX=> .inr<|.inr<|.inr<|.inl X
theorem dK.ext (C:dK aq aF q I aZ ar)(x:bp I Z):dK aq (mL aF I Z) q Z aZ ar:= C.to (.cv x) (C.l.ext x) λa z=>by
  rcases z with(z|z)|z
  ·exact .inl<|.inl z
  ·exact .inr z.1
  ·exact .inl<|.inr z
theorem dK.own (C:dK aq aF q I aZ ar)(F:Fr (b2 q.P) (b2 q.O) No I Z)(bH:eO q.O q.P (.ref q.L) (.ref q.K) Z t xs):dK aq aF q Z {aZ with aG:=t,sp:=xs} ar:=C.to (C.l.own F bH).2 (C.l.own F bH).1 λ_ z=> .inl z
variable{aw:hZ}
theorem dK.keep (C:dK aq aF q I aZ aw)(k:ds (XL aF q) I Z)(w:fk aq (XL aF q) Z ar):dK aq aF q Z aZ ar:=⟨C.l.keep k,w⟩
theorem nI (H:a2 c)(C:dK aq aF q I aZ ar)(hm:0<ew)(h:ew<1000000) (ad:∀(v:Nat) Z,v<ew->Fr (jn q) (jk q) No I Z->dK aq aF q Z aZ ar->ab (.int v) Z):be c 1 (.ref 1337) [.ref q.eQ,.int ew] ab I:= zf H C.l.hd hm h λv Z aV F D=>ad v Z aV (C.l.draw F D).2<|C.to (C.l.draw F D).2 (C.l.draw F D).1 λ_ z=> .inl z
theorem PV {s e n L:Int}(ai:1<=s)(ao:s<=e)(a7:e<=L+1)(aO:0<=n)(el:1<=pt)(dg:pt<=L+1):1<=dO s e n pt/\dO s e n pt<=L -(e -s)+n+1:=by
 unfold dO;split
 ·rename_i X;split
  ·exact⟨Uk 923945470167 aO el,vQ 3975393286927495316639879 dg X⟩
  ·exact⟨el,vQ 43054258472957733273962503 aO dg X⟩
 ·split
  ·exact⟨H1 45105588157771975127 ai aO ‹_›,vQ 256899043891833523397527703 dg⟩
  ·split
   ·exact⟨ai,H1 18738542001361895655431 a7 aO⟩
   ·exact⟨el,vQ 4405817004587343903557639 a7 aO ‹_›⟩
theorem YD {ax S:List Int}(bF:h.length=a5.length){f:Nat}(el:1<=pt)(dg:pt<=(ax++aY h++S).length+1):∀j,j<=h.length->1<=fB ax.length f aD h a5 j pt/\fB ax.length f aD h a5 j pt<=(ax++aY (h.take (h.length -j)++a5.drop (h.length -j))++S).length+1:=by
 intro j;induction j with
 |zero=>intro _;exact J (LI _)<|J oe<|J (Cf<|r5 bF.symm)<|J (Bs _)<|⟨el,dg⟩
 |succ j D=>
  intro bi;have D:=D<|bC 487067905 bi;have q:h.length -(j+1)<h.length:=b1 59251604073222402 bi rfl;obtain⟨o,aw⟩:∃o,h[h.length -(j+1)]?=kZ o:=⟨_,Lw q⟩;obtain⟨w,a1⟩:∃w,a5[h.length -(j+1)]?=kZ w:=⟨_,Lw<|bF▸q⟩;have bb:(ax++eu (h.take<|h.length -(j+1))).length=dj ax.length h (h.length -(j+1)):=by refine J nb ?_;exact sA
  replace D:=(v0 aw)▸(show h.length -j=h.length -(j+1)+1 by exact bS 165390229612128454383619 bi rfl rfl)▸D;refine J (zE a1) ?_;by_cases aX:w=o
  ·have:fB ax.length f aD h a5 (j+1) pt=fB ax.length f aD h a5 j pt:=(wv aw a1 aX _).symm;exact J this<|J aX<|D
  ·have:fB ax.length f aD h a5 (j+1) pt=o8 (ax++eu (h.take<|h.length -(j+1))).length (o.take f).length (o.drop aD).length o w (fB ax.length f aD h a5 j pt):=(ww aw a1 aX bb _).symm;refine J this ?_;unfold o8;have ai:=@tG (o.take f).length (o.drop aD).length o w;have ao:=@wk (o.take f).length o w;simp only[nb] at D⊢;have:=PV (s:=(((ax.length+(eu<|h.take<|h.length -(j+1)).length+fY (o.take f).length o w:Nat)):Int)+1) (e:=(((ax.length+(eu<|h.take<|h.length -(j+1)).length+o.length -ez (o.take f).length (o.drop aD).length o w:Nat)):Int)+1) (n:=((w.length -ez (o.take f).length (o.drop aD).length o w -fY (o.take f).length o w:Nat):Int)) (L:=((ax.length+((eu<|h.take<|h.length -(j+1)).length+o.length+(gh<|a5.drop<|h.length -(j+1)+1).length)+S.length:Nat):Int)) (lq 902220523735) (hN 5820737442083939405026822172634024583 ai.1 ao.1 rfl rfl) (hN 490872845980848097554277927559 rfl) (dG 2807) D.1 D.2;constructor
   ·exact this.1
   ·exact Up 244347890119673356451878127928667646678821790300774106506061875279374976694348042013667951511119879 ai.2 ao.2 this.2 rfl rfl rfl rfl
theorem vM (C:∀r∈h,bU r):cS (aY h):=by
 induction h with
 |nil=>exact iE
 |cons r h D=>
  have h0:∀x∈r,x=10\/lQ x:=λx Q=> .inr<|C r (L4 ..) x Q;by_cases X:h=[]
  ·refine J X ?_;exact h0
  ·refine J (ra X) ?_;intro x Q;rcases bc.mp Q with Q|Q
   ·exact h0 x Q
   ·rcases Q8.mp Q with rfl|Q
    ·exact .inl rfl
    ·exact D (λr aB=>C r<|abJ _ aB) x Q
theorem ZB {s:Nat}(aw:cS t)(C:∀r∈h,bU r):cS (fC t s e h):=λx Q=>by
 unfold fC at Q;rcases bc.mp Q with Q|Q
 ·rcases bc.mp Q with Q|Q
  ·exact aw x<|BX Q
  ·exact vM C x Q
 ·exact aw x<|od Q
theorem ZA {N:List (List Int)}(R:jT t b e):(fC t b e N).length=ef t b e+(aY N).length+(t.length -gx t b e):=by unfold fC;exact J nb<|J nb<|J R.p2<|J BU rfl
theorem V7 (R:jT t b e)(G:Q.length=(bk t b e).length){p:Int}(el:1<=p)(dg:p<=t.length+1):1<=d4 t b e aD Q p/\d4 t b e aD Q p<=(fC t b e Q).length+1:=by have:=YD (ax:=t.take<|ef t b e) (S:=t.drop<|gx t b e) (h:=bk t b e) (a5:=Q) G.symm (f:=b7 t b e) (aD:=aD) el (by refine a6 R.eq ?_;exact dg) (bk t b e).length<|nu _;rw[abk,w8,Cg,kW,R.p2] at this;exact this
def px (dQ:List (List Int)):Prop:=dQ.length<=61/\∀p∈dQ,bU p/\p.length<=60
structure Rel (hs bA:Addr)(T:lO)(S:hZ)(n:Nat):Prop where
 aG:S.aG=T.aG
 ok:cS T.aG
 pt:∃p:Nat,S.pt=(p:Int)+1/\p<=T.aG.length
 sp:∃m ba bh:Int,S.mp=kZ m/\S.ex=[(hs,ba),(bA,bh)]/\T.sp=[S.pt -1,m -1,ba -1,bh -1]
 fA:S.fA=T.last
 fo:S.fo=T.fH
 last:px T.last
 fH:∀X∈T.fH,px X.2
 fI:T.fH.length<=n
 n:S.n<=n
variable{bA:Addr}
theorem Rel.move {n:Nat}{f:Int->Int}{d:Nat}(R:Rel a bA aZ ar n)(aw:cS xs)(aP:d<=xs.length):Rel a bA {aZ with aG:=xs,sp:=(aZ.sp.map<|gk f).set 0 (d:Int)} (ar.move f xs<|(d:Int)+1) n:=by
 refine hr ?_;intro b;intros L;obtain⟨m,ba,bh,ai,ao,a7⟩:=R.sp;refine⟨rfl,aw,(bb d rfl aP),(g6 (f m) (f ba) (f bh) ?_ ?_ ?_),R.fA,R.fo,R.last,R.fH,R.fI,R.n⟩
 ·show ar.mp.map f=_;refine J ai ?_;rfl
 ·show ar.ex.map _=_;refine J ao ?_;rfl
 ·show(aZ.sp.map<|gk f).set 0 (d:Int)=[(d:Int)+1 -1,f m -1,f ba -1,f bh -1];refine J a7 ?_;unfold gk;simp
theorem Rel.V3 (R:Rel a bA aZ ar e)(aw:cS xs)(ai:1<=bn ar.pt)(ao:bn ar.pt<=xs.length+1):Rel a bA {aZ with aG:=xs,sp:=aZ.sp.map (gk bn)} (ar.move bn xs<|bn ar.pt) e:=by
 obtain⟨d,b⟩:=aaZ (show 0<=bn ar.pt -1 by exact c4 226298359 ai);have:=R.move (f:=bn) (d:=d) aw<|gF 48705741330084097 ao b;have a8:(d:Int)+1=bn ar.pt:=dZ 11891037244041 b;have bo:(aZ.sp.map<|gk bn).set 0 (d:Int)=aZ.sp.map (gk bn):=by obtain⟨m,ba,bh,_,_,a7⟩:=R.sp;refine J a7 ?_;unfold gk;simp;exact dZ 11891050057897 b
 rw[a8,bo] at this;exact this
def Jt (w:Str)(S:hZ)(s e:Nat)(N:List (List Int)):Int:=if w="open" then((min s e:Nat):Int)+1 else if w="string" then(ef S.aG s e:Int)+1+(aY N).length -(((bk S.aG s e).getLastD []).length -b8 S.aG s e:Nat) else d4 S.aG s e (iW w S.aG s e) N S.pt
def stepT (w:Str)(T:lO)(s e:Nat)(N:List (List Int)):lO:={T with aG:=fC T.aG s e N,sp:=tN w T.aG s e N (T.sp.map<|gk<|d4 T.aG s e (iW w T.aG s e) N)}
def mm (w:Str)(S:hZ)(s e:Nat)(N:List (List Int)):hZ:=S.move (d4 S.aG s e (iW w S.aG s e) N) (fC S.aG s e N)<|Jt w S s e N
theorem Xk:A.length<=(ht A e b).length:=by
 unfold ht;split
 ·exact nu _
 ·simp only[nb,qC,hA,BU];exact dH 18405838928578561 rfl rfl
theorem Zx (R:Rel a bA aZ ar j)(ax:b<=aZ.aG.length)(he:e<=aZ.aG.length)(h:∀i,i<(bk aZ.aG b e).length->(gp w A cnt (bk aZ.aG b e).length i).length<=900/\bU (gp w A cnt (bk aZ.aG b e).length i)): Rel a bA (stepT w aZ b e<|cZ w aZ.aG b e A cnt) (mm w ar b e<|cZ w aZ.aG b e A cnt) j:=by
 have G:=gH R.ok ax he;have a4:=IL G h;have aw:=ZB (s:=b) (e:=e) R.ok a4;have c:=p4 (t:=aZ.aG) (w:=w) (s:=b) (e:=e) (cs:=A) (cnt:=cnt);obtain⟨p,v,y⟩:=R.pt;have B:=ZA (N:=cZ w aZ.aG b e A cnt) G;have bF:=tE G;rw[G.p2,BU] at bF;unfold stepT mm tN Jt;refine J R.aG ?_;by_cases am:w="open"
 ·refine J (if_pos am)<|J (if_pos am)<|R.move aw ?_;have:(aY<|bk aZ.aG b e).length<=(aY<|cZ w aZ.aG b e A cnt).length:=by
   have:=y5 (K:=0) (M:=cZ w aZ.aG b e A cnt) (a5:=bk aZ.aG b e) c.symm λi r g3 ai ao=>by exact J (rs ao ai)<|J am<|Xk
   exact bC 4051702017 this
  exact H4 120079869087851985749751528508494081 ax B bF this rfl
 ·refine J (if_neg am)<|J (if_neg am) ?_;by_cases z:w="string"
  ·refine J (if_pos z)<|J (if_pos z) ?_;have ag:0<(bk aZ.aG b e).length:=abC.mpr G.ne;have l:=oT G.ne;obtain⟨g,m⟩:∃g,(cZ w aZ.aG b e A cnt)[(bk aZ.aG b e).length -1]?=kZ g:=⟨_,Lw<|by refine J c ?_;exact bC 897734091010 ag rfl⟩;have ai:((bk aZ.aG b e).getLastD []).length -b8 aZ.aG b e<=g.length:=by refine J (rs l m)<|J z ?_;show _<=(qk _ _ _ _).length;unfold qk pad;simp only[nb,qC,BU];exact hN 115316450231693969409 rfl rfl
   have ao:=vL<|jI m;have:=R.move (f:=d4 aZ.aG b e (iW w aZ.aG b e)<|cZ w aZ.aG b e A cnt) (d:=ef aZ.aG b e+(aY<|cZ w aZ.aG b e A cnt).length -(((bk aZ.aG b e).getLastD []).length -b8 aZ.aG b e)) aw<|ff 5992045090216947969 B rfl;have a8:((ef aZ.aG b e+(aY<|cZ w aZ.aG b e A cnt).length -(((bk aZ.aG b e).getLastD []).length -b8 aZ.aG b e):Nat):Int)=(ef aZ.aG b e:Int)+(aY<|cZ w aZ.aG b e A cnt).length -(((bk aZ.aG b e).getLastD []).length -b8 aZ.aG b e:Nat):=dH 968955561756763352832970921 ai ao rfl;have bo:((ef aZ.aG b e+(aY<|cZ w aZ.aG b e A cnt).length -(((bk aZ.aG b e).getLastD []).length -b8 aZ.aG b e):Nat):Int)+1=(ef aZ.aG b e:Int)+1+(aY<|cZ w aZ.aG b e A cnt).length -(((bk aZ.aG b e).getLastD []).length -b8 aZ.aG b e:Nat):=bS 4608263875470451903148297357961 a8;rw[bo,a8] at this;exact this
  ·refine J (if_neg z)<|J (if_neg z) ?_;have:=V7 G c (aD:=iW w aZ.aG b e) (p:=ar.pt) (dZ 56010772695 v)<|gF 5015594253461511 v y;exact R.V3 aw this.1 this.2
def d1 (aF:Addr->Prop)(I Z:az):Prop:=∀a aa,aF a->I a=kZ (.list aa)->Z a=kZ (.list aa)
theorem d1.trans (C:d1 aF I au)(av:d1 aF au Z):d1 aF I Z:=λa aa z e=>av a aa z<|C a aa z e
theorem d1.ext (x:bp I au):d1 aF I au:=λa aa _ e=>x _ _ e
theorem d1.sub (C:d1 L I au)(af:∀a,aF a->L a):d1 aF I au:=λa aa z e=>C a aa (af a z) e
theorem ds.dY (C:ds (XL aF q) I au):d1 aF I au:=λa aa z e=>C a _ (.inl z) e
theorem m8 (C:I a=By)(av:au a=kZ (.list aa)):mL aF I au a:=.inr<|AX C aa av
variable{Q:List Int->List Int}
theorem tq (bt:∀i r,lr w r (b7 t b e) (b8 t b e) (gp w A cnt (bk t b e).length i)=Q r):cZ w t b e A cnt=(bk t b e).map Q:=(Vy λi a _=>bt i a).trans Vx
theorem v3:cZ "delete" t b e A cnt=lY t b e:=tq λ_ _=>rfl
theorem IM {cs:List Int}:cZ "clear" t b e cs cnt=(bk t b e).map λr=>gR r (b7 t b e) (b8 t b e):=tq λ_ _=>rfl
theorem IN {cs:List Int}:cZ "close" t b e cs cnt=(bk t b e).map λr=>cls r (b7 t b e):=tq λ_ _=>rfl
theorem zK {cs:List Int}:cZ "open" t b e cs cnt=(bk t b e).map λr=>ht r (b7 t b e) (b8 t b e):=tq λ_ _=>rfl
theorem IQ:cZ "string" t b e A cnt=strN t b e A:=tq λ_ _=>rfl
theorem IP {cs:List Int}(R:jT t b e)(aj:t.length<50)(aU:∀i,i<(bk t b e).length->(gp w cs cnt (bk t b e).length i).length<=7):(aY<|cZ w t b e cs cnt).length<=3000:=by
 have C:=y5 (K:=56) (M:=bk t b e) (a5:=cZ w t b e cs cnt) p4 λi r g3 ai ao=>by have aL:=(xn.mp ai).1;refine J (rs ai ao) ?_;have:=Vg (w:=w) (r:=r) (cs:=gp w cs cnt (bk t b e).length i) R.kv;have:=aU i aL;have:=R.lt;exact dH 711186924779705634095761885894657 aj ‹_› ‹_› this
 have ai:=HG R;have ao:=R.fx;have:(bk t b e).length*56<=50*56:=uo _<|bC 3685568547539969 aj ao;exact bS 4656845220702182415465656497295400449 aj C ai this
theorem u4 {cs:List Int}{s:Nat}(H:a2 c)(a1:w="string"\/w="number"\/w="open"\/w="clear"\/w="close"\/w="delete")(B:dK aq aF q I aZ (mm w ar s e<|cZ w aZ.aG s e cs cnt))(R:Rel a bA aZ ar b)(ax:s<=aZ.aG.length)(he:e<=aZ.aG.length)(aj:aZ.aG.length<50)(D:cs.length<=7/\bU cs)(ai: -3<=cnt)(ao:cnt<=100) (ad:∀Z,d1 aF I Z->dK aq aF q Z (stepT w aZ s e<|cZ w aZ.aG s e cs cnt) (mm w ar s e<|cZ w aZ.aG s e cs cnt)->Rel a bA (stepT w aZ s e<|cZ w aZ.aG s e cs cnt) (mm w ar s e<|cZ w aZ.aG s e cs cnt) b->ab .none Z): be c 3 (.ref 1373) [.ref q.O,.str w,.int s,.int e,.str<|zs cs,.int cnt] ab I:=by
 have G:=gH R.ok ax he;have E:=G.fx;have L:aZ.sp.length=4:=by obtain⟨m,ba,bh,_,_,a7⟩:=R.sp;refine J a7 ?_;rfl
 have o:∀i,i<(bk aZ.aG s e).length->(gp w cs cnt (bk aZ.aG s e).length i).length<=7:=λi aL=>by
  unfold gp;split
  ·have:=(tt (w:=cnt+(bk aZ.aG s e).length) (n:=cnt+i) (dZ 207494333381815 ai) (me 622377245520949777159725191 aj ao E aL) (dZ 207494333381815 ai)<|gF 989337345542233941647495 aj ao E).2;unfold ry fp;refine J (aa0 _) ?_;exact this
  ·exact D.1
 refine Uf H a1 B.l.bH R.ok ax he (bM 1275264002 aj) ⟨bM 30299782145 D.1,D.2⟩ ai (gF 989337345542233941647495 aj ao E) (nf (IP G aj o)<|by decide) (bM 213922034 L) (bM 3422772225 L) λZ F g=>?_;have h:=B.own F g;exact ad Z (B.l.kc (B.l.own F g).2) h<|Zx R ax he λi aL=>KC ⟨bM 30299782145 D.1,D.2⟩ ai (gF 989337345542233941647495 aj ao E) aL
theorem GG (C:e<4):(∃A:List Int,[V.str ("":Str),.str ("x":Str),.str ("yz":Str),.str (" xyz":Str)][e]?=kZ (.str<|zs A)/\A.length<=7/\bU A)/\∃k:Int,[V.int 1,.int 8,.int 98,.int (-1)][e]?=kZ (.int k)/\ -3<=k/\k<=100:=by
 have p:∀{l:List Int},(l.all λx=>decide (32<=x)&&decide (x<127))=true->bU l:=λC x Q=>by have:=abe.mp C x Q;rw[abR,decide_eq_true_eq,decide_eq_true_eq] at this;exact this
 match e,C with
 |0,_=>exact⟨(c7 ([]) rfl (by decide) iE),1,rfl,by decide,by decide⟩
 |1,_=>exact⟨(c7 ([120]) rfl (by decide)<|p<|by decide),8,rfl,by decide,by decide⟩
 |2,_=>exact⟨(c7 ([121,122]) rfl (by decide)<|p<|by decide),98,rfl,by decide,by decide⟩
 |3,_=>exact⟨(c7 ([32,120,121,122]) rfl (by decide)<|p<|by decide),-1,rfl,by decide,by decide⟩
 |e+4,C=>exact absurd C<|dG 214745220
theorem aaC (C:bU A):∀x∈(zs A).cps.toList,32<=x/\x<127:=λx Q=>by obtain⟨y,G,rfl⟩:=yB.mp (show x∈A.map abG from Q);have:=C y G;have ai:32<=y:=this.1;have ao:y<127:=this.2;exact⟨dZ 60360691137 ai rfl,dZ 4080347922763266 ao rfl⟩
theorem fk.ext (C:fk aq aH I ar)(x:bp I au):fk aq aH au ar:=g1 C λ_ _ _ _ _ C=>(C.ext x).kb
theorem aag (H:a2 c)(a1:w="string"\/w="number"\/w="open"\/w="clear"\/w="close"\/w="delete")(B:dK aq aF q I aZ ar)(R:Rel ae bA aZ ar aD)(ax:j<=aZ.aG.length)(he:e<=aZ.aG.length)(aj:aZ.aG.length<50)(D:A.length<=7/\bU A)(ai: -3<=cnt)(ao:cnt<=100)(iC:I a=kZ (.list [.int<|(j:Int)+1,.int<|(e:Int)+1])) (ad:∀Z,d1 aF I Z->dK aq aF q Z (stepT w aZ j e<|cZ w aZ.aG j e A cnt) (mm w ar j e<|cZ w aZ.aG j e A cnt)->Rel ae bA (stepT w aZ j e<|cZ w aZ.aG j e A cnt) (mm w ar j e<|cZ w aZ.aG j e A cnt) aD->ab .none Z): Da (dI c 10 ab) [.ref aq.cT,.ref q.O,.ref q.eQ,.str w,.int j,.int e,.int cnt,.ref a,.str<|zs A] [] I:=by
 intros bs;have aa:=R.aG;have G:=gH R.ok ax he;have E:=G.fx;have bt:cS ar.aG:=aa▸R.ok;have aQ:j<=ar.aG.length:=by refine J aa ?_;exact ax
 have t:e<=ar.aG.length:=by refine J aa ?_;exact he
 have N:ar.aG.length<=40000:=by refine J aa ?_;exact bM 1337185521507841 aj
 have o:∀{w:Str},∀i,i<(bk aZ.aG j e).length->(gp w A cnt (bk aZ.aG j e).length i).length<=7:=λi aL=>by
  unfold gp;split
  ·have:=(tt (w:=cnt+(bk aZ.aG j e).length) (n:=cnt+i) (dZ 207494333381815 ai) (me 622377245520949777159725191 aj ao E aL) (dZ 207494333381815 ai)<|gF 989337345542233941647495 aj ao E).2;unfold ry fp;refine J (aa0 _) ?_;exact this
  ·exact D.1
 have bi:∀{w:Str},ar.aG.length+(aY<|cZ w ar.aG j e A cnt).length<=90000:=λ{w}=>by refine J aa ?_;have:=IP (w:=w) (cs:=A) (cnt:=cnt) G aj o;exact bC 58029790257387914613569228929 aj this
 have tail:∀{au:az} {v:V},ds (XL aF q) I au->fk aq (XL aF q) au (mm w ar j e<|cZ w aZ.aG j e A cnt)->ps (dI c 10 ab) [.ref aq.cT,.ref q.O,.ref q.eQ,.str w,.int j,.int e,.int cnt,.ref a,.str<|zs A] [] au:=λ{au v} k T=> ⟨H.f 122,ca<|u4 H a1 (B.keep k T) R ax he aj D ai ao λZ dY=>ad Z<|k.dY.trans dY⟩;rcases a1 with rfl|rfl|rfl|rfl|rfl|rfl
 ·have av:∀x∈A,0<=x:=λx Q=>abT (by decide) (D.2 x Q).1;have Q:=aaC D.2;have bb:(zs A).cps.toList.length<=1000:=by show(A.map abG).length<=1000;refine J (aa0 _) ?_;exact bM 30299724801 D.1
  refine eqs<|cr (by decide)<|eqs<|cr (by decide)<|eqs<|cr (by decide)<|eqs<|cr (by decide)<|eqs<|kO rfl ⟨H.f 87,dA rfl rfl λa5 au U s aI=>qd (U _ _ iC) aI (gV rfl) λbg aS aT=>ca<|QV H (B.w.ext<|U.trans aT.ext) bt Q bb aQ t (by refine J (t0 av)<|a6 (IQ (cnt:=cnt)) ?_;exact bi) N aT.at λaM k T=>tail (v:=.none) ((ds.ext<|U.trans aT.ext).trans k) ?_⟩;replace T:=(t0 av)▸T;refine a6 aa<|J IQ ?_;exact T
 ·refine eqs (cr (by decide)<|eqs<|cr (by decide)<|eqs<|cr (by decide)<|eqs<|cr (by decide)<|eqs<|cr (by decide) ⟨H.f 88,qV<|cx (λX=>?_) λX=>?_⟩)
  ·refine dA rfl rfl λa5 au U s aI=>qd (U _ _ iC) aI (gV rfl) λbg aS aT=>ca<|GE H (B.w.ext<|U.trans aT.ext) bt (b:=cnt) (d:=.none) (.inl ⟨rfl,X⟩) ai (by refine J aa ?_;exact gF 61571881062739547824263 aj E X) aQ t (bi (w:="number")) N aT.at λaM k T=>tail (v:=.none) ((ds.ext<|U.trans aT.ext).trans k) ?_;refine a6 aa ?_;exact T
  ·refine dA rfl rfl λa5 au U s aI=>qd (U _ _ iC) aI (gV rfl) λbg aS aT=>ca<|GE H (B.w.ext<|U.trans aT.ext) bt (b:=cnt) (d:=.int cnt) (.inr rfl) ai (by refine J aa ?_;exact gF 989337345542233941647495 aj ao E) aQ t (bi (w:="number")) N aT.at λaM k T=>tail (v:=.none) ((ds.ext<|U.trans aT.ext).trans k) ?_;refine a6 aa ?_;exact T
 ·refine eqs<|cr (by decide)<|eqs<|kO rfl ⟨H.f 84,ca<|GF H B.w bt aQ t (by refine a6 (zK (cs:=A) (cnt:=cnt)) ?_;exact bi) N iC λau k T=>tail (v:=.none) k ?_⟩;refine a6 aa<|J zK ?_;exact T
 ·refine eqs<|cr (by decide)<|eqs<|cr (by decide)<|eqs<|kO rfl ⟨H.f 85,ca<|QO H B.w bt aQ t (by refine a6 (IM (cs:=A) (cnt:=cnt)) ?_;exact bi) N iC λau k T=>tail (v:=.none) k ?_⟩;refine a6 aa<|J IM ?_;exact T
 ·refine eqs<|cr (by decide)<|eqs<|cr (by decide)<|eqs<|cr (by decide)<|eqs<|kO rfl ⟨H.f 86,ca<|QP H B.w bt aQ t (by refine a6 (IN (cs:=A) (cnt:=cnt)) ?_;exact bi) N iC λau k T=>tail (v:=.none) k ?_⟩;refine a6 aa<|J IN ?_;exact T
 ·refine eqs<|kO rfl ⟨H.f 82,ca<|QR H B.w bt aQ t (by have:=bi (w:="delete");rw[v3] at this;exact this) N iC λau k T=>tail (v:=.none) k ?_⟩;refine a6 aa<|J v3 ?_;exact T
theorem dK.dY (B:dK aq aF q I aZ ar)(F:Fr (jn q) (jk q) No I au):d1 aF I au:=B.l.kc F
theorem Uj (H:a2 c)(a1:w="string"\/w="number"\/w="open"\/w="clear"\/w="close"\/w="delete")(B:dK aq aF q I bG aw)(R:Rel ae bA bG aw b)(ax:i<=bG.aG.length)(he:e<=bG.aG.length)(aj:bG.aG.length<50) (ad:∀Z G aZ ar,(∀a,aF a->G a)->d1 aF I Z->dK aq G q Z aZ ar->Rel ae bA aZ ar b->ab .none Z):be c 11 (.ref 1397) [.ref aq.cT,.ref q.O,.ref q.eQ,.str w,.int i,.int e] ab I:=by refine Pc (n:=10) H<|dt<|dt<|dA rfl rfl λez au U s aI=>dA rfl rfl λa5 aS aR aT bd=>⟨H.f 116,ca<|nI H (B.ext<|U.trans aR) (ew:=4) (by decide) (by decide) λv aM aV a7 ag=>?_⟩;intros bs;obtain⟨⟨cs,D,t⟩,_⟩:=GG aV;have d:d1 (mL aF I aS) aS aM:=(B.ext<|U.trans aR).l.kc a7;refine cE (k:=v) (d _ _ (m8 (U.none aT) bd) bd) D (c0 rfl)<|dA rfl rfl λbg ay bf bq a3=>⟨H.f 116,ca<|nI H (ag.ext bf) (ew:=4) (by decide) (by decide) λp bh j K P=>?_⟩;obtain⟨_,cnt,r,m,o⟩:=GG j;have g:d1 (mL (mL aF I aS) aM ay) ay bh:=(ag.ext bf).l.kc K;refine cE (k:=p) (g _ _ (m8 bq a3) a3) r (c0 rfl)<|fy rfl rfl λfM bv bL h az=>eY az rfl ?_;have iC:bv ez=kZ (.list [.int<|(i:Int)+1,.int<|(e:Int)+1]):=bL _ _<|g _ _ (.inl<|m8 s<|aR _ _ aI)<|bf _ _<|d _ _ (m8 s<|aR _ _ aI)<|aR _ _ aI;refine aag H a1 (P.ext bL) R ax he aj t m o iC λZ dY a0 aP=>ad Z _ _ _ (λa z=> .inl<|.inl<|.inl z) ?_ a0 aP;have co:d1 aF I aM:=(d1.ext<|U.trans aR).trans<|d.sub λa z=> .inl z;have cW:d1 aF I bv:=((co.trans<|.ext bf).trans<|g.sub λa z=> .inl<|.inl z).trans<|.ext bL;exact cW.trans<|dY.sub λa z=> .inl<|.inl<|.inl z
theorem aao {k:Nat}(G:h≠[]):(aY<|cU t k h).length=tW t k h+((cU t k h).getLastD []).length:=by
 have an:(cU t k h).length=h.length:=qu;have aP:=abC.mpr G;have aX:cU t k h≠[]:=λX=>by rw[X] at an;simp at an;exact bM 253817679 an aP
 have l:=oT aX;have e:cU t k h=(cU t k h).take (h.length -1)++[(cU t k h).getLastD []]:=by have:=Km l;rw[an,show h.length -1+1=h.length by exact bC 229819927351427 aP rfl] at this;exact a6 this<|a6 an<|J oe rfl
 conv=>lhs;rw[e,oR]
 unfold tW;by_cases X:(cU t k h).take (h.length -1)=[]
 ·refine J (if_pos X)<|J X ?_;have:=congrArg xc X;rw[qC,an,uc] at this;refine J (if_neg<|b1 58587486060884180 this rfl rfl) ?_;simp[aY]
 ·refine J (if_neg X)<|J nb<|J hC ?_;have:h.length -1≠0:=λz=>X (by refine J z ?_;rfl);refine J (if_pos<|bC 14299541074130 this rfl) ?_;exact lp 1995160256643
structure My (t:List Int)(k:Nat)(M:List (List Int)):Prop where
 ok:cS (kS t k M)
 pt:∃p:Nat,mq t k M=(p:Int)+1/\p<=(kS t k M).length
 S0:t.length<=(kS t k M).length
theorem K0 (aw:cS t)(ap:b<=t.length)(G:h≠[])(aB:∀r∈h,bU r):My t b h:=by
 have aP:=abC.mpr G;have bl:=KZ aw ap aP;have m:=Bf ap aP;have an:(cU t b h).length=h.length:=qu;have D:∀i:Nat,bU (((cb t b h.length)[i]?).getD []):=λi=>by
  cases X:(cb t b h.length)[i]? with
  |none=>exact iE
  |some o=>exact tM _ _ rfl (λx Q=>aw x<|BX<|od Q) o<|jI X
 have a:∀{i:Nat} {f:List Int},(cU t b h)[i]?=kZ f->∃r,h[i]?=kZ r/\f=jD (((cb t b h.length)[i]?).getD []) (c9 t b) r:=λ{i f} aL=>by have aG:=(xn.mp aL).1;rw[an] at aG;have af:=Lw aG;have:=n4 (A:=t) (k:=b) af;rw[aL] at this;exact(bb _ af<|kZ.inj this)
 have aX:∀f∈cU t b h,bU f:=λf hf=>by obtain⟨i,aL⟩:=abP hf;obtain⟨r,ai,rfl⟩:=a aL;exact Aj (D i)<|aB _<|jI ai
 have bp:∀x∈ij t b h,x=10\/lQ x:=λx Q=>by
  unfold ij at Q;split at Q
  ·rcases Q8.mp Q with rfl|Q
   ·exact .inl rfl
   ·exact vM (λr aB=>aX r<|od aB) x Q
  ·cases Q
 have bF:(kS t b h).length=c5 t b+(aY<|(cU t b h).take (cb t b h.length).length).length+((ij t b h).length+(t.length -gK t b h.length)):=by unfold kS;rw[nb,nb,nb,bl.cw,BU]
 have W:(aY<|cU t b h).length<=(aY<|(cU t b h).take (cb t b h.length).length).length+(ij t b h).length:=by
  unfold ij;split
  ·rename_i hm;have e:=rV (cb t b h.length).length<|cU t b h;have ai:(cU t b h).drop (cb t b h.length).length≠[]:=λX=>by have:=congrArg xc X;rw[BU,an,uc] at this;exact b1 1262488715855 hm this rfl
   conv=>lhs;rw[<-e]
   have ao:(cU t b h).take (cb t b h.length).length≠[]:=λX=>by have:=congrArg xc X;rw[qC,an,uc] at this;exact b1 72742740359709007 m.1 m.2 this rfl
   have n:=pZ ai;have p:=pZ ao;have j:=pZ (M:=(cU t b h).take (cb t b h.length).length++(cU t b h).drop (cb t b h.length).length) λX=>ai (List.append_eq_nil_iff.mp X).2;rw[qB,B8,nb] at j;rw[hC];exact hN 277166919920444312860806839009265850369 n p j
  ·rename_i hm;refine J (pj<|b1 8927588609 an hm) ?_;exact nu _
 refine⟨λx Q=>?_,?_,?_⟩
 ·unfold kS at Q;rcases bc.mp Q with Q|Q
  ·rcases bc.mp Q with Q|Q
   ·exact aw x<|BX Q
   ·exact vM (λr aB=>aX r<|BX aB) x Q
  ·rcases bc.mp Q with Q|Q
   ·exact bp x Q
   ·exact aw x<|od Q
 ·have ax:=aao (t:=t) (k:=b) G;have l:=oT (M:=cU t b h) (λX=>by rw[X] at an;simp at an;exact bM 254865999 aP an);obtain⟨r,ai,ao⟩:=a l;rw[an,oT G] at ai;have a7:=congrArg xc ao;rw[rF,<-kZ.inj ai] at a7;refine(bb (c5 t b+tW t b h+(c9 t b+(h.getLastD []).length)) (by unfold mq;exact Uy 4084360761489326000107587721)<|Uo 218207784793373209754191143764999886390702984168278145 bF W ax a7 rfl)
 ·have c:=y5 (K:=0) (M:=(cU t b h).take (cb t b h.length).length) (a5:=cb t b h.length) (by refine J qC<|J an ?_;exact b1 137810153731 m.1 rfl) λi f o ai ao=>by have aG:=(xn.mp ao).1;rw[abu,if_pos aG] at ai;obtain⟨r,_,rfl⟩:=a ai;refine J ao<|J rF ?_;show o.length<=max o.length _+_+0;exact bS 3306573367297 rfl
  have:=congrArg xc bl.sp;rw[nb,nb,bl.cw,BU] at this;exact hN 1666543187478127179357827329 bF c this
theorem Rel.up (R:Rel a bA aZ ar e)(C:e<=ey):Rel a bA aZ ar ey:=⟨R.aG,R.ok,R.pt,R.sp,R.fA,R.fo,R.last,R.fH,nf R.fI C,nf R.n C⟩
def mr (T:lO)(k:Nat)(M:List (List Int)):lO:={T with aG:=if M=[] then T.aG else kS T.aG k M,sp:=if M=[] then T.sp else(T.sp.map<|gk<|n5 T.aG k M).set 0 (mq T.aG k M -1)}
theorem Rel.gL {M:List (List Int)}(R:Rel a bA aZ ar b)(ap:e<=aZ.aG.length)(aB:∀r∈M,bU r):Rel a bA (mr aZ e M) (ar.gL e M) b:=by
 unfold mr hZ.gL;by_cases X:M=[]
 ·refine J (if_pos X)<|J (if_pos X)<|J (if_pos X) ?_;exact R
 ·refine J (if_neg X)<|J (if_neg X)<|J (if_neg X)<|J R.aG ?_;have bl:=K0 R.ok ap X aB;obtain⟨p,ai,ao⟩:=bl.pt;have:=R.move (f:=n5 aZ.aG e M) (d:=p) bl.ok ao;refine J ai<|J (show(p:Int)+1 -1=p by exact dG 2916133017) ?_;exact this
theorem Rel.mark (R:Rel a bA aZ ar e):∃x,aZ.sp[0]?=kZ x/\ar.pt=x+1/\Rel a bA {aZ with sp:=aZ.sp.set 1 x} {ar with mp:=kZ ar.pt,n:=ar.n+1} (e+1):=by obtain⟨m,ba,bh,ai,ao,a7⟩:=R.sp;refine(c7 (ar.pt -1) (by refine J a7 ?_;rfl) (tj 231774217) ⟨R.aG,R.ok,R.pt,(g6 ar.pt ba bh rfl ao<|by refine J a7 ?_;rfl),R.fA,R.fo,R.last,R.fH,abF R.fI,t4 R.n⟩)
theorem Rel.AB {n:Nat}(R:Rel a bA aZ ar n):∃p:Nat,ar.pt=(p:Int)+1/\p<=aZ.aG.length/\aZ.sp[0]?=kZ (p:Int)/\aZ.sp.length=4:=by obtain⟨p,ai,ao⟩:=R.pt;obtain⟨m,ba,bh,_,_,a7⟩:=R.sp;exact(kR p ai ao (by refine J a7<|J ai ?_;simp)<|by refine J a7 ?_;rfl)
theorem Rel.ins (R:Rel ae bA aZ aw e)(Q:aZ.sp[0]?=kZ last)(C:ar={aw with mp:=kZ<|st+1,n:=aw.n+1,pt:=cnt+1})(aE:∃p:Nat,cnt=p/\p<=aZ.aG.length):Rel ae bA {aZ with sp:=(aZ.sp.set 0 cnt).set 1 st} ar (e+1):=by subst C;obtain⟨m,ba,bh,ai,ao,a7⟩:=R.sp;obtain⟨p,rfl,aP⟩:=aE;exact⟨R.aG,R.ok,(bb p rfl aP),(g6 (st+1) ba bh rfl ao<|by refine J a7 ?_;simp),R.fA,R.fo,R.last,R.fH,abF R.fI,t4 R.n⟩
theorem Rq (aw:cS t)(ax:b<=t.length)(he:e<=t.length)(aj:t.length<50):px (gr t b e):=by
 have G:=gH aw ax he;have:=G.fx;have:=G.lt;refine⟨by refine J (aa0 _) ?_;exact bC 3685568547580929 aj ‹_›,λp aP=>?_⟩;obtain⟨r,aB,rfl⟩:=yB.mp aP;have ai:=G.dE r aB;refine⟨λx Q=>?_,?_⟩
 ·unfold l1 at Q;rcases bc.mp Q with Q|Q
  ·exact ai x<|BX<|od Q
  ·refine J (kg.mp Q).2 ?_;exact⟨by decide,by decide⟩
 ·unfold l1;simp only[nb,hA,BU,qC];exact tk 37449359986321605320587533173395585 aj this rfl rfl rfl rfl
theorem XJ:(hw pt h U).length<=U.length+1:=by
 unfold hw;split
 ·refine J (aa0 _) ?_;exact dG 854017
 ·refine J nb ?_;exact nu _
theorem XK (C:aR∈hw pt h U):aR.2=h\/aR∈U:=by
 unfold hw at C;split at C
 ·obtain⟨p,aP,rfl⟩:=yB.mp C;split
  ·exact .inl rfl
  ·exact .inr aP
 ·rcases bc.mp C with C|C
  ·exact .inr C
  ·refine J (aaO.mp C) ?_;exact .inl rfl
theorem Iy (C:U.lookup pt=kZ h):(pt,h)∈U:=by
 induction U with
 |nil=>exact bY C
 |cons p U D=>
  rw[wQ] at C;split at C
  ·rename_i X;have:=beq_iff_eq.mp X;cases C;refine J this ?_;exact .head _
  ·exact .tail _<|D C
def rg:eG:=⟨yM,x7⟩
abbrev aaj:fq:=λ_ _ _=>False
noncomputable def qt:List Str:=["insert_register","do_insert_register","_law_inserted","_law_commanded"]
abbrev Cw (aH:fq):aI:=fe<|iZ<|bX<|a8 (cn<|bz<|bK "point" bv) bv
abbrev abV (aH:fq):aI:=bO<|es<|bt gc<|Cw aH
abbrev abW (aH:fq):aI:=bO<|oC<|cA "position"<|Cw aH
abbrev Cx (aH:fq):aI:=aM (.str "user-error")<|aM (.str "Register does not contain text")<|eT dh<|yS aH
abbrev Mt (aH:fq):aI:=vr<|iA<|cM<|gs<|bO<|ma<|a8 (Cx aH)<|bO<|hJ<|aM (.str "text")<|s3<|aM (.str "point")<|i4 gv<|bt (i5 true)<|a8 (Cx aH)<|bz<|jZ<|b3 5<|bO<|hJ<|aM (.str "text")<|dU<|a8 fm<|aM (.ref 389)<|cf<|bD 2 fm
abbrev Ct (aH:fq):aI:=jx<|bz<|dz "goto"<|jy<|ma<|a8 (cn<|cM<|b0 bv)<|bO<|cM<|b0 bv
abbrev Cu (aH:fq):aI:=bz<|jZ<|gs<|aM (.ref 261)<|cf<|aM (.ref 751)<|c3<|fe<|bz<|jy<|ma<|a8 (bD 4<|Ct aH)<|bD 5<|Ct aH
abbrev Cv (aH:fq):aI:=aM (.ref 739)<|qX<|jz<|bz<|mS<|vA 38 aH iG<|Cu aH
abbrev Ms (aH:fq):aI:=vr<|qX<|aM (.ref 758)<|cf<|jz<|fe<|cM<|aS<|s0<|i1<|j4 [2,3]<|bz<|jZ<|b3 5<|bX<|kC<|a8 (bX<|hJ<|oA<|dU<|a8 (aM (.ref 668)<|cf<|j2<|oC<|kz<|cF<|b0<|Cu aH)<|Cv aH)<|Cv aH
abbrev Mk (aH:fq)(R:aI):aI:=aM (.ref 765)<|cf<|bD 0<|bD 2<|bD 3<|eT dB<|vA 38 aH dB R
@[reducible] def xD (aH:fq):aI:=yT<|bj<|i0<|da<|gu<|bj<|i0<|es<|gu<|aM (.bool true) bf
@[reducible] def CB (aH:fq):aI:=lh<|s1<|bt (i5 true)<|a8 (aM (.bool false) bf)<|aM (.ref 1378)<|cf<|bj<|bj<|s1<|bz<|dJ<|iZ<|bj<|i0<|hJ<|gs<|bX<|ma<|a8 (cV<|bO<|i4 dB<|xD aH)<|bO<|cV<|i4 dB<|xD aH
abbrev FA (aH:fq):aI:=bj<|i0<|hJ<|b3 6<|vD 2 1 "kept" "user-error" Mk<|CB aH
@[reducible] def xC (aH:fq):aI:=aM (.ref 1373)<|cf<|bj<|vu<|bO<|cn<|mT<|es<|dV o6<|b0<|aM (.bool true) bf
@[reducible] def Cz (aH:fq):aI:=cV<|kC<|a8 (xC aH)<|aM (.bool true) bf
@[reducible] def CA (aH:fq):aI:=aM (.ref 1368)<|cf<|bj<|bO<|cn<|cF<|bj<|s1<|eR<|gu<|Cz aH
@[reducible] def Cy (aH:fq):aI:=bD 8<|da<|dU<|a8 (aM (.ref 786)<|c3<|bO<|f7<|cn<|f7<|eT dB<|iZ<|aM (.ref 1368)<|cf<|bj<|bO<|cn<|cF<|bj<|oA<|gu<|aM (.bool true) bf)<|bD 8<|es<|dU<|a8 (aM (.ref 779)<|c3<|bO<|f7<|cn<|f7<|eT dB<|iZ<|aM (.ref 1368)<|cf<|bj<|bO<|cn<|cF<|bj<|oA<|gu<|xC aH)<|bD 8<|j0<|aM (.int 3)<|i1<|bt (i5 false)<|a8 (aM (.ref 800)<|c3<|ho<|iZ<|bj<|i0<|hJ<|bj<|i0<|es<|gu<|aM (.ref 1378)<|cf<|bj<|bj<|oA<|dJ<|iZ<|aM (.bool true) bf)<|bD 8<|q3<|aM (.int 5)<|i1<|bt (i5 false)<|a8 (aM (.ref 772)<|h9<|bO<|f7<|cn<|f7<|cV<|eT iG<|cM<|b0<|CA aH)<|bD 8<|aM (.int 6)<|dU<|a8 (aM (.ref 1390)<|iA<|eR<|cV<|oI 38 aH iG bf)<|vu<|qY<|aM (.str "clear")<|vv<|s2<|s3<|eT o6<|kA<|bz<|aM (.int 6)<|cM<|dJ<|b3 9<|aM (.ref 1397)<|iz<|bD 9<|bO<|cn<|dV o6<|b0<|aM (.bool true) bf
abbrev Mu (aH:fq):aI:=bj<|ky<|df<|f7<|aM (.int 97)<|kA<|bz<|j0<|cM<|db<|mR<|q3<|eT dB<|kA<|bz<|j0<|cM<|dJ<|i4 gv<|j4 [6,7,3]<|kA<|j2<|cM<|kA<|j2<|cM<|kA<|bz<|aM (.int 12)<|cM<|i4 gv<|j4 [8,5,4]<|Cy aH
@[reducible] def Ml:aI:=aM (.ref 1373)<|cf<|cn<|qY<|l7<|es<|mT<|es<|dV o6<|b0<|cn<|ky<|aM (.str "a  bc\na  b\na  bcd")<|dU<|a8 (cn<|i0<|es<|da<|aM (.int 15)<|aM (.int 16)<|eT iG<|dU<|a8 (aM (.ref 1383)<|cf<|j2<|cn<|dV gv bf)<|aM (.bool false) bf)<|aM (.bool false) bf
@[reducible] def Mm:aI:=aM (.ref 1404)<|cf<|bz<|cn<|bj<|oI 38 aaj gv<|a8 (aM (.ref 1383)<|cf<|j2<|cn<|cF<|a8 bv<|aM (.bool false) bf)<|aM (.bool false) bf
@[reducible] def CQ:aI:=kA<|eE<|df<|f7<|dV dB bf
@[reducible] def CP:aI:=aM (.str "ab c ")<|kA<|bj<|aM (.int 5)<|cM<|bt gc bf
@[reducible] def xX:aI:=aM (.ref 1330)<|c3<|fe<|ho<|i1<|hq [1,6]<|es<|kA<|bj<|q3<|cM<|db<|kF dh<|gt [4] (cV<|jw<|mT<|g0<|kA<|bj<|aM (.int 6)<|cM<|kF dh<|fV [1] CP<|pV<|oH<|b0 bv)<|l6<|g0<|cV<|pV<|b3 7<|aM (.ref 1409)<|cf<|eR<|q3<|kF dh<|fV [1,7] CQ<|cM<|hq [2,3,5]<|es<|kA<|bj<|aM (.int 6)<|cM<|db<|kF dh<|gt [8] (cn<|ky<|df<|aM (.int 50)<|f8<|a8 Mm bv)<|aM (.ref 1409)<|cf<|aM (.str "abc\nab\nabcd")<|da<|da<|sY<|l7<|eT iG<|cM<|hq [2,3,5]<|aM (.ref 807)<|cf<|bz<|aM (.int 11)<|j0<|eT dB<|cM<|b0 Ml
theorem th (H:a2 c):fP c rg:=⟨H.ok,Ik (P:=oo c) H.gl.sp.2,Gu (P:=qN c) H.eI.sp.2⟩
theorem ye {aH:uB}{n:Nat}(H:a2 c)(i:Nat)(a:Addr)(xs:List Str)(aq:fq->aI)(aa am:List V)(aE:(eH f0 iu i).a=a)(a1:(λaH=>KJ 38 rg (eH f0 iu i).s (eH f0 iu i).nm xs (eH f0 iu i).b aH bv)=aq)(hd:(eH f0 iu i).gq=[])(an:aa.length=(eH f0 iu i).dQ.length) (g:aa++[]++dr ((eH f0 iu i).nm.length -(eH f0 iu i).dQ.length) .aK=am)(C:aq (λas _ Z=>aH as Z) (dI c (n+2) ab) am [] I):jj c 38 (n+2+1) (.ref a) aa ab aH I:=by rw[<-aE];refine RA (xs:=xs) (th H) H.A3 ((H.x i).z hd) (tJ<|pa.sp.2.fX (d:=f0) pa.hd i) an ?_;rw[g];rw[<-a1] at C;exact C
def PR {n:Nat}(H:a2 c):=ye (n:=n) (ab:=ab) (aH:=er) (I:=I) H 0 739 qt Mt [ak,aJ,a4,bx] [ak,aJ,a4,bx,.aK,.aK] (by ext) (by ext) (by ext) (by ext) (by ext)
def PQ {n:Nat}(H:a2 c):=ye (n:=n) (ab:=ab) (aH:=er) (I:=I) H 1 765 qt Ms [ak,aJ] [ak,aJ,.aK,.aK,.aK,.aK] (by ext) (by ext) (by ext) (by ext) (by ext)
def PS {n:Nat}(H:a2 c):=ye (n:=n) (ab:=ab) (aH:=er) (I:=I) H 3 1404 qt Mu [ak,aJ,a4] [ak,aJ,a4,.aK,.aK,.aK,.aK,.aK,.aK,.aK] (by ext) (by ext) (by ext) (by ext) (by ext)
theorem O1 {n:Nat}(H:a2 c)(C:xX (dI c n ab) [ak,.aK,.aK,.aK,.aK,.aK,.aK,.aK,.aK] [] I)(L:e9 bo (n+1))(aF:bo.frames=kZ [])(S:a9 c I s)(m:(V.ref 1414).is dD)(aX:bV [ak] bE) (P:∀v ay,dF c I s ab v ay->R (.ok<|.ret v) ay):br c.M bo (.call dD ⟨bE,[]⟩) R s:= Rz (b6:=rg) (xs:=qt) (th H) ((H.x 4).z rfl) (tJ<|pa.sp.2.fX (d:=f0) pa.hd 4) rfl (by rw[show KI 38 rg _ (eH f0 iu 4).nm qt _ bv=xX by ext];exact C) L aF S m aX P
abbrev iH:lM:=eH f0 iu 2
def AN:List Stmt:=pe [] (iH.b.getD 1<|.Pass default) (k:=λb _ _ _ _=>b)
abbrev rO:Stmt->ji:=wK 38 rg (cmp rg 40) iH.s iH.nm qt 10
theorem SK (H:a2 c):mF c 38 (i+2) iH.s iH.nm iH.b λer R=>rO (iH.b.getD 0<|.Pass default) er (vD 2 1 "kept" "user-error" (m7 rO AN)<|m7 rO (iH.b.drop 2) er R):=by
 have k:=KD (n:=i) (sc:=iH.s) (nm:=iH.nm) (xs:=qt) (th H) H.A3 (uW (th H) 40) 10;have e:iH.b=iH.b.getD 0 (.Pass default)::.Try AN [.ExceptHandler (kZ<|.Name "LispSignal" ⟨958,11,958,21⟩) (kZ "error") [.Return (kZ<|.BoolOp .And [.Compare (.Name "sign" ⟨959,15,959,19⟩) [.NotIn] [.Subscript (.Name "own" ⟨959,27,959,30⟩) (.Constant (.str "kept") 0 ⟨959,31,959,37⟩) ⟨959,27,959,38⟩] ⟨959,15,959,38⟩,.Compare (.Attribute (.Name "error" ⟨959,43,959,48⟩) "symbol" ⟨959,43,959,55⟩) [.Eq] [.Constant (.str "user-error") 0 ⟨959,59,959,71⟩] ⟨959,43,959,71⟩] ⟨959,15,959,71⟩) ⟨959,8,959,71⟩] ⟨958,4,959,71⟩] [] [] ⟨956,4,959,71⟩::iH.b.drop 2:=by ext
 exact Eq.mpr (congrArg (λb=>mF c 38 (i+2) iH.s iH.nm b _) e)<|yH (k _)<|yH (SO 2 1 5 H.A3 rfl rfl rfl (by ext) (by decide) (by decide) ((th H).gl (x:="LispSignal")<|by ext) (by ext) (by ext) (by ext) (by ext) (by ext) (λ_=>rfl)<|tV k _)<|tV k _
theorem PT {n:Nat}(H:a2 c)(C:FA (λas _ Z=>er as Z) (dI c (n+2) ab) [ak,aJ,a4,bx,.aK,.aK,.aK] [] I):jj c 38 (n+2+1) (.ref 1390) [ak,aJ,a4,bx] ab er I:= Gb (c:=c) H.ok ((H.x 2).z rfl) (tJ (pa.sp.2.fX (d:=f0) pa.hd 2)) (SK H) (gq:=[]) trivial rfl (Eq.mp (congrFun (congrFun (congrFun (congrFun (congrFun (by kernel_rfl:(λer=>FA er)=λer=>rO (iH.b.getD 0 (.Pass default)) er (vD 2 1 "kept" "user-error" (m7 rO AN) (m7 rO (iH.b.drop 2) er bv))) _) _) _) _) _) C)
theorem y7 {k:Int}(C:cc (mH aF I) aP U):(U.lookup k=By->aP.lookup k=By)/\∀M,U.lookup k=kZ M->∃a,aP.lookup k=kZ (.ref a)/\sv aF I a M:=by
 induction aP generalizing U with
 |nil=>cases U with
  |nil=>exact⟨λ_=>rfl,λ_ C=>bY C⟩
  |cons=>exact C.elim
 |cons p aP D=>cases U with
  |nil=>exact C.elim
  |cons X U=>
   obtain⟨⟨e,a,a8,bo,c2⟩,C⟩:=C;refine J wQ<|J wQ<|J e ?_;cases z:k==X.1 with
   |true=>exact⟨λy=>(nomatch y),λM y=>(by cases y;exact(c7 a (congrArg kZ a8) bo c2))⟩
   |false=>exact D C
theorem Qy (C:B):hj (true^^true) G B:=C
theorem uY (C:G):hj (true^^false) G B:=C
theorem Yl (H:a2 c)(ai:0<=pt)(ao:pt<4194304)(an:ar.fo.lookup pt=By)(C:fk aq aH I ar)(aV:I a=kZ (.list [.int pt,ak])) (bb:∀m Z,bp I Z->er [("symbol",.str "user-error"),("data",.ref m)] Z):jj c 38 12 (.ref 765) [.ref aq.cT,.ref a] ab er I:=by refine jA ?_;intro h;obtain⟨mk,af,bW,last,bu,w⟩:=C;obtain⟨f,eJ⟩:=w.E.eJ;obtain⟨ah,g,L⟩:=w.G;have z:=(An (k:=pt) L).1 an;refine PQ (n:=9) H ⟨H.f 72,di w.E.he eJ rfl ⟨H.f 77,cE (k:=0) aV rfl (c0 rfl)<|ca<|Az H ai ao<|ca<|s7 H w.E g ?_⟩⟩;refine J z<|dd w.E.he eJ rfl (H.m 24)<|ca<|yq H w.E ⟨gV rfl,λt au s=>eY s.at rfl ?_⟩;intros d;refine zj ?_;intro j;have b:=w.ext s.ext;obtain⟨aC,am,P,d9⟩:=b.B.R.d9;obtain⟨i,e⟩:=b.E.eJ;refine di b.B.R.aA d9 rfl<|kN<|z4 (u:=.none) trivial ⟨H.y 0,di b.E.he e rfl<|cE (k:=0) (s.ext _ _ aV) rfl (c0 rfl) ?_⟩;refine(PR (n:=0) H ⟨H.f 72,ca<|s7 H b.E (s.ext _ _ g) ?_⟩).up<|r6 rfl;exact J z<|Jb (u:=.none) trivial ⟨gV rfl,λm aS aT=>bb m aS<|s.ext.trans aT.ext⟩
theorem AH (bI:I a=kZ (.list<|bm A))(ai:i<A.length)(ao:A.length<=100)(C:∀Z,Upd I Z a (.list<|bm<|A.set i pt)->cd Z):m2 (.ref a) (.int i) (.int pt) cd I:= cw bI (by refine J eb ?_;exact ai) (by refine J eb ?_;exact il ao<|by decide) λD u=>C D (by unfold bm;refine J Ce ?_;exact u)
theorem dK.rH (B:dK aq aF q I aZ ar)(u:Upd I au q.P (.list<|bm<|aZ.sp.set i pt)):dK aq aF q au {aZ with sp:=aZ.sp.set i pt} ar/\Fr (jn q) (jk q) No I au:= have F:Fr (b2 q.P) (b2 q.O) No I au:=.lB u B.l.bH.bI rfl;have O:eO q.O q.P (.ref q.L) (.ref q.K) au aZ.aG (aZ.sp.set i pt):=⟨u.keep B.l.bH.bI B.l.bH.bH,u.at⟩;⟨B.own F O,(B.l.own F O).2⟩
theorem Ug (H:a2 c)(ai:0<=last)(ao:last<4194304)(A:ak=.none\/ak=.int 4)(B:dK aq aF q I bG aw)(R:Rel ae bA bG aw aD)(aO:aD<=12)(aj:bG.aG.length<50) (ad:∀Z G aZ ar,(∀a,aF a->G a)->d1 aF I Z->dK aq G q Z aZ ar->Rel ae bA aZ ar (aD+1)->ab (.bool true) Z):jj c 38 13 (.ref 1390) [.ref aq.cT,.ref q.O,.int last,ak] ab er I:=by
 obtain⟨p,v,y,N,Q⟩:=R.AB;refine PT (n:=10) H<|ek B.l.bH.bH rfl<|ll (k:=0) B.l.bH.bI N (bM 3422788609 Q) ?_;have step:∀eX au,bp I au->I eX=By->au eX=kZ (.list [.int last,ak])->jj c 38 12 (.ref 765) [.ref aq.cT,.ref eX] (λu Z=>CB (λas _ Z=>er as Z) (dI c 12 ab) [.ref aq.cT,.ref q.O,.int last,ak,.aK,.aK,.int p] [] Z)
  (λas Z=>∃x,as.lookup ("symbol":Str)=kZ (.str x)/\gc (.ref q.O) (.str "kept") (λd aH=>i5 true (.int last) d (λb aM=>sx b λb=>ab (.bool<|b&&decide (x="user-error")) aM) aH) Z) au:=λeX au U s aI=>by
  refine hr ?_;intro aL;intros bc;have ah:=B.ext U
  have L:d1 aF I au:=.ext U
  cases an:bG.fH.lookup last with
  |none=>refine Yl H ai ao (by refine J R.fo ?_;exact an) ah.w aI λm aS aR=>?_;have h:=ah.ext aR;obtain⟨a0,co,cW⟩:=h.l.bZ;have ap:=(y7 (k:=last) cW).1 an;refine(bb ("user-error") rfl<|ek h.l.bH.bH rfl<|mW (b:=false) co (by show false=_;refine J ap ?_;rfl) ?_);have:=ad aS _ _ _ (λa z=> .inl<|.inl z) (L.trans<|.ext aR) h<|R.up<|Bv aD;show ab (.bool<|(true^^false)&&decide (("user-error":Str)="user-error")) aS;exact J (decide_eq_true rfl)<|this
  |some M=>
   have D:=R.fH _<|Iy an;have D:px M:=D;have W:=R.gL (M:=M) y λr aB=>(D.2 r aB).1;obtain⟨c2,bl,bm,aJ,am⟩:=W.AB;have V:(aw.gL p M).aG=(mr bG p M).aG:=W.aG;have j:(aw.gL p M).n=aw.n:=by unfold hZ.gL;split<;>rfl
   have K:bG.aG.length<=(mr bG p M).aG.length:=by
    unfold mr;by_cases X:M=[]
    ·refine J (if_pos X) ?_;exact nu _
    ·refine J (if_neg X) ?_;exact(K0 R.ok y X λr aB=>(D.2 r aB).1).S0
   have av:=R.n;refine(QS H ah.w (by refine J R.aG ?_;exact R.ok) (A.imp id λe=>⟨4,e⟩) v (by refine J R.aG ?_;exact y) (by refine J R.aG ?_;exact bM 1275210753 aj) (bC 72352323569847809 aO av) ai ao (by refine J R.fo ?_;exact an) D.1 D.2 aI (.inl<|m8 s aI) (dZ 56010772695 bl) (by refine J V ?_;exact gF 5015594253461511 bl bm) (by refine J V ?_;exact me 38195540434355267591 v y K) j λaS k T=>?_).ZV<|j5 3235950817;have h:=ah.keep k T;have ax:=L.trans<|k.dY.sub λa z=> .inl z;obtain⟨a0,co,cW⟩:=h.l.bZ;obtain⟨a,a8,br,aE⟩:=(y7 (k:=last) cW).2 M an;refine ek h.l.bH.bH rfl<|mW (b:=true) co (by show true=(a0.lookup last).isSome;refine J a8 ?_;rfl)<|Qy ⟨H.f 123,ek h.l.bH.bH rfl<|pX co a8<|ca<|HX H h.l.bH R.ok y N aE (λX=>h.l.rP<|X▸br) D.1 D.2 (bM 1275210753 aj) (bM 3422772225 Q) λaM F O=>?_⟩;have ag:dK aq _ q aM (mr bG p M) _:=h.own F O;have aA:=ax.trans<|(h.dY (h.l.own F O).2).sub λa z=> .inl z;refine ek ag.l.bH.bH rfl<|ll (k:=0) ag.l.bH.bI aJ (bM 3422788609 am) ?_;have fin:∀{ay:az} {fM:Addr} {a b:Nat},bp aM ay->ay fM=kZ (.tup [.int a,.int b])->Rel ae bA {mr bG p M with sp:=((mr bG p M).sp.set 0 (a:Int)).set 1 (b:Int)} {aw.gL p M with mp:=kZ (if ak.isNone then(aw.gL p M).pt else aw.pt),n:=aw.n+1,pt:=if ak.isNone then aw.pt else(aw.gL p M).pt} (aD+1)-> xD (λas _ Z=>er as Z) (dI c 12 ab) [.ref aq.cT,.ref q.O,.int last,ak,.int c2,.aK,.int p] [.ref fM] ay:=λ{ay fM a b} x C aP=>by intros aC;have o:=ag.ext x;refine(e5 _ _ C<|ek o.l.bH.bH rfl<|AH (i:=0) o.l.bH.bI (bM 213922034 am) (bM 3422772225 am) λbh t=>?_);have P:=(o.rH t).1;refine ek P.l.bH.bH rfl<|AH (i:=1) P.l.bH.bI (by show 1<((mr bG p M).sp.set 0 _).length;refine J acj ?_;exact bM 213922002 am) (by show((mr bG p M).sp.set 0 _).length<=100;refine J acj ?_;exact bM 3422772225 am) λbv af=>?_;have E:=(P.rH af).1;refine ad bv _ _ _ (λa z=> .inl<|.inl z) (((aA.trans<|.ext x).trans<|(o.dY (o.rH t).2).sub λa z=> .inl<|.inl z).trans<|(P.dY (P.rH af).2).sub λa z=> .inl<|.inl z) E aP
   have S:ak.plain:=by rcases A with rfl|rfl<;>trivial
   have g:ak≠.aK:=by rcases A with rfl|rfl<;>exact nofun
   refine o0 g<|Jb S<|uR (λ(e:ak.isNone=true)=>?_) λ(e:ak.isNone=false)=>?_
   ·refine fy rfl rfl λfM ay bf bq a3=>fin bf a3<|W.ins aJ ?_<|bb p rfl<|b1 4850716929 y K;exact J e<|J (if_pos rfl)<|J (if_pos rfl)<|J bl<|J v<|J j rfl
   ·refine fy rfl rfl λfM ay bf bq a3=>fin bf a3<|W.ins aJ ?_<|bb c2 rfl bm;exact J e<|J (if_neg<|by decide)<|J (if_neg<|by decide)<|J bl<|J v<|J j rfl
 rcases A with rfl|rfl
 ·exact⟨H.f 78,dA rfl rfl step⟩
 ·exact⟨H.f 78,dA rfl rfl step⟩
def Good (aq:hY)(aF:Addr->Prop)(W:kl)(I:az)(hs bA:Addr)(n:Nat)(Z:az):Prop:=∃G N aZ ar,(∀a,aF a->G a)/\d1 aF I Z/\dK aq G {W with L:=N} Z aZ ar/\Rel hs bA aZ ar (n+1)
theorem Good.from (C:Good aq D {q with L:=ae} au l bA i Z)(af:∀a,aF a->D a)(k:d1 aF I au):Good aq aF q I l bA i Z:= tA C λbx ai aZ ar a b d e=>⟨bx,ai,aZ,ar,λx z=>a x<|af x z,k.trans<|b.sub af,d,e⟩
theorem Ki (H:a2 c){K:V->az->Prop}(B:dK aq aF q I aZ ar)(aw:cS aZ.aG)(ax:b<=aZ.aG.length)(he:e<=aZ.aG.length)(aj:aZ.aG.length<50) (ad:∀(l:Addr) G Z,(∀a,aF a->G a)->d1 aF I Z->dK aq G {q with L:=l} Z {aZ with last:=gr aZ.aG b e} ar->K .none Z): be c 2 (.ref 1368) [.ref q.O,.int b,.int e] (λu Z=>m2 (.ref q.O) (.str "rectangle") u (λaH=>K .none aH) Z) I:= HZ H B.l.bH aw ax he (bM 1275206658 aj) λr au U fx aB=>ss (B.ext U).l.bH.bH (gV rfl) λaS u=>by have ah:=B.ext U;have C:=ah.l.YX (l:=r) u ⟨m8 fx aB,aB⟩;exact ad r _ aS (λa z=> .inl z) ((d1.ext U).trans<|(ah.dY C.2).sub λa z=> .inl z)<|ah.to C.2 C.1 λ_ z=> .inl z
theorem ZP (H:a2 c){K:V->az->Prop}{hQ:Int}(B:dK aq aF q I aZ ar)(aw:cS aZ.aG)(ax:b<=aZ.aG.length)(he:e<=aZ.aG.length)(aj:aZ.aG.length<50)(ap:aZ.fH.length<=900) (ad:∀G Z,(∀a,aF a->G a)->d1 aF I Z->dK aq G q Z {aZ with fH:=hw hQ (gr aZ.aG b e) aZ.fH} ar->K .none Z): be c 2 (.ref 1368) [.ref q.O,.int b,.int e] (λu Z=>gc (.ref q.O) (.str "kept") (λo aH=>m2 o (.int hQ) u (λaM=>K .none aM) aH) Z) I:= HZ H B.l.bH aw ax he (bM 1275206658 aj) λr au U fx aB=>by have ah:=B.ext U;obtain⟨a0,co,cW⟩:=ah.l.bZ;have a5:a0.length=aZ.fH.length:=cW.length;refine ek ah.l.bH.bH rfl<|gy co (by refine J wT ?_;exact bC 1116625538049 ap a5) λaS u=>?_;have C:=ah.l.YW (l:=r) (d:=gr aZ.aG b e) co u ⟨m8 fx aB,aB⟩;exact ad _ aS (λa z=> .inl z) ((d1.ext U).trans<|(ah.dY C.2).sub λa z=> .inl z)<|ah.to C.2 C.1 λ_ z=> .inl z
theorem Rel.rc (R:Rel a bA aZ ar e)(C:px h):Rel a bA {aZ with last:=h} {ar with fA:=h} e:=⟨R.aG,R.ok,R.pt,R.sp,rfl,R.fo,C,R.fH,R.fI,R.n⟩
theorem Rel.gH {n:Nat}(R:Rel a bA aZ ar n)(C:px h):Rel a bA {aZ with fH:=hw pt h aZ.fH} {ar with fo:=hw pt h ar.fo} (n+1):= ⟨R.aG,R.ok,R.pt,R.sp,R.fA,congrArg (hw pt h) R.fo,R.last,λX ad=>(XK ad).elim (λz=>z▸C) λz=>R.fH X z,nf XJ<|t4 R.fI,abF R.n⟩
theorem aah (C:e<6):∃w:Str,[V.str ("delete":Str),.str ("open":Str),.str ("clear":Str),.str ("close":Str),.str ("string":Str),.str ("number":Str)][e]?=kZ (.str w)/\(w="string"\/w="number"\/w="open"\/w="clear"\/w="close"\/w="delete"):=by
 match e,C with
 |0,_=>exact(bb _ rfl<|.inr<|.inr<|.inr<|.inr<|.inr rfl)
 |1,_=>exact(bb _ rfl<|.inr<|.inr<|.inl rfl)
 |2,_=>exact(bb _ rfl<|.inr<|.inr<|.inr<|.inl rfl)
 |3,_=>exact(bb _ rfl<|.inr<|.inr<|.inr<|.inr<|.inl rfl)
 |4,_=>exact(bb _ rfl<|.inl rfl)
 |5,_=>exact(bb _ rfl<|.inr<|.inl rfl)
 |e+6,C=>exact absurd C<|dG 416081305732
theorem aac (H:a2 c)(ai:0<=pt)(ao:pt<4194304)(A:ak=.none\/ak=.int 4)(B:dK aq aF q I bG aw)(R:Rel ae bA bG aw j)(aO:j<=12)(ax:aL<=bG.aG.length)(he:e<=bG.aG.length)(aj:bG.aG.length<50)
  (ad:∀Z,Good aq aF q I ae bA j Z->ab (.bool true) Z):Cy ig (dI c 13 ab) [.ref aq.cT,.ref q.O,.ref q.eQ,aJ,.int aL,.int e,ak,.int pt,.int aD,.aK] [] I:=by
 intros a8;have aa:=R.aG
 have bt:cS aw.aG:=aa▸R.ok
 have aQ:aL<=aw.aG.length:=by refine J aa ?_;exact ax
 have t:e<=aw.aG.length:=by refine J aa ?_;exact he
 have N:aw.aG.length<=40000:=by refine J aa ?_;exact bM 1337185521507841 aj
 have D:=Rq R.ok ax he aj
 have nJ:gr aw.aG aL e=gr bG.aG aL e:=J aa rfl
 have a5:=R.fI
 have av:=R.n
 have dl:(bk bG.aG aL e).length<=50:=by have:=(gH R.ok ax he).fx;exact bC 3685568547539969 aj this
 have g:ak≠.aK:=by rcases A with rfl|rfl<;>exact nofun
 have S:ak.plain:=by rcases A with rfl|rfl<;>trivial
 refine qV<|cx (λ_=>?_) λ_=>qV<|cx (λ_=>?_) λ_=>?_
 ·--aW
  refine⟨H.f 81,dt<|dt<|dA rfl rfl λeX au U s aI=>ca<|QQ H (B.ext U).w bt aQ t N aI λaS k T=>?_⟩
  have h:=(B.ext U).keep k T
  refine⟨H.f 121,ca<|Ki H (K:=λu Z=>ab (.bool true) Z) h R.ok ax he aj λl G aM af dY ag=>ad aM ?_⟩
  refine⟨G,l,_,_,λa z=>af a<|.inl z,((d1.ext U).trans<|k.dY.sub λa z=> .inl z).trans<|dY.sub λa z=> .inl z,ag,?_⟩
  exact J nJ<|(R.rc D).up<|Bv j
 ·--aX
  refine⟨H.f 80,dt<|dt<|dA rfl rfl λeX au U s aI=>ca<|QT H (B.ext U).w bt aQ t N aI λaS k T=>?_⟩
  have h:=(B.ext U).keep k T
  refine⟨H.f 121,ca<|Ki H (K:=λu Z=>xC ig (dI c 13 ab) [.ref aq.cT,.ref q.O,.ref q.eQ,aJ,.int aL,.int e,ak,.int pt,.int aD,.aK] [] Z) h R.ok ax he aj λl G aM af dY ag=>?_⟩
  have ag:dK aq G {q with L:=l} aM {bG with last:=gr bG.aG aL e} (mm "delete" {aw with fA:=gr aw.aG aL e} aL e<|cZ "delete" bG.aG aL e [] 1):=by
   refine a6 aa<|J v3 ?_;exact aa▸ag
  have aH:Rel ae bA {bG with last:=gr bG.aG aL e} {aw with fA:=gr aw.aG aL e} j:=by refine J nJ ?_;exact R.rc D
  refine⟨H.f 122,ca<|u4 H (.inr<|.inr<|.inr<|.inr<|.inr rfl) ag aH ax he aj ⟨by decide,iE⟩ (by decide) (by decide) λay az o aE=>ad ay ?_⟩
  exact⟨G,l,_,_,λa z=>af a<|.inl z,(((d1.ext U).trans<|k.dY.sub λa z=> .inl z).trans<|dY.sub λa z=> .inl z).trans<|az.sub λa z=>af a<|.inl z,o,aE.up<|Bv j⟩
 refine fy rfl rfl λaC au U s aI=>mW (b:=[(2:Int),3].any (· ==(aD:Int))) aI ⟨[2,3],rfl,rfl⟩<|uR (b:=false^^_) (λ_=>?_) λ_=>?_
 ·--gL
  refine⟨H.f 83,dA rfl rfl λeX aS aR aT bd=>?_⟩
  obtain⟨p,el,dg,g2,ap⟩:=R.AB
  obtain⟨x,bl,bm,C⟩:=R.mark
  have h:=B.ext<|U.trans aR
  have Q:x=(p:Int):=by rw[bl] at g2;exact kZ.inj g2
  refine ca<|QW H h.w bt el (by refine J aa ?_;exact dg) (by refine J aa ?_;exact bM 1275210753 aj) (bC 72352323569847809 aO av) (by refine J R.fA ?_;exact R.last.1) (by refine J R.fA ?_;exact R.last.2) (v:=.ref eX) (nofun) λaM k T=>?_
  have ag:=h.keep k T
  refine ek ag.l.bH.bH rfl<|ll (k:=0) ag.l.bH.bI bl (bM 3422788609 ap)<|ek ag.l.bH.bH rfl<|AH (i:=1) ag.l.bH.bI (bM 213922002 ap) (bM 3422772225 ap) λay aU=>?_
  have o:=(ag.rH aU).1
  have V:d1 aF I ay:=((d1.ext<|U.trans aR).trans<|k.dY.sub λa z=> .inl z).trans<|(ag.dY (ag.rH aU).2).sub λa z=> .inl z
  refine⟨H.f 123,ek o.l.bH.bH rfl<|ca<|HX H o.l.bH R.ok dg (by show(bG.sp.set 1 x)[0]?=_;exact J (ab7<|by decide)<|J g2 rfl) o.l.cj.2 (λX=>o.l.rP<|X▸o.l.cj.1) R.last.1 R.last.2 (by show bG.aG.length<=60;exact bM 1275210753 aj) (by show(bG.sp.set 1 x).length<=100;refine J acj ?_;exact bM 3422772225 ap) λbh F O=>ad bh ?_⟩
  have P:=o.own F O
  have W:=C.gL (M:=bG.last) dg λr aB=>(R.last.2 r aB).1
  refine⟨_,q.L,mr {bG with sp:=bG.sp.set 1 x} p bG.last,_,λa z=> .inl z,V.trans<|(o.dY (o.l.own F O).2).sub λa z=> .inl z,P,?_⟩
  have e:(if aw.fA=[] then{aw with mp:=kZ aw.pt,n:=aw.n+1} else{aw with mp:=kZ aw.pt,n:=aw.n+1}.move (n5 aw.aG p aw.fA) (kS aw.aG p aw.fA) (mq aw.aG p aw.fA))=hZ.gL {aw with mp:=kZ aw.pt,n:=aw.n+1} p bG.last:=by refine J R.fA ?_;rfl
  exact J e<|W
 refine fy rfl rfl λam aS aR aT bd=>mW (b:=[(4:Int),5].any (· ==(aD:Int))) bd ⟨[4,5],rfl,rfl⟩ ?_
 have aN:=U.trans aR
 have h:=B.ext aN
 refine uR (b:=false^^_) (λ_=>?_) λ_=>?_
 ·--to a register
  refine zj ?_;intro aY;have go:∀eX aM,bp aS aM->aS eX=By->aM eX=kZ (.list [.int pt,.int<|(aL:Int)+1,.int<|(e:Int)+1,ak])->nw c 13 (.ref 772) [.ref aq.cT,.ref eX] (λ_ Z=>CA ig (dI c 13 ab) [.ref aq.cT,.ref q.O,.ref q.eQ,aJ,.int aL,.int e,ak,.int pt,.int aD,.aK] [] Z) aM:=λeX aM bj a9 bn=>by
   have ag:=h.ext bj
   refine ca<|QU H ag.w bt (A.imp id λe=>⟨4,e⟩) aQ t N ai ao (by refine J R.fo ?_;exact bC 282626264005633 aO a5) bn (.inl<|m8 a9 bn) λay k T=>?_
   have o:=ag.keep k T
   have V:d1 aF I ay:=((d1.ext aN).trans<|.ext bj).trans<|k.dY.sub λa z=> .inl<|.inl z
   refine⟨H.f 121,ca<|ZP H (hQ:=pt) (K:=λu Z=>Cz ig (dI c 13 ab) [.ref aq.cT,.ref q.O,.ref q.eQ,aJ,.int aL,.int e,ak,.int pt,.int aD,.aK] [] Z) o R.ok ax he aj (bC 282626264005633 aO a5) λG bh af dY P=>?_⟩
   have m:Rel ae bA {bG with fH:=hw pt (gr bG.aG aL e) bG.fH} {aw with fo:=hw pt (gr aw.aG aL e) aw.fo} (j+1):=by refine J nJ ?_;exact R.gH D
   refine o0 g<|z4 S<|uR (λ(X:(!ak.isNone)=true)=>?_) λ(X:(!ak.isNone)=false)=>?_
   ·have X:ak.isNone=false:=by simpa using X
    rw[X,if_neg<|by decide] at P
    have P:dK aq G q bh {bG with fH:=hw pt (gr bG.aG aL e) bG.fH} (mm "delete" {aw with fo:=hw pt (gr aw.aG aL e) aw.fo} aL e<|cZ "delete" bG.aG aL e [] 1):=by
     refine a6 aa<|J v3 ?_;exact aa▸P
    refine⟨H.f 122,ca<|u4 H (.inr<|.inr<|.inr<|.inr<|.inr rfl) P m ax he aj ⟨by decide,iE⟩ (by decide) (by decide) λbv aA E ah=>ad bv ?_⟩
    exact⟨G,q.L,_,_,λa z=>af a<|.inl<|.inl z,(V.trans<|dY.sub λa z=> .inl<|.inl z).trans<|aA.sub λa z=>af a<|.inl<|.inl z,E,ah⟩
   ·have X:ak.isNone=true:=by simpa using X
    rw[X,if_pos rfl] at P
    exact ad bh ⟨G,q.L,_,_,λa z=>af a<|.inl<|.inl z,V.trans<|dY.sub λa z=> .inl<|.inl z,P,m⟩
  rcases A with rfl|rfl<;>exact⟨H.f 79,dt<|dt<|dA rfl rfl go⟩
 refine qV<|cx (λ_=>?_) λ_=>?_
 ·--from a register
  have go:jj (dI c 13 ab).c 38 13 (.ref 1390) [.ref aq.cT,.ref q.O,.int pt,ak] ab (λas Z=>ig as [.ref aq.cT,.ref q.O,.ref q.eQ,aJ,.int aL,.int e,ak,.int pt,.int aD,.aK] Z) aS:=
   Ug H ai ao A h R aO aj λZ G aZ ar af dY a0 aP=>ad Z ⟨G,q.L,aZ,ar,λa z=>af a<|.inl z,(d1.ext aN).trans<|dY.sub λa z=> .inl z,a0,aP⟩
  rcases A with rfl|rfl<;>exact⟨H.y 2,go⟩
 ·--a a4
  refine dA rfl rfl λa3 aM bj a9 bn=>⟨H.f 116,ca<|nI H (h.ext bj) (ew:=6) (by decide) (by decide) λv ay aV bK o=>?_⟩
  obtain⟨w,a1,an⟩:=aah aV
  have d:d1 (mL (mL aF I aS) aS aM) aM ay:=(h.ext bj).dY bK
  refine cE (k:=v) (d _ _ (m8 a9 bn) bn) a1 (c0 rfl) ⟨H.f 125,ca<|Uj H an o R ax he aj λZ G aZ ar af dY a0 aP=>ad Z ?_⟩
  exact⟨G,q.L,aZ,ar,λa z=>af a<|.inl<|.inl z,(((d1.ext aN).trans<|.ext bj).trans<|d.sub λa z=> .inl<|.inl z).trans<|dY.sub λa z=> .inl<|.inl z,a0,aP.up<|Bv j⟩
theorem Yi (C:e<2):∃h:V,[V.none,.int 4][e]?=kZ h/\(h=.none\/h=.int 4):=by
 match e,C with
 |0,_=>exact(bb _ rfl<|.inl rfl)
 |1,_=>exact(bb _ rfl<|.inr rfl)
 |e+2,C=>exact absurd C<|dG 141199204484
theorem Ud {W:kl}(H:a2 c)(B:dK aq aF W I aZ ar)(R:Rel ae bA aZ ar b)(aO:b<=12)(aj:aZ.aG.length<50)(ad:∀Z,Good aq aF W I ae bA b Z->ab (.bool true) Z):jj c 38 14 (.ref 1404) [.ref aq.cT,.ref W.O,.ref W.eQ] ab er I:=by refine PS (n:=11) H<|ek B.l.bH.bH rfl<|hx (bM 1275202561 aj)<|jq (m:=((aZ.aG.length+1:Nat):Int)) rfl ⟨H.f 116,ca<|nI H B (ew:=2) (by decide) (by decide) λbX au cc ba ah=>?_⟩;intros a8;refine jq (m:=((97+bX:Nat):Int)) (dG 27319058783342217)<|dA rfl rfl λbW aS aR aT bd=>⟨H.f 116,ca<|nI H (ah.ext aR) (ew:=2) (by decide) (by decide) λp aM j a7 ag=>?_⟩;obtain⟨h,q,A⟩:=Yi j;have d:d1 (mL aF au aS) aS aM:=(ah.ext aR).dY a7;have y:d1 aF I aM:=((B.dY ba).trans<|.ext aR).trans<|d.sub λa z=> .inl z;refine cE (k:=p) (d _ _ (m8 aT bd) bd) q (c0 rfl)<|fy rfl rfl λaC ay bf bq a3=>eY a3 rfl ?_;intros V;have o:=ag.ext bf;refine⟨H.f 116,ca<|nI H o (ew:=aZ.aG.length+1) (dG 854258) (bM 326461345922 aj) λs bh ax K P=>⟨H.f 116,ca<|nI H P (ew:=aZ.aG.length+1) (dG 854258) (bM 326461345922 aj) λe bv he aJ E=>⟨H.f 116,ca<|nI H E (ew:=12) (by decide) (by decide) λt bO a1 Q i=>?_⟩⟩⟩;refine fy rfl rfl λam bz aN aV bk=>eY bk rfl ?_;have r:d1 aF I bz:=((((y.trans<|.ext bf).trans<|(o.dY K).sub λa z=> .inl<|.inl z).trans<|(P.dY aJ).sub λa z=> .inl<|.inl z).trans<|(E.dY Q).sub λa z=> .inl<|.inl z).trans<|.ext aN;exact aac H (dG 1628343031) (bM 39744100402622114659625128 cc) A (i.ext aN) R aO (bC 3514835201 ax) (bC 3514835201 he) aj λZ g=>ad Z<|g.from (λa z=> .inl<|.inl<|.inl z) r
theorem GD (aE:I a=kZ (.list aa))(aA:I ae=kZ (.list am))(aQ:cc (hG I) aa h)(a1:cc (hG I) am h):e0 I 2 (.ref a) (.ref ae) true:=by
 by_cases X:a=ae
 ·refine a6 X ?_;exact .same aE
 ·refine .zn (λq=>true) X aE aA (aQ.length.trans a1.length.symm) (λj u w ai ao=>?_) (by simp);obtain⟨xs,a7,x,rfl,Q⟩:=aQ.get' ai;obtain⟨bw,bR,y,rfl,G⟩:=a1.get' ao;replace bR:=a7▸bR;cases bR;have:=yw Q G 0;rwa[decide_eq_true rfl] at this
theorem eh.JG {M:List (List Int)}(C:eh aF I u M):∃a aa,u=.ref a/\I a=kZ (.list aa)/\cc (hG I) aa M:=cq C λa aa e q g r=>(dM a aa e g<|r.mono λq q X=>X.rw)
theorem MP (H:a2 c)(C:bQ W I A pt ak af)(ad:lR ab I A):be c 2 (.ref 990) [.ref W.b,.int 1,.int<|(A.length:Nat)+1] ab I:=by have:=uI H C (s:=0) (e:=A.length) (BK _) (nu _) (ab:=ab) (by refine J oe<|J kW ?_;exact ad);exact this
theorem Bq (C:∀x∈A,0<=x/\x<128):(zs A).cps.all (· <128)=true:=by refine a6 ug<|m5 abe ?_;intro y G;obtain⟨x,Q,rfl⟩:=yB.mp (show y∈A.map abG from G);have:=C x Q;exact decide_eq_true<|dZ 4081447434456578 this.2 rfl
theorem z8 (C:∀x∈A,0<=x/\x<128)(aj:A.length<=150000)(ad:fj (bm A) I):km (.str<|zs A) (ow bq<|bD 0<|cG nG dh bf) e7 fj I:= z7 (by show(A.map abG).length<=_;refine J (aa0 _) ?_;refine J wT ?_;exact nf aj<|by decide) (by refine J (t0 λx Q=>(C x Q).1) ?_;exact ad)
theorem Xz (C:bU A):∀x∈A,0<=x/\x<128:=λx Q=>by have:=C x Q;have ai:32<=x:=this.1;have ao:x<127:=this.2;exact⟨c4 14446839 ai,c4 139698248879624 ao⟩
theorem z6 (C:cS A):∀x∈A,0<=x/\x<128:=λx Q=>by
 rcases C x Q with rfl|C
 ·decide
 ·have ai:32<=x:=C.1;have ao:x<127:=C.2;exact⟨c4 14446839 ai,c4 139698248879624 ao⟩
theorem Im (aB:I ae=kZ (.list<|cP h))(ax:px h)(he:∀ag Z,bp I Z->cc (hG Z) ag h->fj ag Z):km (.list ae) (ow bq xK) e7 fj I:=by
 have an:=ax.1;refine zp (λag Z=>bp I Z/\cc (hG Z) ag (h.take ag.length)) (by refine J hR ?_;exact wA<|bM 3959491585 an) ⟨.refl,trivial⟩ (λag Z C=>C.1 _ _ aB) (λag Z u C aQ=>?_) λag Z C aV=>?_
 ·replace aQ:=qw▸aQ;obtain⟨aC,l,rfl⟩:=ud.mp aQ;have aP:=ax.2 _<|jI l;have q:=Xz aP.1;refine⟨Bq q,z8 q (bM 738307073 aP.2) λa D r=>⟨C.1.trans r.ext,?_⟩⟩;exact J nb<|J hC<|J uc<|J jH<|J l<|(C.2.mono λ_ _ X=>X.ext r.ext).append ⟨(bb a rfl r.at),trivial⟩
 ·replace aV:=hR▸aV;have:=C.2;rw[aV,oe] at this;exact he ag Z C.1 this
theorem HJ (C:f3 W I af)(he:∃e∈af,e.a=a/\e.pos=pt)(aP:ad (.int pt)):d2 I a "position" ad:=by obtain⟨e,he,rfl,rfl⟩:=he;exact lm C he aP
theorem dK.len (B:dK aq aF q I aZ ar)(R:Rel ae bA aZ ar i):aZ.aG.length<=150000:=by obtain⟨_,_,_,_,_,_,w⟩:=B;obtain⟨a,b,d,e,G⟩:=w.B.T;have:=G.aj;exact a6 R.aG<|J e<|J nb<|b1 48433523738808449 this
theorem HV {W:kl}(H:a2 c)(B:dK aq aF W I aZ ar)(R:Rel cl bA aZ ar aD)(M:I ae=kZ (.list [.ref cl,.ref bA]))(ad:∀Z,bp I Z->ab (.bool true) Z):be c 3 (.ref 1383) [.ref aq.cT,.ref ae,.ref W.O] ab I:=by
 have aj:=B.len R;obtain⟨l,mk,af,bW,last,bu,w⟩:=B;obtain⟨f,eJ⟩:=w.E.eJ;obtain⟨aC,am,P,d9⟩:=w.B.R.d9;have q:=z6 R.ok;refine O6 (n:=2) H<|dd w.E.he eJ rfl (H.m 24)<|ca<|yq H w.E<|ek l.bH.bH rfl<|gd l.cj.2<|Im l.cj.2 R.last λag au U ba A aS aT=>fy rfl rfl λfM aM bj a9 bn=>eY bn rfl ?_;have N:=(U.trans aT.ext).trans bj;have D:aM A=kZ (.list ag):=bj _ _ aT.at;have ba:cc (hG aM) ag aZ.last:=ba.mono λ_ _ X=>X.ext<|aT.ext.trans bj;have aL:=w.ext N;refine dd aL.B.R.aA (N _ _ d9) rfl (H.m 16)<|dd aL.B.R.aA (N _ _ d9) rfl (H.m 14)<|ca<|FZ H aL.B<|dt<|ca<|MP H aL.B λp ay bf np aP=>?_;have aw:=N.trans bf;have bT:=l.keep<|ds.ext aw;refine ek bT.bH.bH rfl ⟨Bq q,z8 q (bM 2885790721 aj) λF bh y=>?_⟩;have aH:=aw.trans y.ext;refine I6 (y.ext _ _ aP) y.at (mn (λaX=>(aX R.aG).elim) λ_=>?_);have bg:=w.ext aH;have bq:bp aM bh:=bf.trans y.ext;have aU:cc (hG bh) ag aZ.last:=ba.mono λ_ _ X=>X.ext bq;obtain⟨bG,bY,hp,a1,bJ⟩:=bg.R.JG;subst hp;refine GL bg.E<|dM (2) true (by decide) (GD a1 (bq _ _ D) (R.fA▸bJ) aU) ?_;refine fy rfl rfl λfD bv bL h az=> .inr<|bb _ az ?_;have bo:=aH.trans bL;let E:Nat->V×V->List V:=λ_ x=>[.ref aq.cT,.ref ae,.ref W.O,.ref A,x.1,.ref aq.b,x.2,.aK];refine rh (len:=2) (λj=>[([V.int 97,.int 98][j]?).getD .aK]) E (λ_ _ Z=>bp bv Z) (a:=(.aK,.aK)) rfl .refl (λj x Z C=>(bb _ (C _ _ az) ?_)) (λj x bO bw bi=>?_) λx bO bw=>?_
 ·match j with
  |0=>rfl
  |1=>rfl
  |j+2=>refine J (if_neg<|dG 141199204484) ?_;rfl
 ·obtain⟨hQ,bQ⟩:∃hQ,([V.int 97,.int 98][j]?).getD .aK=.int hQ:=by
   match j,bi with
   |0,_=>exact⟨_,rfl⟩
   |1,_=>exact⟨_,rfl⟩
   |j+2,C=>exact absurd C<|dG 141199204484
  refine J bQ ?_;have ak:=bo.trans bw;have o:=w.ext ak;have aB:=l.keep<|ds.ext ak;obtain⟨a0,bZ,Q⟩:=aB.bZ;obtain⟨ah,g,L⟩:=o.G;have a5:=y7 (k:=hQ) Q;have ax:=An (k:=hQ) L;replace ax:=R.fo▸ax;refine ek aB.bH.bH rfl<|mW (b:=(a0.lookup hQ).isSome) bZ rfl ?_;cases e:aZ.fH.lookup hQ with
  |none=>refine J (a5.1 e)<|⟨H.f 72,sP o.E<|ca<|s7 H o.E g ?_⟩;exact J (ax.1 e)<|(dM (0) true (by decide) .none<|eC.mk (E:=E 0) (.none,.int hQ) bw)
  |some dQ=>
   obtain⟨a,a8,br,aE⟩:=a5.2 dQ e;obtain⟨t,r,z,av,aQ⟩:=ax.2 dQ e;obtain⟨bX,b0,rfl,bE,bK⟩:=aQ.JG;refine J a8<|ek aB.bH.bH rfl<|pX bZ a8<|gd aE<|Im aE (R.fH _<|Iy e) λbc bz aN bR bV aO S=>fy rfl rfl λaa bD aY an bS=>?_;have al:=(aN.trans S.ext).trans aY;have bd:=o.ext al;refine⟨H.f 72,sP bd.E<|ca<|s7 H bd.E (al _ _ g) ?_⟩;refine J z ?_;have aX:t≠aa:=λX=>by have:=(aN.trans S.ext) _ _ av;rw[X,an] at this;cases this
   refine(dM (3) true (by decide) (.ZZ (λ_=>true) aX (al _ _ av) bS rfl (λi u v ai ao=>?_) rfl)<|eC.mk (E:=E 0) (.ref aa,.int hQ)<|bw.trans al);match i with
   |0=>cases ai;cases ao;exact .of (.str _ _) (beq_self_eq_true _).symm
   |1=>cases ai;cases ao;exact GD (al _ _ bE) (aY _ _ S.at) (bK.mono λ_ _ X=>X.ext al)<|bR.mono λ_ _ X=>X.ext<|S.ext.trans aY
   |i+2=>cases ai
 ·have ak:=bo.trans bw;have o:=w.ext ak;have aB:=l.keep<|ds.ext ak;obtain⟨m,bl,bm,bN,bP,aW⟩:=R.sp;have bZ:=o.K;replace bZ:=bN▸bZ;obtain⟨aI,bt,rfl,_,bC⟩:=bZ;have a3:=o.ex (cl,bl) (by refine J bP ?_;exact .head _);have aR:=o.ex (bA,bm) (by refine J bP ?_;exact .tail _<|.head _);refine k7 o.B.R<|dC<|nA o.B.R<|lm o.B.R.hm bt<|dC<|dA rfl rfl λaJ bz aN aV bk=>gd ((ak.trans aN) _ _ M) ?_;have bU:=o.ext aN;refine oV (len:=2) (λj=>[([V.ref cl,.ref bA][j]?).getD .aK]) (λj=> .int (if j=0 then bl -1 else bm -1)) (by decide) (λj Z x=>(bb _ (x _ _<|(ak.trans aN) _ _ M) ?_)) (λj Z K x bi ap=>?_) λaO s a4 bD an=>?_
  ·match j with
   |0=>rfl
   |1=>rfl
   |j+2=>refine J (if_neg<|dG 141199204484) ?_;rfl
  ·have T:=bU.ext x;match j,bi with
   |0,_=>exact HJ T.B.R.hm (nW a3 λe a _ b d=>(c7 e a b d))<|dC<|ap _ .refl
   |1,_=>exact HJ T.B.R.hm (nW aR λe a _ b d=>(c7 e a b d))<|dC<|ap _ .refl
   |j+2,C=>exact absurd C<|dG 141199204484
  ·have bs:=an.ext _ _<|s _ _ bk;refine qd bs an.at (gV rfl) λbx bF a7=>?_;have bB:=((((ak.trans aN).trans s).trans an.ext).trans a7.ext);have a6:=l.keep<|ds.ext bB;refine ek a6.bH.bH rfl<|I4 (xs:=[ar.pt -1,aI.pos -1,bl -1,bm -1]) (a7.at.trans rfl) a6.bH.bI ?_;exact J (decide_eq_true<|by rw[aW,bC])<|ad bF bB
theorem oW {n:Nat}(C:dN (n+1) 900=true):n<900:=r6 C
theorem Ma (H:a2 c)(ad:∀a Z,bp I Z->ab (.ref a) Z):be c 2 (.ref 1153) [] ab I:=by refine mY H.ok (H.k 0) λa d au m=>NN (n:=0) H<|ie m.d3 m.id (H.d 0) (oW<|by ext) λe bq=>?_;replace m:=m.step bq;refine ie m.d3 m.id (H.d 1) (oW<|by ext) λe bq=>?_;replace m:=m.step bq;exact⟨rfl,ad _ _ m.ext⟩
theorem Mo (H:a2 c)(ad:∀a d rc Z,bp I Z->I a=By->I d=By->I rc=By->Z a=kZ (.inst 704 d)->Z d=kZ (.attrs 704<|u7<|.ref rc)->Z rc=kZ (.cu [])->ab (.ref a) Z):be c 2 (.ref 704) [] ab I:=by refine mY H.ok (H.k 8) λa d au m=>Oo (n:=0) H<|λrc e j=>?_;have bK:=m.ext.none j.1;have s:=j.at;replace m:=m.grow j.ext;refine ie m.d3 m.id (H.d 74) (oW<|by ext) λe bq=>?_;replace s:=bq.keep m.id s;replace m:=m.step bq;replace m:=Vs▸m;exact⟨rfl,ad _ _ _ _ m.ext m.na m.d5 bK m.d3 m.id s⟩
theorem Mb (H:a2 c)(ad:∀fR jr fs h7 eI Z,bp I Z->I fR=By->I jr=By->I fs=By->I h7=By->I eI=By->h7≠eI->Z fR=kZ (.inst 1132 jr)->Z jr=kZ (.attrs 1132<|mN (.ref fs) (.ref h7) (.int 0) (.int 0) (.int 0)<|.ref eI)-> Z fs=kZ (.cu [])->Z h7=kZ (.list [])->Z eI=kZ (.list [])->ab (.ref fR) Z):be c 2 (.ref 1132) [] ab I:=by refine mY H.ok (H.k 2) λa d au m=>NR (n:=0) H<|λfs e j=>?_;have ap:=m.ext.none j.1;have fG:=j.at;replace m:=m.grow j.ext;refine gm m (H.d 22) (by ext) ?_;intro f e bq m;replace fG:=bq fG nofun;refine abx (gV rfl) λh7 e j=>?_;have y:=m.ext.none j.1;replace fG:=j.ext _ _ fG;have b:=j.at;replace m:=m.grow j.ext;refine gm m (H.d 23) (by ext) ?_;intro h e bq m;replace fG:=bq fG nofun;replace b:=bq b nofun;refine gm m (H.d 24) (by ext) ?_;intro g e bq m;replace fG:=bq fG nofun;replace b:=bq b nofun;refine gm m (H.d 25) (by ext) ?_;intro i e bq m;replace fG:=bq fG nofun;replace b:=bq b nofun;refine gm m (H.d 26) (by ext) ?_;intro l e bq m;replace fG:=bq fG nofun;replace b:=bq b nofun;refine abx (gV rfl) λeI e j=>?_;have aX:=de b j.1;have aW:=m.ext.none j.1;replace fG:=j.ext _ _ fG;replace b:=j.ext _ _ b;have B:=j.at;replace m:=m.grow j.ext;refine gm m (H.d 27) (by ext) ?_;intro o e bq m;replace fG:=bq fG nofun;replace b:=bq b nofun;replace B:=bq B nofun;replace m:=m.as Vm;exact⟨rfl,ad _ _ _ _ _ _ m.ext m.na m.d5 ap y aW aX m.d3 m.id fG b B⟩
theorem Mg (H:a2 c)(ad:∀cT la eU bu (f:Nat->V) Z,bp I Z->I cT=By->I la=By->I eU=By->I bu=By->Z cT=kZ (.inst 1321 la)-> Z la=kZ (.attrs 1321<|jt (.ref ae) (f 1) (f 2) (f 3) (f 4) (f 5) (f 6) (f 7) (f 8) (f 9) (f 10) (f 11) (f 12) (f 13) (f 14) (f 15) (f 16) (f 17) (f 18) (f 19) (.ref eU) (f 21) (f 22) (f 23) (f 24) (f 25) (f 26) (f 27) (f 28) (.int 8) (.ref bu) (f 31)<|f 32)-> Z eU=kZ (.cu [])->Z bu=kZ (.list [])->ab (.ref cT) Z):be c 4 (.ref 1321) [.ref ae,.none,.none] ab I:=by refine mY H.ok (H.k 3) λa d au m=>N6 (n:=2) H<|bJ ?_;intro y;refine jA ?_;intro ah;refine eW m (H.d 28) (by ext) ?_;intro o e m;refine eW m (H.d 29) (by ext) ?_;intro p e m;refine eW m (H.d 30) (by ext) ?_;intro q e m;refine λh e j=>?_;replace m:=m.grow j.ext;refine eW m (H.d 31) (by ext) ?_;intro r e m;refine abx (gV rfl) λl e j=>?_;replace m:=m.grow j.ext;refine eW m (H.d 32) (by ext) ?_;intro s e m;refine eW m (H.d 33) (by ext) ?_;intro t e m;refine eW m (H.d 34) (by ext) ?_;intro u e m;refine eW m (H.d 35) (by ext) ?_;intro v e m;refine eW m (H.d 36) (by ext) ?_;intro w e m;refine eW m (H.d 37) (by ext) ?_;intro x e m;refine eW m (H.d 38) (by ext) ?_;intro z e m;refine eW m (H.d 39) (by ext) ?_;intro A e m;refine eW m (H.d 40) (by ext) ?_;intro B e m;refine eW m (H.d 41) (by ext) ?_;intro D e m;refine eW m (H.d 42) (by ext) ?_;intro F e m;refine eW m (H.d 43) (by ext) ?_;intro G e m;refine eW m (H.d 44) (by ext) ?_;intro J e m;refine eW m (H.d 45) (by ext) ?_;intro K e m;refine λg e j=>?_;replace m:=m.grow j.ext;refine eW m (H.d 46) (by ext) ?_;intro L e m;refine λrun e j=>?_;replace m:=m.grow j.ext;refine eW m (H.d 47) (by ext) ?_;intro M e m;refine λeU e j=>?_;have C:=m.ext.none j.1;have ea:=j.at;replace m:=m.grow j.ext;refine gm m (H.d 48) (by ext) ?_;intro N e bq m;replace ea:=bq ea nofun;refine abx (H.k 0).keep<|ca<|Ma H λb e hy=>?_;replace ea:=hy _ _ ea;replace m:=m.grow hy;refine gm m (H.d 49) (by ext) ?_;intro O e bq m;replace ea:=bq ea nofun;refine gm m (H.d 50) (by ext) ?_;intro P e bq m;replace ea:=bq ea nofun;refine gm m (H.d 51) (by ext) ?_;intro Q e bq m;replace ea:=bq ea nofun;refine gm m (H.d 52) (by ext) ?_;intro R e bq m;replace ea:=bq ea nofun;refine gm m (H.d 53) (by ext) ?_;intro S e bq m;replace ea:=bq ea nofun;refine gm m (H.d 54) (by ext) ?_;intro T e bq m;replace ea:=bq ea nofun;refine gm m (H.d 55) (by ext) ?_;intro U e bq m;replace ea:=bq ea nofun;refine gm m (H.d 56) (by ext) ?_;intro W e bq m;replace ea:=bq ea nofun;refine gm m (H.d 57) (by ext) ?_;intro X e bq m;replace ea:=bq ea nofun;refine abx (gV rfl) λbu e j=>?_;have E:=m.ext.none j.1;replace ea:=j.ext _ _ ea;have hp:=j.at;replace m:=m.grow j.ext;refine gm m (H.d 58) (by ext) ?_;intro aa e bq m;replace ea:=bq ea nofun;replace hp:=bq hp nofun;refine gm m (H.d 59) (by ext) ?_;intro af e bq m;replace ea:=bq ea nofun;replace hp:=bq hp nofun;refine gm m (H.d 60) (by ext) ?_;intro ag e bq m;replace ea:=bq ea nofun;replace hp:=bq hp nofun;replace m:=m.as Vn;exact⟨rfl,ad a d eU bu (λi=>fX (V.none::V.none::V.none::V.ref h::V.ref l::V.none::V.none::V.none::V.none::V.none::V.none::V.none::V.none::V.none::V.none::V.none::V.none::V.none::V.ref g::V.ref run::V.none::V.ref b::V.str ""::V.bool false::V.bool false::V.none::V.none::V.none::V.int 70::V.none::V.none::V.none::V.none::[]) i) _ m.ext m.na m.d5 C E m.d3 m.id ea hp⟩
def xo (g bs cl fM kJ ee:Addr)(I:az):Prop:=gO g bs cl I []/\I fM=kZ (.inst 201 kJ)/\I kJ=kZ (.attrs 201<|lb<|.ref ee)/\I ee=kZ (.cu [])
def Cm (g bs cl fM kJ ee ls:Addr)(I:az):Prop:=xo g bs cl fM kJ ee I/\I ls=kZ (.list [])
def xu (cd:az->Prop):Prop:=∀{I D:az} {d:Addr} {ah:List (Str×V)} {o:O},I d=kZ (.attrs 1028 ah)->Upd I D d o->cd I->cd D
theorem lX:xu (xo a bs cl l N bA):=λhd k j=>i7 j λT ai ao a7=> ⟨T.fr (L:=No) (D:=No) (ae:=λK=>K=1028) (.iK k hd rfl) id<|by decide,k.keep hd ai,k.keep hd ao,k.keep hd a7⟩
theorem pE:xu (Cm a bs cl ae l N bA):=λhd k j=>⟨lX hd k j.1,k.keep hd j.2⟩
theorem iI {P:az->Prop}(K:xu cd)(m:hF 1028 a l a1 Z I)(j:cd I)(hd:fS c.K 1028 w=true)(aj:dN (a1.length+1) 900=true)(ad:let e:=bF w u a1;∀D,cd D->hF 1028 a l e Z D->P D): ∃ae l a1,I a=kZ (.inst ae l)/\I l=kZ (.attrs ae a1)/\fS c.K ae w=true/\a1.length<900/\∀D,Upd I D l (.attrs ae<|bF w u a1)->P D:=(qr 1028 l a1 m.d3 m.id hd (r6 aj) λD k=>ad D (K m.id k j)<|m.step k)
theorem Mc (H:a2 c)(ad:∀(W:mD) Z,bp I Z->I W.b=By->I W.ls=By->I W.cl=By->I W.ee=By->bQ W Z [] 1 .none []->ab (.ref W.b) Z):be c 4 (.ref 1028) [.int 1,.str "a"] ab I:=by
 refine mY H.ok (H.k 1) λa d au m=>N0 (n:=2) H<|eW m (H.d 2) (by ext) ?_;intro bo e m;refine eW m (H.d 3) (by ext) ?_;intro c2 e m;refine abx (H.k 4).keep<|abx (gV rfl) λM bL na=>ca<|Mh H na.at λg bs cl e hy C E aD T=>?_;have h:=m.ext.none<|na.ext.none aD;have hy:=na.ext.trans hy;replace m:=m.grow hy;refine ie m.d3 m.id (H.d 4) (oW<|by ext) λe bq=>?_;replace T:=T.fr (L:=No) (D:=No) (ae:=λK=>K=1028) (.iK bq m.id rfl) id (by decide);replace m:=m.step bq;refine abx (H.k 7).keep<|ca<|Mj H λfM kJ ee e hy nm F v hm ib fU=>?_;have i:=m.ext.none v;replace T:=T.fr (L:=No) (D:=No) (ae:=No) (.cv hy) id id;replace m:=m.grow hy;have cd:xo g bs cl fM kJ ee e:=⟨T,hm,ib,fU⟩;clear T hm ib fU;refine iI lX m cd (H.d 5) (by ext) ?_;intro aN e cd m;refine iI lX m cd (H.d 6) (by ext) ?_;intro aP e cd m;refine iI lX m cd (H.d 7) (by ext) ?_;intro aI e cd m;refine iI lX m cd (H.d 8) (by ext) ?_;intro aK e cd m;refine iI lX m cd (H.d 9) (by ext) ?_;intro B e cd m;refine iI lX m cd (H.d 10) (by ext) ?_;intro l e cd m;refine iI lX m cd (H.d 11) (by ext) ?_;intro o e cd m;refine iI lX m cd (H.d 12) (by ext) ?_;intro p e cd m;refine iI lX m cd (H.d 13) (by ext) ?_;intro q e cd m;refine iI lX m cd (H.d 14) (by ext) ?_;intro s e cd m;refine abx (gV rfl) λls e j=>?_;have j3:ls≠cl:=λX=>by obtain⟨⟨_,_,_,_,G⟩,_⟩:=cd;have:=G.aU;rw[<-X,j.1] at this;exact bY this
 have cd:Cm g bs cl fM kJ ee ls e:=i7 cd λT ai ao a7=>⟨⟨T.fr (L:=No) (D:=No) (ae:=No) (.cv j.ext) id id,j.ext _ _ ai,j.ext _ _ ao,j.ext _ _ a7⟩,j.at⟩;have r:=m.ext.none j.1;replace m:=m.grow j.ext;refine iI pE m cd (H.d 15) (by ext) ?_;intro t e cd m;refine iI pE m cd (H.d 16) (by ext) ?_;intro u e cd m;refine iI pE m cd (H.d 17) (by ext) ?_;intro w e cd m;refine iI pE m cd (H.d 18) (by ext) ?_;intro x e cd m;refine iI pE m cd (H.d 19) (by ext) ?_;intro y e cd m;refine iI pE m cd (H.d 20) (by ext) ?_;intro z e cd m;refine iI pE m cd (H.d 21) (by ext) ?_;intro A e cd m;obtain⟨⟨T,hm,ib,fU⟩,f⟩:=cd;replace m:=m.as Vl;exact⟨rfl,ad ⟨a,d,g,bs,cl,fM,kJ,ee,ls⟩ _ m.ext m.na r h i ⟨⟨m.d3,(qq (1) (1) (1) m.id),f,j3,⟨hm,ib,fU,nofun,by simp,by simp,by simp⟩,.inl rfl⟩,T⟩⟩
structure TabAt (I:az)(fR jr fs h7 eI:Addr)(h5 last:Int)(ah:List (Int×V))(os:List Int):Prop where
 ai:I fR=kZ (.inst 1132 jr)
 ao:I jr=kZ (.attrs 1132 (mN (.ref fs) (.ref h7) (.int h5) (.int last) (.int 0) (.ref eI)))
 a7:I fs=kZ (.cu ah)
 bR:I h7=kZ (.list (os.map .int))
 dy:I eI=kZ (.list [])
 eS:h7≠eI
theorem TabAt.fr {ae:Addr->Prop}(C:TabAt I bs N bA cl l h5 last aP A)(x:Fr L D ae I Z)(a:¬ L cl)(b:¬ L l)(d:¬ D bA)(e:¬ ae 1132):TabAt Z bs N bA cl l h5 last aP A:= ⟨x.inst C.ai,x.attrs C.ao e,x.cu C.a7 d,x.list C.bR a,x.list C.dy b,C.eS⟩
theorem TabAt.ext (C:TabAt I cl bs N l a h5 last aP A)(x:bp I Z):TabAt Z cl bs N l a h5 last aP A:=C.fr (L:=No) (D:=No) (ae:=No) (.cv x) id id id id
theorem TabAt.set (C:TabAt I l cl bs ae a h5 last aP A)(u:Upd I Z cl (.attrs 1132<|mN (.ref bs) (.ref ae) (.int pt) (.int cnt) (.int 0)<|.ref a)):TabAt Z l cl bs ae a pt cnt aP A:= ⟨u.keep C.ao C.ai,u.at,u.keep C.ao C.a7,u.keep C.ao C.bR,u.keep C.ao C.dy,C.eS⟩
theorem TabAt.Aw {e:List Int}(C:TabAt I l cl bs ae a h5 last aP A)(u:Upd I Z ae (.list<|e.map .int)):TabAt Z l cl bs ae a h5 last aP e:= ⟨u.keep C.bR C.ai,u.keep C.bR C.ao,u.keep C.bR C.a7,u.at,by refine J (u.ne<|us C.eS) ?_;exact C.dy,C.eS⟩
theorem TabAt.YZ {b:List (Int×V)}(C:TabAt I l cl bs ae a h5 last b A)(u:Upd I Z bs (.cu aP)):TabAt Z l cl bs ae a h5 last aP A:= ⟨u.keep C.a7 C.ai,u.keep C.a7 C.ao,u.at,u.keep C.a7 C.bR,u.keep C.a7 C.dy,C.eS⟩
theorem Z7 {h:O}(u:Upd I Z a h)(C:I a=kZ h):bp I Z:=λb q aA=>by
 by_cases X:b=a
 ·subst X;refine J u.at<|a6 C ?_;exact aA
 ·refine J (u.ne X) ?_;exact aA
abbrev k2:Addr->Prop:=λK=>K=1132
theorem Nb (H:a2 c)(T:TabAt I l cl bs ae a h5 last aP [])(ad:ab .none I):be c 1 (.ref 1058) [.ref l,ak] ab I:=by refine NO (n:=0) H<|di T.ai T.ao rfl<|Or.inl<|aci []<|abx T.bR<|zt (λq am Z=>Z=I/\am=[.ref l,ak,.aK]) ⟨rfl,rfl⟩ (λq q q C=>C.1▸T.bR) (λq q q q q C=>by exact bY C) λq q C=>?_;obtain⟨rfl,rfl⟩:=C;exact ad
theorem Qw (H:a2 c)(T:TabAt I bs N bA cl l 0 0 [] []) (ad:∀(W:mD) Z,Fr (λa=>a=cl) (λa=>a=bA) k2 I Z->I W.b=By->I W.ls=By->I W.cl=By->I W.ee=By->bQ W Z [] 1 .none []->TabAt Z bs N bA cl l 0 1 [(1,.ref W.b)] [1]->ab (.ref W.b) Z):be c 5 (.ref 1065) [.ref bs,.str "a"] ab I:=by refine NQ (n:=4) H<|eqs<|cr (by decide)<|dd T.ai T.ao rfl (H.m 20)<|ca<|Nb H T<|z4 (u:=.none) trivial<|(?_);refine di T.ai T.ao rfl<|kN<|ie T.ai T.ao (H.d 25) (oW<|by ext) λau h=>?_;have ba:Fr (λa=>a=cl) (λa=>a=bA) k2 I au:=.iK h T.ao rfl;have s:∀{a},au a=By->I a=By:=ba.none;replace T:TabAt au bs N bA cl l 0 1 [] []:=T.set h;refine abx (H.k 1).keep<|di T.ai T.ao rfl<|kN<|ca<|Mc H λW aS aR aZ r aD v B=>?_;have g:=ba.trans<|.cv aR;have a8:cl≠W.ls:=de T.bR r;have bo:cl≠W.cl:=de T.bR aD;have c2:bA≠W.ee:=de T.a7 v;replace T:=T.ext aR;refine gT (B.R.d9) λaC am P d9=>di B.R.aA d9 rfl<|abx (ty_list B.R.an)<|di T.ai T.ao rfl<|aci []<|aci []<|abx B.R.an<|abx T.dy<|abx (gV rfl) λaM i=>?_;have bj:=Z7 i B.R.an;replace g:=g.trans<|.cv bj;replace T:=T.ext bj;replace B:=B.ext bj;refine gT (B.R.d9) λaC am P d9=>di T.ai T.ao rfl<|di B.R.aA d9 rfl<|kN<|gy T.a7 (gV rfl) λay aU=>?_;replace g:=g.trans<|.tT aU T.a7 rfl;replace B:=B.fr (L:=No) (D:=λa=>a=bA) (ae:=No) (.tT aU T.a7 rfl) id id c2.symm id id id id;replace T:=T.YZ aU;refine gT (B.R.d9) λaC am P d9=>di T.ai T.ao rfl<|abx (ty_list T.bR)<|di B.R.aA d9 rfl<|kN<|aci _<|abx T.bR<|abx (gV rfl) λbh t=>?_;exact ad W bh (g.trans<|.lB t T.bR rfl) (s aZ) (s r) (s aD) (s v) (B.fr (L:=λa=>a=cl) (D:=No) (ae:=No) (.lB t T.bR rfl) a8.symm bo.symm id id id id id)<|T.Aw t
theorem YT (H:a2 c)(T:TabAt I bs N bA cl l 0 last aP [1])(B:bQ W I A pt ak af) (ad:∀Z,Fr (λa=>a=cl) No k2 I Z->TabAt Z bs N bA cl l 1 last aP [1]->ab .none Z):be c 2 (.ref 1087) [.ref bs,.ref W.b] ab I:=by refine gT (B.R.d9) λaC am P d9=>?_;have q:∀{g:V->az->Prop},(∀Z,Upd I Z N (.attrs 1132<|mN (.ref bA) (.ref cl) (.int 1) (.int last) (.int 0)<|.ref l)->g .none Z)->be c 1 (.ref 1094) [.ref bs,.ref W.b] g I:=λ{g} bM=> NU (n:=0) H<|di B.R.aA d9 rfl<|XA<|di B.R.aA d9 rfl<|kN<|ie T.ai T.ao (H.d 24) (oW<|by ext) λau h=>bM au h;refine NT (n:=1) H<|dd T.ai T.ao rfl (H.m 23)<|ca<|q λau h=>?_;have p:=T.set h;have aA:=h.keep T.ao B.R.aA;have f:=h.keep T.ao d9 (λX=>by cases X);refine di p.ai p.ao rfl<|abx (ty_list p.bR)<|di aA f rfl<|kN<|aci []<|abx p.bR<|abx (sb _) λaS j=>?_;have u:=p.Aw (e:=[]) j;have o:=j.keep p.bR aA;have k:=j.keep p.bR f;refine di u.ai u.ao rfl<|abx (ty_list u.bR)<|di o k rfl<|kN<|aci []<|abx u.bR<|abx (gV rfl)<|abx rfl λaM i=>?_;exact ad aM (((Fr.iK (L:=λa=>a=cl) (D:=No) (ae:=k2) h T.ao rfl).trans<|.lB j p.bR rfl).trans<|.lB i u.bR rfl)<|u.Aw (e:=[1]) i
def Q7 (aq:hY)(ez bu:V)(x:Nat->V):List (Str×V):=jt (.ref aq.fR) (x 1) (x 2) (x 3) (x 4) (x 5) (x 6) (x 7) (x 8) ez (x 10) (x 11) (x 12) (x 13) (x 14) (x 15) (x 16) (x 17) (x 18) (x 19) (.ref aq.eU) (x 21) (x 22) (x 23) (x 24) (x 25) (x 26) (x 27) (x 28) (.int 8) bu (x 31)<|x 32
structure jM (aq:hY)(ar:az)(bu h7 eI:Addr)(c:Int)(ez:V)(I:az):Prop where
 he:I aq.cT=kZ (.inst 1321 aq.la)
 eJ:∃f,I aq.la=kZ (.attrs 1321 (Q7 aq ez (.ref bu) f))
 i2:I aq.fR=kZ (.inst 1132 aq.jr)
 ia:I aq.jr=kZ (.attrs 1132 (mN (.ref aq.fs) (.ref h7) (.int 1) (.int 1) (.int c) (.ref eI)))
 fG:I aq.fs=kZ (.cu [(1,.ref aq.b)])
 ea:I aq.eU=kZ (.cu [])
 hp:I bu=kZ (.list [])
 fI:∀a aa,ar a=kZ (.list aa)->I a=kZ (.list aa)
theorem jM.fr {ae:Addr->Prop}(C:jM aq Z bs cl l pt ak I)(F:Fr L D ae I au)(O:∀a,D a->a≠aq.eU/\a≠aq.fs)(H:¬ ae 1321)(c:¬ ae 1132)(cj:¬ L bs)(b:∀a,L a->Z a=By):jM aq Z bs cl l pt ak au:= ⟨F.inst C.he,cO (C.eJ) λf e=>⟨f,F.attrs e H⟩,F.inst C.i2,F.attrs C.ia c,F.cu C.fG λX=>(O _ X).2 rfl,F.cu C.ea λX=>(O _ X).1 rfl,F.list C.hp cj,λa aa e=>F.list (C.fI a aa e) λX=>by replace e:=(b a X)▸e;cases e⟩
theorem jM.ext (C:jM aq Z cl l a pt ak I)(x:bp I au):jM aq Z cl l a pt ak au:=C.fr (L:=No) (D:=No) (ae:=No) (.cv x) (λ_ X=>X.elim) id id id λ_ X=>X.elim
theorem IK {ar:az}(H:a2 c)(C:jM aq ar cl l ae pt ak I)(ad:∀a d au Z,Fr No No (λK=>K=1132) I au->jM aq ar cl l ae (pt+1) ak au->hF 133 a d (f5 (.int<|pt+1) (.bool false) .none<|.int 0) au Z->ab (.ref a) Z):be c 3 (.ref 1122) [.ref aq.fR,.bool false] ab I:=by refine NS (n:=2) H<|di C.i2 C.ia rfl<|kN<|ie C.i2 C.ia (H.d 26) (oW<|by ext) λau u=>?_;have aO:∀{a o},I a=kZ o->(∀K ah,o≠.attrs K ah)->au a=kZ o:=λe n=>u.keep C.ia e<|n _ _;have ai:jM aq ar cl l ae (pt+1) ak au:=⟨aO C.he nofun,cO (C.eJ) λf e=>⟨f,u.keep C.ia e<|by intro X;cases X⟩,aO C.i2 nofun,u.at,aO C.fG nofun,aO C.ea nofun,aO C.hp nofun,λa aa e=>aO (C.fI a aa e) nofun⟩;exact⟨(H.k 6).keep,di ai.i2 ai.ia rfl<|kN<|ca<|xx H λa d aS m=>ad a d au aS (.iK u C.ia rfl) ai m⟩
def xt (I Z:az):Prop:=∀a aa,I a=kZ (.list aa)->Z a=kZ (.list aa)
structure xA (aq:hY)(ar:az)(bu:Addr):Prop where
 cl:ar aq.cl=By
 ls:ar aq.ls=By
 ee:ar aq.ee=By
 fs:ar aq.fs=By
 eU:ar aq.eU=By
 hp:ar bu=By
 fa:aq.ee≠aq.fs
 hH:aq.ee≠aq.eU
 u1:aq.fs≠aq.eU
 Gz:bu≠aq.cl
theorem jM.vc {L:Addr->Prop}(C:jM aq Z cl l ae pt ak I)(N:xA aq Z cl)(F:Fr (b2 aq.cl) (iR aq.tomD) c8 I au):jM aq Z cl l ae pt ak au:= C.fr F (λa X=>⟨λz=>N.hH<|X.symm.trans z,λz=>N.fa<|X.symm.trans z⟩) (by decide) (by decide) N.Gz λa X=>X▸N.cl
theorem Vu {eI h7 av mg dW:Addr}{ar:az}(H:a2 c)(N:xA aq ar mg)(E:jM aq ar mg h7 eI 2 aW I)(B:bQ aq.tomD I A ((b:Int)+1) ak af)(bZ:lP af ak (kZ<|(i:Int)+1))(fv:∀e∈af,e.num=0)(aE:af.length<=1)(aw:cS A)(aj:A.length<=1000)
  {m fa c2 ft:Addr}(ai:I m=kZ (.inst 133 fa))(bu:I fa=kZ (.attrs 133<|f5 (.int 1) (.bool false) .none<|.int 0))(ao:I c2=kZ (.inst 133 ft))(bX:I ft=kZ (.attrs 133<|f5 (.int 2) (.bool false) .none<|.int 0))(hd:fa≠ft)
  (fJ:∀e∈af,e.d≠fa)(ic:∀e∈af,e.d≠ft)(aG:ar dW=kZ (.list [.int b,.int i,.int aD,.int ey]))(hM:b<=A.length)(a5:i<=A.length)(bg:aD<=A.length)(bt:ey<=A.length)(M:I av=kZ (.list [.ref m,.ref c2]))(bT:ar av=By)(v:av≠aq.cl)
  (D:iQ bs cl ar)(ro:bs≠cl)
  (ad:∀fM (aq:hY) (W:kl) aF S Z,W.eQ=bs->W.cl=cl->aF av->Z fM=kZ (.tup [.ref aq.cT,.ref av,.ref W.O])->Z av=kZ (.list [.ref m,.ref c2])->xt ar Z->dK aq aF W Z ⟨A,[(b:Int),i,aD,ey],[],[]⟩ S->Rel m c2 ⟨A,[(b:Int),i,aD,ey],[],[]⟩ S 0->ab (.ref fM) Z):
  CV (dI c 6 ab) [.str<|zs A,.ref dW,.ref aq.fR,.ref aq.cT,.ref aq.b,.aK,.ref av,.aK] [] I:=by
 refine wD (k:=2) (E.fI _ _ aG) (r6 rfl) λb1 au U b7 Y=>⟨⟨_,U _ _ M⟩,⟨_,Y⟩,?_⟩
 have t:∃aa,I aq.cl=kZ (.list aa):=fg (B.T) λq q q q G=>⟨_,G.aU⟩
 obtain⟨bW,t⟩:=t
 have j3:b1≠aq.cl:=(de t b7).symm
 let a3:List hc:=[⟨1,m,fa,(aD:Int)+1⟩,⟨2,c2,ft,(ey:Int)+1⟩]
 let ba:Nat->V×V->List V:=λ_ x=>[.str<|zs A,.ref dW,.ref aq.fR,.ref aq.cT,.ref aq.b,x.1,.ref av,x.2]
 let a4:Nat->V×V->az->Prop:=λj _ Z=>Fr (b2 aq.cl) (iR aq.tomD) c8 au Z/\bQ aq.tomD Z A ((b:Int)+1) ak (af++a3.take j)/\(j<=1->Z ft=kZ (.attrs 133<|f5 (.int 2) (.bool false) .none<|.int 0))/\(j=0->Z fa=kZ (.attrs 133<|f5 (.int 1) (.bool false) .none<|.int 0))
 refine rh (len:=2) (λj=>[([V.ref m,.ref c2][j]?).getD .aK,([V.int aD,.int ey][j]?).getD .aK]) ba a4 (a:=(.aK,.aK)) rfl ⟨.cv .refl,by refine J w8<|J (Bs _) ?_;exact B.ext U,λ_=>U _ _ bX,λ_=>U _ _ bu⟩ (λj x Z aL=>(dM _ _ (aL.1.list (U _ _ M) v) (aL.1.list Y j3) ?_)) (λj x Z aL bi=>?_) λx Z aL=>?_
 ·match j with
  |0=>rfl
  |1=>rfl
  |j+2=>refine J (if_neg<|by exact dG 141199204484) ?_;rfl
 ·obtain⟨F,a0,bo,a8⟩:=aL
  match j,bi with
  |0,_=>
   replace a0:=(Bs _)▸w8▸a0
   refine⟨H.f 8,dt<|ca<|wq H a0 (F.inst<|U _ _ ai) (a8 rfl) (p:=(aD:Int)+1) (λe he X=>by have:=fv e he;exact c4 4036823375 X this) fJ (by exact bM 55855222274 aE) λaH aB bd aZ=>?_⟩
   rw[uS (by exact dG 13674711)<|by exact bC 17717185546887 bg] at aZ
   exact eC.mk (E:=ba 1) (P:=a4 1) (.ref m,.int aD) ⟨F.trans bd,aZ,λ_=>(aB _ (us hd)<|oY (bo<|by decide) a0.R.hm.fU<|by intro X;cases X).trans<|bo<|by decide,λX=>absurd X<|by decide⟩
  |1,_=>
   refine⟨H.f 8,dt<|ca<|wq H a0 (F.inst<|U _ _ ao) (bo<|nu _) (p:=(ey:Int)+1) (λe he X=>?_) (λe he=>?_) (by refine J nb ?_;show af.length+1<59;exact bM 14298936955010 aE) λaH aB bd aZ=>?_⟩
   ·rcases bc.mp he with he|he
    ·have:=fv e he;exact c4 16531363596623 X this
    ·cases aaO.mp he;cases X
   ·rcases bc.mp he with he|he
    ·exact ic e he
    ·cases aaO.mp he;exact hd
   ·rw[uS (by exact dG 13674711)<|by exact bC 17717185546887 bt,aaG] at aZ
    exact eC.mk (E:=ba 2) (P:=a4 2) (.ref c2,.int ey) ⟨F.trans bd,aZ,λX=>absurd X<|by decide,λX=>absurd X<|by decide⟩
  |j+2,C=>exact absurd C (by exact dG 141199204484)
 ·obtain⟨F,a0,_,_⟩:=aL
  have aX:=(E.ext U).vc (L:=No) N F
  have bj:=F.list (U _ _ M) v
  replace a0:=(show a3.take 2=a3 from rfl)▸a0
  refine⟨(H.k 8).keep,ca<|Mo H λbG ga rc aS aR b8 b9 bK a1 bH s=>?_⟩
  have r:=aX.ext aR
  obtain⟨f,eJ⟩:=r.eJ
  refine ie r.he eJ (H.d 37) (oW<|by ext) λaM u=>?_
  have bB:=u.at
  replace bB:=XT▸bB
  have aO:∀{a o},aS a=kZ o->(∀ah,o≠.attrs 1321 ah)->aM a=kZ o:=λe n=>u.keep eJ e<|n _
  have be:Fr No No (λK=>K=1321) Z aM:=(Fr.cv aR).trans<|.iK u eJ rfl
  have ag:=a0.fr be id id id (by decide) (by decide) (by decide) (by decide)
  have aT:=be.list bj id
  have y:xt ar aM:=λa aa e=>be.list (aX.fI a aa e) id
  obtain⟨ns,gy,aA,a9,z,bV⟩:=D
  have b0:=y _ _ aG
  refine uU b0 (gV<|by rfl) λbP ay bf bU bI=>dA rfl rfl λL bh bD bS cj=>λbL bv h=>⟨by decide+kernel,λbN bO aI=>fy rfl rfl λfM bz aN aV bk=>?_⟩
  have g:bp aM bz:=(((bf.trans bD).trans h.ext).trans aI.ext).trans aN
  have cb:bp ay bz:=((bD.trans h.ext).trans aI.ext).trans aN
  have aQ:bp bh bz:=(h.ext.trans aI.ext).trans aN
  have cc:bp bv bz:=aI.ext.trans aN
  have b5:=bf.none bS
  have b4:=bf.none<|bD.none h.1
  have b6:=bf.none<|bD.none<|h.ext.none aI.1
  let jU:hY:={aq with ez:=bG,wl:=ga,j9:=rc}
  let W:kl:=⟨bN,bP,L,bL,bs,cl⟩
  let aF:Addr->Prop:=λa=>a=L\/a=av
  --cJ is there at aM
  have ax:∀{a:Addr} {o:O},aM a=kZ o->a≠bP/\a≠L/\a≠bL/\a≠bN:=λe=>⟨de e bU,de e b5,de e b4,de e b6⟩
  have bx:=y _ _ a9
  have bw:=y _ _ z
  have bF:=aO s nofun
  have bJ:=aO r.hp nofun
  have bn:=aO r.fG nofun
  have bE:=aO r.ea nofun
  obtain⟨cd,bR⟩:∃aa,aM aq.cl=kZ (.list aa):=fg (ag.T) λq q q q G=>⟨_,G.aU⟩
  have a7:∀{a:Addr} {o:O},Z a=kZ o->a≠rc:=λe=>de e bK
  have out:∀{a:Addr} {o:O},aM a=kZ o->a≠av->a≠bs->a≠cl->¬ XL aF W a:=λ{a o} e hs bA b3 X=>by
   obtain⟨bl,bm,aJ,am⟩:=ax e
   rcases X with(X|X)|X|X|X|X|X
   ·exact bm X
   ·exact hs X
   ·exact am X
   ·exact bl X
   ·exact aJ X
   ·exact bA X
   ·exact b3 X
  have d5:∀{a:Addr},ar a=By->a≠bs/\a≠cl:=λe=>⟨(de a9 e).symm,(de z e).symm⟩
  have aY:∀{a:Addr} {o:O},aM a=kZ o->o≠.list [.ref m,.ref c2]->a≠av:=λe n X=>by replace e:=aT▸X▸e;cases e;exact n rfl
  have l:fi aF W bz ⟨A,[(b:Int),i,aD,ey],[],[]⟩:=by
   refine⟨⟨aN _ _ aI.at,cb _ _ bI⟩,⟨.inl rfl,aQ _ _ cj⟩,(bb ([]) (cc _ _ h.at) trivial),(g6 ns gy aA (g _ _ bx) (g _ _ bw) bV),?_,?_,?_,?_,?_,?_,?_,ro,?_,?_⟩
   ·exact λX=>X.elim (λX=>de (h.ext _ _ cj) aI.1 X.symm) λX=>de (bf _ _ aT) (bD.none<|h.ext.none aI.1) X.symm
   ·exact λX=>X.elim (λX=>de bI bS X) λX=>de aT bU X.symm
   ·exact λX=>X.elim (λX=>de cj h.1 X.symm) λX=>de (bf _ _ aT) (bD.none h.1) X.symm
   ·exact λX=>X.elim (λX=>(ax bx).2.1 X) λX=>de a9 bT X
   ·exact λX=>X.elim (λX=>(ax bw).2.1 X) λX=>de z bT X
   ·exact λX=>(ax bx).1 X.symm
   ·exact λX=>(ax bw).1 X.symm
   ·exact λa X=>X.elim (λX=>⟨_,X▸aQ _ _ cj⟩) λX=>⟨_,X▸g _ _ aT⟩
   ·exact λa ae ah X e=>X.elim (λX=>by replace e:=(aQ _ _ cj)▸X▸e;cases e) λX=>by replace e:=(g _ _ aT)▸X▸e;cases e
  have ap:hV jU aM (.ref mg):=⟨aO r.he nofun,⟨f,bB⟩,aO r.i2 nofun,⟨_,_,_,_,u.keep eJ r.ia<|by intro X;cases X⟩,bn,aO a1 nofun,u.keep eJ bH<|by intro X;cases X⟩
  have Q:∀p∈[(m,(aD:Int)+1),(c2,(ey:Int)+1)],∃e∈af++a3,0<e.num/\e.a=p.1/\e.pos=p.2:=λp aP=>by
   rcases Q8.mp aP with rfl|aP
   ·exact(kR _ (LX _<|.head _) Int.zero_lt_one rfl rfl)
   ·refine J (aaO.mp aP) ?_
    exact(kR _ (LX _<|.tail _<|.head _) (by show(0:Int)<2;decide) rfl rfl)
  have bY:¬ XL aF W mg:=out bJ (aY bJ<|by intro X;cases X) (d5 N.hp).1 (d5 N.hp).2
  have w:ej jU (XL aF W) bz ⟨A,(b:Int)+1,kZ<|(i:Int)+1,[],[],[(m,(aD:Int)+1),(c2,(ey:Int)+1)],0⟩ ak (af++a3) By 0 (.ref mg):=by
   refine⟨ag.ext g,?_,ap.fr (L:=No) (D:=No) (ae:=No) (.cv g) id id id id,λa X=>?_,(gA mg ([]) rfl ?_ (g _ _ bJ) trivial),(bb ([]) (g _ _ bF) trivial),.inl ⟨g _ _ bE,rfl,rfl⟩,λe he=>?_,eo _,?_,Q,⟨N.fa,a7 a0.R.hm.fU,N.hH,a7 aX.fG,N.u1,(a7 aX.ea).symm⟩,?_,?_,?_,?_,?_,?_,nofun,l.KE⟩
   ·obtain⟨e,he,a6,aC,bq⟩:=bZ
    exact(kR e (sd _ he) a6 aC bq)
   ·rcases X with X|X|X
    ·exact⟨_,X▸g _ _ bR⟩
    ·cases X
    ·exact l.KF a X
   ·exact λX=>X.elim (λX=>N.Gz X) λX=>X.elim (λX=>by cases X) bY
   ·rcases bc.mp he with he|he
    ·refine J (fv e he) ?_;exact eo _
    ·rcases Q8.mp he with rfl|he
     ·show(0:Int)<=1;decide
     ·refine J (aaO.mp he) ?_;show(0:Int)<=2;decide
   ·refine J nb ?_;show af.length+2<=4+2*0;exact bM 61426505458354011299969 aE
   ·exact out bR (us v) (d5 N.cl).1 (d5 N.cl).2
   ·exact out ag.R.an (aY ag.R.an<|by intro X;cases X) (d5 N.ls).1 (d5 N.ls).2
   ·exact out ag.R.hm.fU (aY ag.R.hm.fU<|by intro X;cases X) (d5 N.ee).1 (d5 N.ee).2
   ·exact out bn (aY bn<|by intro X;cases X) (d5 N.fs).1 (d5 N.fs).2
   ·exact out bF (aY bF<|by intro X;cases X) (a7<|aX.fI _ _ a9).symm (a7<|aX.fI _ _ z).symm
   ·exact out bE (aY bE<|by intro X;cases X) (d5 N.eU).1 (d5 N.eU).2
  refine ad fM jU W aF _ bz rfl rfl (.inr rfl) bk (g _ _ aT) (λa aa e=>g _ _<|y a aa e) ⟨l,_,_,_,_,_,w⟩ ⟨rfl,aw,(bb b rfl hM),(g6 _ _ _ rfl rfl ?_),rfl,rfl,⟨BK _,iE⟩,iE,nu _,nu _⟩
  simp
theorem HW {aL am z j:Nat}(H:a2 c)(aw:cS A)(aj:A.length<=1000)(aG:I l=kZ (.list [.int aL,.int am,.int z,.int j]))(hM:aL<=A.length)(a5:am<=A.length)(bg:z<=A.length)(bt:j<=A.length)(D:iQ ae cl I)(ro:ae≠cl) (ad:∀fM av aJ a4 (aq:hY) (W:kl) aF S Z,W.eQ=ae->W.cl=cl->aF av->Z fM=kZ (.tup [.ref aq.cT,.ref av,.ref W.O])->Z av=kZ (.list [.ref aJ,.ref a4])->xt I Z->dK aq aF W Z ⟨A,[(aL:Int),am,z,j],[],[]⟩ S->Rel aJ a4 ⟨A,[(aL:Int),am,z,j],[],[]⟩ S 0->ab (.ref fM) Z): be c 7 (.ref 1409) [.str<|zs A,.ref l] ab I:=by
 refine O7 (n:=6) H ⟨(H.k 2).keep,ca<|Mb H λfR jr fs h7 eI au U bm bn ap y aW aX ai ao a7 bR dy=>?_⟩;have p:TabAt au fR jr fs h7 eI 0 0 [] []:=⟨ai,ao,a7,bR,dy,aX⟩;refine dd ai ao rfl (H.m 21)<|ca<|Qw H p λW aS g aZ r aD v B u=>⟨(H.k 3).keep,ca<|Mg H λcT la eU bu f aM bj br bs C E he eJ ea hp=>fy rfl rfl λt ay bf bq a3=>eY a3 rfl ?_⟩;have ba:Fr No No No I au:=.cv U;have b9:bp aS ay:=bj.trans bf;have w:=u.ext b9;have o:=B.ext b9;have bd:h7≠W.ls:=de bR r;have aR:h7≠W.cl:=de bR aD;obtain⟨bW,aT⟩:∃aa,aS W.cl=kZ (.list aa):=fg (B.T) λq q q q G=>⟨_,G.aU⟩;have fJ:∀{a},au a=By->I a=By:=U.none;have ic:∀{a},aS a=By->I a=By:=λe=>fJ<|g.none e;refine dd w.ai w.ao rfl (H.m 22)<|ca<|YT H w o λbh K x=>?_;let aq:hY:={W with cT:=cT,la:=la,fR:=fR,jr:=jr,fs:=fs,ez:=cT,wl:=cT,j9:=cT,eU:=eU};have N:xA aq I bu:=⟨fJ aD,fJ r,fJ v,ap,ic C,ic E,(de a7 v).symm,de B.R.hm.fU C,de u.a7 C,(de aT E).symm⟩;have P:bQ aq.tomD bh [] 1 .none []:=o.fr K bd.symm aR.symm id (by decide) (by decide) (by decide) (by decide);have bb:jM aq I bu h7 eI 0 (f 9) bh:=⟨K.inst<|bf _ _ he,⟨f,K.attrs (bf _ _ eJ)<|by decide⟩,x.ai,x.ao,x.a7,K.cu (bf _ _ ea) id,K.list (bf _ _ hp) λX=>de u.bR E X.symm,λa aa e=>K.list (b9 _ _<|g.list (U _ _ e) λX=>de e y X) λX=>de e y X⟩;refine⟨H.f 28,Bq<|z6 aw,z8 (z6 aw) (nf aj<|by decide) λF bv h=>?_⟩;have ah:∃aa,bh W.cl=kZ (.list aa):=⟨_,K.list (b9 _ _ aT) aR.symm⟩;obtain⟨bl,ah⟩:=ah;refine ca<|To (k:=0) H (W:=aq.tomD) (P.ext h.ext) h.at (de ah h.1).symm (BK _) (by show([]:List Int).length+_<=_;refine J uc ?_;exact bM 120276651905 aj) λbO Q i=>?_;have aB:=(bb.ext h.ext).vc (L:=No) N<|vd Q;replace i:bQ aq.tomD bO A ((0+A.length:Nat)+1) .none []:=by have:=i;rw[L3,L2,Cg,Bs] at this;exact this
 refine kp i.R (λq q q=>v5) (H.m 17)<|cE (k:=0) (aB.fI _ _ aG) rfl (c0 rfl)<|dt<|ca<|vn H i (dG 13674711) (bC 17717185546887 hM) λbz aH a0=>?_;have aC:=aB.vc (L:=No) N<|vd aH;refine⟨H.f 10,cE (k:=1) (aC.fI _ _ aG) rfl (c0 rfl)<|dt<|ca<|Ax (mp:=By) H a0 ⟨rfl,nofun⟩ (dG 13674711) (bC 17717185546887 a5) (by decide) λaO mk af ax aA bZ aV ak an=>?_⟩;have V:=aC.vc (L:=No) N ax;refine dd V.i2 V.ia rfl (H.m 25)<|ca<|IK H V λaJ fa bL bT ag a1 d=>?_;have M:=a1.ext d.ext;have ar:=(aA.fr ag id id id (by decide) (by decide) (by decide)<|by decide).ext d.ext;refine dd M.i2 M.ia rfl (H.m 25)<|ca<|IK H M λa4 ft bX bY e8 a6 b=>?_;have a9:=a6.ext b.ext;have az:=(ar.fr e8 id id id (by decide) (by decide) (by decide)<|by decide).ext b.ext;have bi:=b.ext _ _<|e8.inst d.d3;have bk:=b.ext _ _<|e8.attrs d.id (by decide);refine dA rfl rfl λav bw s aY aE=>?_;have fv:∀e∈af,e.num=0:=λe he=>(ak e he).elim id λX=>nomatch X;refine Vu H N (a9.ext s) (az.ext s) bZ fv an aw aj (s _ _ bi) (s _ _ bk) (s _ _ b.d3) (s _ _ b.id) (de (e8.attrs d.id<|by decide) b.d5) (λe he=>de (ag.attrs (aA.R.hm.fv e he).2<|by decide) d.d5) (λe he=>de ((ar.fr e8 id id id (by decide) (by decide) (by decide)<|by decide).R.hm.fv e he).2 b.d5) aG hM a5 bg bt aE (ic<|b9.none<|K.none<|h.ext.none<|Q.none<|aH.none<|ax.none<|ag.none<|d.ext.none<|e8.none<|b.ext.none aY) (fg (az.T) λq q q q G=>(de G.aU aY).symm) D ro λfM aq W aF S Z a8 bo c2 aQ aN aP aI aK=>ad fM av aJ a4 aq W aF S Z a8 bo c2 aQ aN aP aI aK
theorem Zd (C:e<5):∃x:Int,[(97:Int),98,32,99,32][e]?=kZ x/\32<=x/\x<127:=by
 match e,C with
 |0,_=>exact(c7 _ rfl (by decide)<|by decide)
 |1,_=>exact(c7 _ rfl (by decide)<|by decide)
 |2,_=>exact(c7 _ rfl (by decide)<|by decide)
 |3,_=>exact(c7 _ rfl (by decide)<|by decide)
 |4,_=>exact(c7 _ rfl (by decide)<|by decide)
 |e+5,C=>exact absurd C<|dG 347360780420
def jL (eQ cl:Addr)(I Z:az):Prop:=Fr (qM eQ cl) No No I Z/\iQ eQ cl Z
theorem jL.draw (H:a2 c)(C:jL a cl au I)(hm:0<ew)(h:ew<1000000)(ad:∀(v:Nat) Z,v<ew->jL a cl au Z->ab (.int v) Z):be c 1 (.ref 1337) [.ref a,.int ew] ab I:= zf H C.2 hm h λv Z aV F D=>ad v Z aV ⟨C.1.trans F,D⟩
theorem jL.refl (C:iQ a cl I):jL a cl I I:=⟨.cv .refl,C⟩
theorem Sa:(xs.map λx=>[x]).flatten=xs:=by induction xs with|nil=>rfl|cons x xs D=>refine J n8<|J n9<|J D ?_;rfl
theorem ZJ:((xs.map λx=>[x]).map (·.length)).sum=xs.length:=by induction xs with|nil=>rfl|cons x xs D=>rw[n8,n8,LY,D,hC];exact jg ..
theorem JW:cP h++[V.str<|zs A]=cP (h++[A]):=by unfold cP;refine J qB ?_;rfl
theorem Zt (H:a2 c)(aj:A.length<=40)(C:iQ ae cl I)(ad:∀aL am z j Z,aL<=A.length->am<=A.length->z<=A.length->j<=A.length->jL ae cl I Z->fj [.int (aL:Nat),.int (am:Nat),.int (z:Nat),.int (j:Nat)] Z):km (.ka 0 4 1) (ow ⟨c,14,k0⟩ CQ) [.ref ae,.str<|zs A] fj I:=by
 refine zq (λag Z=>jL ae cl I Z/\∃g:List Nat,ag=g.map (λX=>V.int (X:Nat))/\∀X∈g,X<=A.length) (by refine J wT ?_;exact j5 576705) ⟨.refl C,[],rfl,iE⟩ (λag Z C an=>?_) λag Z C an=>?_
 ·obtain⟨D,g,rfl,Q⟩:=C;refine⟨H.f 116,hx (bM 172033641473 aj)<|jq (m:=((A.length+1:Nat):Int)) rfl<|ca<|D.draw H (ew:=A.length+1) (dG 854258) (bM 44040621707394 aj) λv au aV q=>⟨q,g++[v],by refine J qB ?_;rfl,λy G=>?_⟩⟩;rcases bc.mp G with G|G
  ·exact Q y G
  ·refine J (aaO.mp G) ?_;exact bC 3514835201 aV
 ·obtain⟨D,g,rfl,Q⟩:=C;rw[aa0] at an;match g,an,Q with
  |[a,b,d,e],_,Q=>exact ad a b d e Z (Q _<|.head _) (Q _<|.tail _<|.head _) (Q _<|.tail _<|.tail _<|.head _) (Q _<|.tail _<|.tail _<|.tail _<|.head _) D
theorem ZK (C:∀r∈h,bU r/\r.length<=5):(h.map (·.length)).sum<=5*h.length:=by
 induction h with
 |nil=>exact nu _
 |cons r h D=>have ai:=(C r<|.head _).2;have ao:=D λx Q=>C x<|.tail _ Q;refine J n8<|J LY<|J hC ?_;exact b1 2536904316466741049670375444609 ai ao
theorem jL.ext (C:jL a cl Z I)(x:bp I au):jL a cl Z au:=⟨C.1.trans<|.cv x,C.2.ext x⟩
theorem YC {ar:az}(H:a2 c)(C:jL ae cl ar I)(hm:i<=5)(ad:∀xs Z,xs.length=i->bU xs->jL ae cl ar Z->fj (cP<|xs.map λx=>[x]) Z):km (.ka 0 i 1) (ow ⟨c,14,k0⟩ CP) [.ref ae] fj I:=by
 refine zq (λag Z=>jL ae cl ar Z/\∃xs,ag=cP (xs.map λx=>[x])/\bU xs) (by refine J wT ?_;exact bM 21709818881 hm) ⟨C,[],rfl,iE⟩ (λag Z C an=>?_) λag Z C an=>?_
 ·refine hr ?_;intro m;obtain⟨D,xs,rfl,Q⟩:=C;intros bs;refine⟨H.f 116,ca<|D.draw H (ew:=5) (by decide) (by decide) λv au aV q=>?_⟩;obtain⟨x,e,a,b⟩:=Zd aV;refine As (l:=[97,98,32,99,32]) e (by decide) ⟨q,xs++[x],(by refine J qB ?_;exact JW:cP (xs.map λx=>[x])++[V.str<|zs [x]]=_),λy G=>?_⟩;rcases bc.mp G with G|G
  ·exact Q y G
  ·refine J (aaO.mp G) ?_;exact⟨a,b⟩
 ·obtain⟨D,xs,rfl,Q⟩:=C;exact ad xs Z (by simpa using an) Q D
theorem Ub:(stepT "open" ⟨[97,98,99,10,97,98,10,97,98,99,100],[0,0,9,10],[],[]⟩ 10 1<|cZ "open" [97,98,99,10,97,98,10,97,98,99,100] 10 1 [] 1).aG=[97,32,32,98,99,10,97,32,32,98,10,97,32,32,98,99,100]:=by decide+kernel
theorem Ua:(stepT "open" ⟨[97,98,99,10,97,98,10,97,98,99,100],[0,0,9,10],[],[]⟩ 10 1<|cZ "open" [97,98,99,10,97,98,10,97,98,99,100] 10 1 [] 1).sp=[1,0,15,16]:=by decide+kernel
theorem YO (aj:A.length<=150000)(C:ab (.int (A.length:Nat)) I):ou [.str<|zs A] ab I:=by
 refine⟨?_,?_⟩<;>refine J kT ?_
 ·exact il aj (by decide)
 ·exact C
theorem Uh {ab:V->az->Prop}{c:cz}{I:az}(H:a2 c){sc:Addr}{bG:List Int}{ag:Array a3}{n:Nat}(dc:c.base.get? sc=kZ (listOf ag n))(ba:bV (bm bG) ag.toList)(aj:bG.length<=1000)(ad:∀Z,ab (.bool true) Z):xX (dI c 14 ab) [.ref sc,.aK,.aK,.aK,.aK,.aK,.aK,.aK,.aK] [] I:=by
 refine⟨H.f 115,ca (Ue H dc ba aj λeQ cl au U b6 aD bE D=>dA rfl rfl λbW aS aR aT bd=>fy rfl rfl λt aM bj a9 bn=>eY bn rfl ?_)⟩;have bN:=D.ext (aR.trans bj);refine⟨H.f 116,ca (zf H bN (ew:=4) (by decide) (by decide) λv ay aV bK bP=>jq (m:=((1+v:Nat):Int)) (dG 3634408841) (m6 (bM 876207672705 aV) ?_))⟩;let E:Nat->V->List V:=λ_ a=>[.ref sc,.ref eQ,.aK,.aK,a,.aK,.ref bW,.aK,.aK];obtain⟨ns,gy,aA,fa,ft,hH⟩:=D;have fJ:bW≠eQ:=(de fa aT).symm;have ic:bW≠cl:=(de ft aT).symm;clear fa ft hH ns gy aA;let a4:Nat->V->az->Prop:=λk _ Z=>iQ eQ cl Z/\∃M,M.length=k/\(∀r∈M,bU r/\r.length<=5)/\Z bW=kZ (.list (cP M));refine rh (len:=1+v) (λk=>[.int (0+1*(k:Nat))]) E a4 (a:=.aK) rfl ⟨bP,[],rfl,iE,bK.list (bj _ _ bd) (λX=>X.elim fJ ic)⟩ (λk a Z C=>rfl) (λk a Z C ap=>?_) λa Z C=>?_
 ·refine hr ?_;intro b0;obtain⟨a1,M,an,aB,ax⟩:=C;refine⟨ty_list ax,rfl,H.f 116,ca ((jL.refl a1).draw H (ew:=6) (by decide) (by decide) λm bh hm bQ=>m6 (bM 26004818945 hm) (YC H bQ (bM 6657233194497 hm) λxs bv bb Q ae b bO aI=>?_))⟩;have bl:=ae.ext aI.ext;refine YM aI.at (by refine J ZJ<|J (aa0 _) ?_;exact bC 72908676470145153 hm bb) ?_;refine J Sa ?_;have bR:=bl.1.list ax λX=>X.elim fJ ic;refine x1 bR (by refine J (aa0 _) ?_;exact b1 38921009189447656075894273 aV ap an) λbz be=>?_;have bk:=be.at;rw[JW] at bk;obtain⟨ns,gy,aA,fa,ft,hH⟩:=bl.2;have ao:∀r∈M++[xs],bU r/\r.length<=5:=λr X=>by
   rcases bc.mp X with X|X
   ·exact aB r X
   ·refine J (aaO.mp X) ?_;exact⟨Q,bC 72908676469689857 hm bb⟩
  have a7:a4 (k+1) (.int (0+1*(k:Nat))) bz:=⟨(g6 ns gy aA ((be.ne (us fJ)).trans fa) ((be.ne (us ic)).trans ft) hH),M++[xs],by refine J nb<|J an ?_;rfl,ao,bk⟩;exact eC.mk (E:=E (k+1)) (P:=a4 (k+1)) _ a7
 ·obtain⟨a1,M,an,aB,ax⟩:=C;have al:=ZK aB;have aX:M≠[]:=λX=>by rw[X] at an;exact absurd an (by simp;exact dG 888591)
  have o:=pZ aX;have aw:cS (aY M):=vM λr X=>(aB r X).1;have aJ:(aY M).length<=40:=bS 1082638912075461576507932149820165633 aV an al o;refine⟨rfl,tI ax (b1 11822209430252392550529 o aJ) ?_⟩;generalize aY M=A at aw aJ;clear al o;refine⟨H.f 126,m6 (m:=4) (by decide) (Zt H aJ a1 λaL am z j bv hM a5 bg bt ae dW bO aI=>ca (HW H aw (bM 172033645569 aJ) aI.at hM a5 bg bt (ae.2.ext aI.ext) bE λfM av hs bA aq W aF S bz a8 bo c2 aQ aN aP B R=>eY aQ rfl ?_))⟩;intros b2;clear aP aI ae hM a5 bg bt;subst a8 bo;refine⟨H.f 116,ca (nI H B (ew:=6) (by decide) (by decide) λv aO aV F K=>jq (m:=((1+v:Nat):Int)) (dG 3634408841) (m6 (bM 6657233653121 aV) ?_))⟩;let E:Nat->V->List V:=λ_ x=>[.ref sc,.ref W.eQ,.ref aq.cT,.ref av,a,.ref W.O,.ref bW,.str (zs A),x];let cd:Nat->V->az->Prop:=λk _ Z=>∃G N aZ ar,G av/\Z av=kZ (.list [.ref hs,.ref bA])/\dK aq G {W with L:=N} Z aZ ar/\Rel hs bA aZ ar k;refine rh (len:=1+v) (λk=>[.int (0+1*(k:Nat))]) E cd (a:=.aK) rfl ⟨aF,W.L,_,_,c2,B.dY F av _ c2 aN,K,R⟩ (λk a Z C=>rfl) (λk x Z C ap=>?_) λx Z C=>?_
  ·obtain⟨bs,br,p,a0,a6,aC,ah,i⟩:=C;refine ek ah.l.bH.bH rfl (YO (ah.len i) (nS (cx (λbB=>?_) λbB=>?_)))
   ·refine jA ?_;intro b3;refine⟨H.y 3,Ud H (W:={W with L:=br}) ah i (bC 34011753993357495809 aV ap) (bM 20412124162 bB) λbD g=>?_⟩;obtain⟨bx,ai,u,ak,af,dY,h,aH⟩:=g;have bq:=dY av _ a6 aC;exact uY ⟨H.f 124,ca (HV H (W:={W with L:=ai}) h aH bq λbF aW=>uY (eC.mk (E:=E (k+1)) (P:=cd (k+1)) _ ⟨_,ai,u,ak,.inl (af _ a6),aW _ _ bq,h.ext aW,aH⟩))⟩
   ·exact eC.mk (E:=E (k+1)) (P:=cd (k+1)) _ ⟨bs,br,p,a0,a6,aC,ah,i.up (Bv k)⟩
  ·obtain⟨bs,br,p,a0,a6,aC,ah,i⟩:=C;have q:=ah.l.hd;clear a6 aC i ah;refine⟨H.f 126,dA rfl rfl λd bL gC na aE=>ca (HW H (A:=[97,98,99,10,97,98,10,97,98,99,100]) (aL:=0) (am:=0) (z:=9) (j:=10) ?_ (by decide) aE (by decide) (by decide) (by decide) (by decide) (q.ext gC) bE λfM av hs bA aq W aF S bT a8 bo c2 aQ aN aP B R=>eY aQ rfl ?_)⟩
   ·exact(by decide:∀x∈[(97:Int),98,99,10,97,98,10,97,98,99,100],x=10\/32<=x/\x<127)
   intros b4;have aa:S.aG=[97,98,99,10,97,98,10,97,98,99,100]:=R.aG;refine⟨H.f 84,dA rfl rfl λeX bX bf b5 aU=>ca (GF H (B.ext bf).w (s:=10) (e:=1) (R.aG▸R.ok) (by refine J aa ?_;decide) (by refine J aa ?_;decide) (by refine J aa ?_;decide+kernel) (by refine J aa ?_;decide) aU λbY k T=>?_)⟩;have ah:=(B.ext bf).keep k (ar:=mm "open" S 10 1 (cZ "open" S.aG 10 1 [] 1)) (by refine J zK ?_;exact T);rw[aa] at ah;refine⟨H.f 122,ca (u4 H (w:="open") (s:=10) (e:=1) (cs:=[]) (cnt:=1) (.inr (.inr (.inl rfl))) ah R (by decide) (by decide) (by decide) ⟨by decide,iE⟩ (by decide) (by decide) λb8 dY h aH=>?_)⟩;have bu:=h.l.bH;rw[show(stepT "open" (lO.mk [97,98,99,10,97,98,10,97,98,99,100] [((0:Nat):Int),(0:Nat),(9:Nat),(10:Nat)] [] []) 10 1 (cZ "open" [97,98,99,10,97,98,10,97,98,99,100] 10 1 [] 1)).aG=_ from Ub,show(stepT "open" (lO.mk [97,98,99,10,97,98,10,97,98,99,100] [((0:Nat):Int),(0:Nat),(9:Nat),(10:Nat)] [] []) 10 1 (cZ "open" [97,98,99,10,97,98,10,97,98,99,100] 10 1 [] 1)).sp=_ from Ua] at bu;refine ek bu.bH rfl (sEq (b:=[97,32,32,98,99,10,97,32,32,98,10,97,32,32,98,99,100]) (by decide) (by decide) (uY (ek bu.bH rfl (dA rfl rfl λbp b9 bi Y hf=>I4 (bw:=[1,0,15,16]) (bi _ _ bu.bI) hf (uY ⟨H.f 124,ca (HV H (h.ext bi) aH (bi _ _ (dY av _ (.inl c2) (k _ _ (.inl (.inl c2)) (bf _ _ aN)))) λbZ b7=>ad bZ)⟩)))))
set_option tactic.hygienic true
variable{d:Params}
theorem Tt:∀{ag:List a3},WellAll d C ag (ofPys<|xs.map acm)->bV (bm xs) ag:=by
 induction xs with
 |nil=>intro ag w;cases w;trivial
 |cons x xs D=>
  intro ag w;cases w with
  |cons a w=>cases a;exact⟨⟨_,rfl⟩,D w⟩
theorem UG (w:Well d C (.ref l) (ofPy<|.list<|xs.map acm)):∃(ag:Array a3) (n:Nat),C.get? l=kZ (listOf ag n)/\bV (bm xs) ag.toList:=by
 refine fw ?_;intro a;have e:ofPy (.list<|xs.map acm)=.list (ofPys<|xs.map acm):=rfl;replace w:=e▸w;cases w with
 |list ai ao=>exact(e5 _ _ ai<|Tt ao)
theorem Yz:e9 callerA 15:=⟨by decide+kernel,by decide+kernel,rfl⟩
theorem abZ:WalkO rG rl (λq q=>True) xY lw.row.toRowW ze [] λf ag=>PySem.call f ag:=by
 intro w m aT k oX G bl a o F A D C E ai ao a7 bR i h args J as y j bH B d;refine eK bl λK bZ a8 bo=>?_;clear bl;clear ai ao a7 bR;wrow_args y j bH B d;rename_i xs _ _ _ _ _ r s l ag t cj bG bp M bk aB bF _;have hm:(K.lookup sysModules).isSome=true:=yf (pH -1) bo;have aU:cz.Ok ⟨gw,w,aT.heap,K,aT.os⟩:=⟨bZ,G.T.nolimit,⟨k,G.T.g⟩,(bb oX G.T.b G.T.builtins),G.T.nodigits,by obtain⟨o,e⟩:=Ci.mp hm;exact⟨o,bZ _ _ e⟩⟩;have H:=Rv aU a8 bo;refine bP λbz aN=>bg (Hm (c:=⟨gw,w,aT.heap,K,aT.os⟩)<|yf (pH -3) bo) λv aV aF=>?_;have aF:v=.ref 1414:=aF;replace aV:=aF▸aV;have aE:=mg_of bZ G.T.g aV;have p:k "law"=kZ (.ref a):=i;replace aE:=p▸aE;cases aE;refine dw (UG bp) λbc n an ao=>aN ?_;have bF:xs.length<=1000:=by omega
 refine wpAny_call ?_;have S:a9 ⟨gw,w,aT.heap,K,aT.os⟩ (λq=>By) aT:=⟨λq q e=>e,(λq q X=>by cases X),(λq q X=>by cases X),h,rfl⟩;refine O1 (c:=⟨gw,w,aT.heap,K,aT.os⟩) (n:=14) H (ab:=λu q=>u=.bool true) (I:=λq=>By) (ak:=.ref l) (Uh H an ao bF λq=>rfl) Yz rfl S rfl ⟨rfl,trivial⟩ ?_;intro v ay aM;refine cq aM λu Z aQ ar x z=>?_;clear aM;replace aQ:=z▸aQ;cases(aQ:v=.bool true);refine⟨.inl<|qr _ (.bool true) ([]) rfl (λcls=>?_) (.bool true) ?_ λq=>⟨.nil,iE⟩,.of_keep λb o e=>x.em b o id rfl e,ar.os,.of_eq ar.gens⟩
 ·rfl
 ·wrow_post
set_option tactic.hygienic false
end Mine
end
theorem PySem.Challenge.cw_sq0012_01_holds : PySem.Challenge.rw_sq0012_01.Holds :=
 holds_law Mine.ab5 fun h=>Mine.ab4 Mine.abZ h
