import PyProof.Rows.All
import Wide.All
import OpenK.AllK
import Wide.FinOn
import Lean
import PySem.Challenge.RW_np0084_01
set_option Elab.async false
set_option synthInstance.maxSize 4000
set_option linter.unusedVariables false
set_option maxRecDepth 100000
set_option genSizeOf false
set_option genSizeOfSpec false
set_option genInjectivity false
open Array renaming getElem?_eq_getElem->cM,getElem?_eq_some_iff->eN,length_toList->lB,mem_toList_iff->uo,ext'->wK,any_toList->zO
open Bool renaming and_eq_true->ae,not_eq_true'->aP,false_ne_true->ei,and_eq_true_iff->gE,or_eq_true->gP,or_eq_true_iff->lQ,or_true->nD,false_eq_true->yk
open Classical renaming byContradiction->gT,epsilon_spec->pM,epsilon->ug
open False renaming elim->pO
open ForInStep renaming yield->eX
open Iff renaming rfl->Bh
open Int renaming le_refl->aY,mul_add->dy,toNat_natCast->dz,natCast_add->fu,eq_ofNat_of_zero_le->fE,add_zero->fQ,mul_nonneg->fR,mul_le_mul_of_nonneg_left->gH,max_eq_right->jb,fmod_nonneg_of_pos->jM,mul_one->lF,natCast_nonneg->mF,le_trans->nU,zero_add->nV,max_eq_left->pP,natCast_mul->pQ,mul_le_mul->rj,le_of_mul_le_mul_left->rO,add_assoc->sZ,le_total->ux,mul_comm->uy,ofNat_le->uz,ofNat_lt->uA,mul_fdiv_add_fmod->wx,sub_nonneg_of_le->wM,fmod_lt_of_pos->zS
open List renaming length_map->J,mem_singleton->aa,mem_cons->ag,mem_append->ak,getElem?_eq_some_iff->ao,map_cons->aq,getElem?_map->au,mem_of_getElem?->aw,mem_map->ay,take_succ_eq_append_getElem->az,length_append->aB,map_append->aD,flatMap_cons->aE,length_cons->aH,nodup_append->aL,mem_append_left->aM,nodup_cons->aQ,getElem?_eq_getElem->aU,drop_eq_getElem_cons->aW,map_congr_left->aX,replicate->bf,flatMap_append->bg,filter_cons_of_neg->bk,map_map->bo,filter_cons_of_pos->bw,lookup_cons->bB,take_length->bC,mem_append_right->bG,append_nil->bK,size_toArray->bL,take_append_drop->bN,all_eq_true->bQ,exists_cons_of_ne_nil->bR,mem_filter->bV,not_mem_nil->bW,length_filter_le->bZ,length->cg,mem_of_mem_take->cj,length_take->cq,mem_reverse->cw,zip_cons_cons->cD,mem_flatMap->cG,length_pos_of_mem->cL,pairwise_cons->cR,take_zero->cX,reverse_cons->dw,filterMap_cons->dJ,length_reverse->dK,cons_append->dW,nodup_nil->dX,filter_append->el,length_zip->et,nil_append->eu,of_mem_zip->ey,reverse_reverse->eU,flatMap_nil->eY,getElem?_eq_none_iff->eZ,length_pos_iff->fb,sublist_cons_self->fO,map_reverse->gp,range->gq,find?_cons->gR,replicate_succ->gU,reverse_append->gV,map_fst_zip->j6,map_snd_zip->j7,reverse_nil->j8,filter_eq_nil_iff->jv,dropLast_eq_take->jV,getElem?_of_mem->kZ,map->l3,mem_of_mem_drop->l4,filter_eq_self->lR,append_assoc->nE,getElem?_inj->nF,map_set->nG,take_sublist->nH,forIn_cons->pn,mem_zipIdx_iff_getElem?->pq,getElem?_zip_eq_some->rm,any_cons->rP,eq_of_mem_replicate->rQ,getElem?_take_of_lt->rR,drop_eq_nil_of_le->ui,take_of_length_le->uj,contains_iff_mem->uB,length_replicate->uC,drop_eq_nil_iff->wy,lookup->wz,mem_cons_of_mem->wA,getElem?_range->wN,contains_cons->ym,filter_filter->yn,length_zipIdx->yo,mem_filterMap->yq,filter_congr->zT,zip_map_left->zU,flatMap_map->Bj,getElem_mem->Bk,length_drop->Bl,zipIdx_cons->Bm
open List.Pairwise renaming sublist->d4
open List.Sublist renaming append_left->eL
open List.cons renaming injEq->iI
open Nat renaming le_trans->aR,le_refl->aT,zero_le->cB,beq->dg,ne_of_lt->dh,lt_succ_self->dj,ne_of_beq_eq_false->fS,ne_of_gt->fT,blt->gF,le_succ->iJ,lt_succ_of_lt->iK,le_of_ble_eq_true->k6,lt_irrefl->mA,min_eq_left->pR,le_of_lt->uE,le_total->uF,lt_trans->uG,mul_le_mul_left->yr,not_lt->zW
open Nat.succ renaming inj->eM
open Ne renaming symm->fW
open Option renaming map_eq_some_iff->aV,isSome_iff_exists->aZ,map_some->jc,some_inj->jd,isNone_iff_eq_none->pS
open Option.some renaming inj->aN
open Prod renaming fst->qV
open Prod.mk renaming injEq->il
open PyProof.Rows renaming depth_under_make->rt,Subscript_->uH
open PySem renaming wpAny_bind->ah,wpAny_mono->aJ,wpAny_pure->aK,getMethod_builtin->cO,wpAny_holding->cZ,mem_of_lookup->dE,wpAny_Call_ofName->dU,wpAny_loadName_local->fi,wpAny_standAt->fN,call_meets->fV,wpAny_field->fZ,wpAny_execs_nil->ir,wpAny_setField->j3,sizeLine_eq->jH,wpAny_loadPart_at->jI,wpAny_newObj_type->jJ,wpAny_truthy_bool->jK,bindL->k8,wpAny_items_cons->kY,wpAny_Name->lP,wpAny_isTrue_Compare1->mq,bindC->oK,wpAny_Constant_str->pj,plainObj_wpAny_Assign_Attribute->rd,wpAny_call_entry->rJ,wpAny_execs_cons->rK,wpAny_items_nil->ue,wpAny_Compare1->wi,wpAny_call->wj,wpAny_seqItems->wm,wpAny_assignInOrder_more->yh,wpAny_assignInOrder_none->yi,wpAny_comprehension_free->yj,wpAny_callSpecial?_slot->zJ,call_meetsIn->zY,builtinLookup_eq_fast->Bp
open PySem.Around renaming frames_deeper->jS
open PySem.Builtin.List renaming listFitsIndex->gj,listTooLong->gQ
open PySem.Const.str renaming elim->nM
open PySem.EntryCells renaming newEntry->rh
open PySem.Expr.Attribute renaming elim->iG
open PySem.Expr.BinOp renaming elim->mu
open PySem.Expr.BoolOp renaming elim->lE
open PySem.Expr.Call renaming elim->nO
open PySem.Expr.Compare renaming elim->jT
open PySem.Expr.Constant renaming elim->j9
open PySem.Expr.Dict renaming elim->nP
open PySem.Expr.IfExp renaming elim->mv
open PySem.Expr.List renaming elim->nQ
open PySem.Expr.ListComp renaming elim->ja
open PySem.Expr.Name renaming elim->nR
open PySem.Expr.Slice renaming elim->mw
open PySem.Expr.Subscript renaming elim->iH
open PySem.Expr.Tuple renaming elim->mz
open PySem.Expr.UnaryOp renaming elim->jU
open PySem.F renaming plainAttrs_list->eT,slot_list_append->nS,plainAttrs_dict->oX,args_list_append_2->zR,entry_list_append->Bg
open PySem.Heap renaming get?_push_of_some->aC,get?_push_size->aS,lt_size->bE,get?_update_other->cp,get?_update_self->eF,size_push->i8,get?_update_ne->wL
open PySem.NameKind renaming free->zV
open PySem.Obj renaming mapFields->gG,data_mapFields->ik,mapSeq->jN,isFreed_of_fields->k7,putName->wQ,cls_mapFields->Bn
open PySem.PyData renaming keyHash->fF,depthAll->oJ,canLayAll0->wR
open PySem.SeqAt.RcNeAt renaming lists_lengths->Bo
open PySem.Stmt.Assign renaming elim->lG
open PySem.Stmt.Expr renaming elim->nW
open PySem.Stmt.For renaming elim->pw
open PySem.Stmt.If renaming elim->rp
open PySem.Stmt.Raise renaming elim->mB
open PySem.Stmt.Return renaming elim->lH
open PySem.Stmt.Try renaming elim->pz
open PySem.Stmt.While renaming elim->mC
open PySem.Str renaming ofString->jO
open PySem.Value renaming ref->cm,none->eP,isInt->gw,isStr->ke,isInt_shape->yu
open PySem.Value.builtin renaming elim->je
open PySem.Value.int renaming elim->nX
open PySem.Value.ref renaming elim->nY
open PySem.Value.type renaming elim->mD
open PySem.W renaming hideAll_get->d7,callWith_of->eG,hideAll_none->lK,of_hideAll->vF,methodCall_KW->xJ
namespace Mine
def Rd(m:Lean.Name->Lean.Name)(a:Array (List Lean.Syntax)):List String->Lean.Name->List Lean.Syntax->List (Lean.Name×List Lean.Syntax)->Lean.Syntax
 |[],_,l,_=>l.headD .missing
 |w::r,k,l,s=>
  let c:=w.front
  let t:=String.ofList (w.toList.drop 1)
  if c='{' then Rd m a r t.toName [] ((k,l)::s)
  else if c='}' then Rd m a r (s.headD (k,[])).1 (.node .none k l.reverse.toArray::(s.headD (k,[])).2) s.tail
  else Rd m a r k ((if c='\'' then [.atom .none t] else if c='$' then a[t.toNat!]!.reverse else [Lean.mkIdent (if c='%' then m t.toName else w.toName)])++l) s
def Pj(m:Lean.Name->Lean.Name)(a:Array (List Lean.Syntax))(s:String):Lean.Syntax :=
 Rd m a (((("_ ~{t.hole '_ } @{G ~{T.paren '( {S @{I ~{group '| {S @{R ~{T.withReducible 'with_reducible {S @{B ~{t.byTactic 'by {S @{S ~{T.tacticSeq {T.tacticSeq1Indented {. @{F ~{T.first 'first {. @{O ~{t.typeOf 'type_of% @{K ~{T.case 'case {. {T.caseArg {Lean.binderIdent %@{A ~{t.typeAscription {t.hygienicLParen '( {hygieneInfo  } } @{H ~{t.syntheticHole '? %@{L ~{t.fun 'fun {t.basicFun {. @{P ~{t.app @{N ~{t.noImplicitLambda 'no_implicit_lambda% @{r ~{T.refine 'refine @{x ~{T.exact 'exact @{y ~{T.apply 'apply @{as ~{T.assumption 'assumption @{rf ~{T.tacticRfl 'rfl @{i ~{T.intro 'intro {. @^ ~} } } @& ~} } } ') } @{. ~{null @{T.~{Lean.Parser.Tactic.@{t.~{Lean.Parser.Term.".splitOn "@").foldl (λs p=>(p.splitOn "~")[1]!.intercalate (s.splitOn (p.splitOn "~")[0]!)) (s++" ")).splitOn " ").dropLast) .anonymous [] []
section
variable {α β γ δ:Sort _} {Z:Prop} {A0 B0 C0 D0 E0 F0:Prop} {A1 B1 C1 D1 E1:α->Prop} {A2 B2 C2 D2 E2:α->β->Prop} {A3 B3 C3 D3 E3 F3 G3:α->β->γ->Prop} {A4 B4 C4 D4 E4:α->β->γ->δ->Prop}
theorem oA(h:A0/\B0)(k:A0->B0->Z):Z:=k h.1 h.2
theorem oE(h:∃ x,A1 x)(k:∀ x,A1 x->Z):Z:=h.elim λx h=>k x h
theorem mf(h:A0/\B0/\C0)(k:A0->B0->C0->Z):Z:=k h.1 h.2.1 h.2.2
theorem oAE(h:A0/\∃ x,A1 x)(k:A0->∀ x,A1 x->Z):Z:=h.2.elim λx h1=>k h.1 x h1
theorem bj(h:∃ x,A1 x/\B1 x)(k:∀ x,A1 x->B1 x->Z):Z:=h.elim λx h=>k x h.1 h.2
theorem wJ(h:∃ x,∃ y,A2 x y)(k:∀ x,∀ y,A2 x y->Z):Z:=h.elim λx h=>h.elim λy h=>k x y h
theorem gM(h:A0/\B0/\C0/\D0)(k:A0->B0->C0->D0->Z):Z:=k h.1 h.2.1 h.2.2.1 h.2.2.2
theorem V7(h:A0/\B0/\∃ x,A1 x)(k:A0->B0->∀ x,A1 x->Z):Z:=h.2.2.elim λx h2=>k h.1 h.2.1 x h2
theorem fm(h:A0/\∃ x,A1 x/\B1 x)(k:A0->∀ x,A1 x->B1 x->Z):Z:=h.2.elim λx h1=>k h.1 x h1.1 h1.2
theorem bp(h:∃ x,A1 x/\B1 x/\C1 x)(k:∀ x,A1 x->B1 x->C1 x->Z):Z:=h.elim λx h=>k x h.1 h.2.1 h.2.2
theorem jQ(h:∃ x,∃ y,A2 x y/\B2 x y)(k:∀ x,∀ y,A2 x y->B2 x y->Z):Z:=h.elim λx h=>h.elim λy h=>k x y h.1 h.2
theorem iV(h:A0/\B0/\C0/\D0/\E0)(k:A0->B0->C0->D0->E0->Z):Z:=k h.1 h.2.1 h.2.2.1 h.2.2.2.1 h.2.2.2.2
theorem bU(h:A0/\∃ x,∃ y,A2 x y/\B2 x y)(k:A0->∀ x,∀ y,A2 x y->B2 x y->Z):Z:=h.2.elim λx h1=>h1.elim λy h2=>k h.1 x y h2.1 h2.2
theorem oS(h:∃ x,A1 x/\B1 x/\C1 x/\D1 x)(k:∀ x,A1 x->B1 x->C1 x->D1 x->Z):Z:=h.elim λx h=>k x h.1 h.2.1 h.2.2.1 h.2.2.2
theorem PB(h:∃ x,A1 x/\B1 x/\∃ y,A2 x y)(k:∀ x,A1 x->B1 x->∀ y,A2 x y->Z):Z:=h.elim λx h0=>h0.2.2.elim λy h3=>k x h0.1 h0.2.1 y h3
theorem IV(h:∃ x,A1 x/\∃ y,A2 x y/\B2 x y)(k:∀ x,A1 x->∀ y,A2 x y->B2 x y->Z):Z:=h.elim λx h0=>h0.2.elim λy h2=>k x h0.1 y h2.1 h2.2
theorem dR(h:∃ x,∃ y,A2 x y/\B2 x y/\C2 x y)(k:∀ x,∀ y,A2 x y->B2 x y->C2 x y->Z):Z:=h.elim λx h=>h.elim λy h=>k x y h.1 h.2.1 h.2.2
theorem DF(h:∃ x,∃ y,∃ z,A3 x y z/\B3 x y z)(k:∀ x,∀ y,∀ z,A3 x y z->B3 x y z->Z):Z:=h.elim λx h=>h.elim λy h=>h.elim λz h=>k x y z h.1 h.2
theorem kJ(h:A0/\B0/\C0/\D0/\E0/\F0)(k:A0->B0->C0->D0->E0->F0->Z):Z:=k h.1 h.2.1 h.2.2.1 h.2.2.2.1 h.2.2.2.2.1 h.2.2.2.2.2
theorem tV(h:A0/\∃ x,A1 x/\B1 x/\C1 x/\D1 x)(k:A0->∀ x,A1 x->B1 x->C1 x->D1 x->Z):Z:=h.2.elim λx h1=>k h.1 x h1.1 h1.2.1 h1.2.2.1 h1.2.2.2
theorem Lg(h:A0/\∃ x,A1 x/\∃ y,A2 x y/\B2 x y)(k:A0->∀ x,A1 x->∀ y,A2 x y->B2 x y->Z):Z:=h.2.elim λx h1=>h1.2.elim λy h3=>k h.1 x h1.1 y h3.1 h3.2
theorem Lh(h:A0/\∃ x,∃ y,∃ z,A3 x y z/\B3 x y z)(k:A0->∀ x,∀ y,∀ z,A3 x y z->B3 x y z->Z):Z:=h.2.elim λx h1=>h1.elim λy h2=>h2.elim λz h3=>k h.1 x y z h3.1 h3.2
theorem Li(h:∃ x,A1 x/\B1 x/\C1 x/\D1 x/\E1 x)(k:∀ x,A1 x->B1 x->C1 x->D1 x->E1 x->Z):Z:=h.elim λx h=>k x h.1 h.2.1 h.2.2.1 h.2.2.2.1 h.2.2.2.2
theorem jn(h:∃ x,∃ y,A2 x y/\B2 x y/\C2 x y/\D2 x y)(k:∀ x,∀ y,A2 x y->B2 x y->C2 x y->D2 x y->Z):Z:=h.elim λx h=>h.elim λy h=>k x y h.1 h.2.1 h.2.2.1 h.2.2.2
theorem kK(h:∃ x,∃ y,∃ z,A3 x y z/\B3 x y z/\C3 x y z)(k:∀ x,∀ y,∀ z,A3 x y z->B3 x y z->C3 x y z->Z):Z:=h.elim λx h=>h.elim λy h=>h.elim λz h=>k x y z h.1 h.2.1 h.2.2
theorem DG(h:∃ x,∃ y,∃ z,∃ w,A4 x y z w/\B4 x y z w)(k:∀ x,∀ y,∀ z,∀ w,A4 x y z w->B4 x y z w->Z):Z:=h.elim λx h=>h.elim λy h=>h.elim λz h=>h.elim λw h=>k x y z w h.1 h.2
theorem dH(h:A0/\∃ x,∃ y,A2 x y/\B2 x y/\C2 x y/\D2 x y)(k:A0->∀ x,∀ y,A2 x y->B2 x y->C2 x y->D2 x y->Z):Z:=h.2.elim λx h1=>h1.elim λy h2=>k h.1 x y h2.1 h2.2.1 h2.2.2.1 h2.2.2.2
theorem tW(h:A0/\∃ x,∃ y,∃ z,A3 x y z/\B3 x y z/\C3 x y z)(k:A0->∀ x,∀ y,∀ z,A3 x y z->B3 x y z->C3 x y z->Z):Z:=h.2.elim λx h1=>h1.elim λy h2=>h2.elim λz h3=>k h.1 x y z h3.1 h3.2.1 h3.2.2
theorem z0(h:∃ x,∃ y,A2 x y/\B2 x y/\C2 x y/\D2 x y/\E2 x y)(k:∀ x,∀ y,A2 x y->B2 x y->C2 x y->D2 x y->E2 x y->Z):Z:=h.elim λx h=>h.elim λy h=>k x y h.1 h.2.1 h.2.2.1 h.2.2.2.1 h.2.2.2.2
theorem cS(h:∃ x,∃ y,∃ z,A3 x y z/\B3 x y z/\C3 x y z/\D3 x y z)(k:∀ x,∀ y,∀ z,A3 x y z->B3 x y z->C3 x y z->D3 x y z->Z):Z:=h.elim λx h=>h.elim λy h=>h.elim λz h=>k x y z h.1 h.2.1 h.2.2.1 h.2.2.2
theorem hV(h:A0/\∃ x,∃ y,∃ z,A3 x y z/\B3 x y z/\C3 x y z/\D3 x y z)(k:A0->∀ x,∀ y,∀ z,A3 x y z->B3 x y z->C3 x y z->D3 x y z->Z):Z:=h.2.elim λx h1=>h1.elim λy h2=>h2.elim λz h3=>k h.1 x y z h3.1 h3.2.1 h3.2.2.1 h3.2.2.2
theorem gz(h:∃ x,∃ y,∃ z,A3 x y z/\B3 x y z/\C3 x y z/\D3 x y z/\E3 x y z)(k:∀ x,∀ y,∀ z,A3 x y z->B3 x y z->C3 x y z->D3 x y z->E3 x y z->Z):Z:=h.elim λx h=>h.elim λy h=>h.elim λz h=>k x y z h.1 h.2.1 h.2.2.1 h.2.2.2.1 h.2.2.2.2
theorem dt(h:A0/\∃ x,∃ y,∃ z,A3 x y z/\B3 x y z/\C3 x y z/\D3 x y z/\E3 x y z)(k:A0->∀ x,∀ y,∀ z,A3 x y z->B3 x y z->C3 x y z->D3 x y z->E3 x y z->Z):Z:=h.2.elim λx h1=>h1.elim λy h2=>h2.elim λz h3=>k h.1 x y z h3.1 h3.2.1 h3.2.2.1 h3.2.2.2.1 h3.2.2.2.2
theorem AI(h:∃ x,∃ y,∃ z,A3 x y z/\B3 x y z/\C3 x y z/\D3 x y z/\E3 x y z/\F3 x y z)(k:∀ x,∀ y,∀ z,A3 x y z->B3 x y z->C3 x y z->D3 x y z->E3 x y z->F3 x y z->Z):Z:=h.elim λx h=>h.elim λy h=>h.elim λz h=>k x y z h.1 h.2.1 h.2.2.1 h.2.2.2.1 h.2.2.2.2.1 h.2.2.2.2.2
theorem fw(h:∃ x,∃ y,∃ z,∃ w,A4 x y z w/\B4 x y z w/\C4 x y z w/\D4 x y z w/\E4 x y z w)(k:∀ x,∀ y,∀ z,∀ w,A4 x y z w->B4 x y z w->C4 x y z w->D4 x y z w->E4 x y z w->Z):Z:=h.elim λx h=>h.elim λy h=>h.elim λz h=>h.elim λw h=>k x y z w h.1 h.2.1 h.2.2.1 h.2.2.2.1 h.2.2.2.2
theorem jm(h:A0/\∃ x,∃ y,∃ z,A3 x y z/\B3 x y z/\C3 x y z/\∃ w,A4 x y z w/\B4 x y z w)(k:A0->∀ x,∀ y,∀ z,A3 x y z->B3 x y z->C3 x y z->∀ w,A4 x y z w->B4 x y z w->Z):Z:=h.2.elim λx h1=>h1.elim λy h2=>h2.elim λz h3=>h3.2.2.2.elim λw h7=>k h.1 x y z h3.1 h3.2.1 h3.2.2.1 w h7.1 h7.2
theorem mi(h:∃ x,∃ y,∃ z,A3 x y z/\B3 x y z/\C3 x y z/\D3 x y z/\E3 x y z/\F3 x y z/\G3 x y z)(k:∀ x,∀ y,∀ z,A3 x y z->B3 x y z->C3 x y z->D3 x y z->E3 x y z->F3 x y z->G3 x y z->Z):Z:=h.elim λx h=>h.elim λy h=>h.elim λz h=>k x y z h.1 h.2.1 h.2.2.1 h.2.2.2.1 h.2.2.2.2.1 h.2.2.2.2.2.1 h.2.2.2.2.2.2
end
section
variable {A0 A1 A2 A3 A4 A5 A6 A7 A8 A9 Bf HM Q6:Type}
@[irreducible] noncomputable def kz[Nonempty A0](P:A0->Prop):A0:=ug λt=>¬ P t
theorem zz[Nonempty A0]{P:A0->Prop}(h:P (kz P))(a:A0):P a:=gT λn=>by
 unfold kz at h;exact pM (p:=λt=>¬ P t) ⟨a,n⟩ h
abbrev p1(P:A0->Prop)(t:A0):Prop:=P t
theorem z1[Nonempty A0]{P:A0->Prop}(h:p1 P (kz (p1 P))):∀ x0,P x0:=λ_=>zz h _
abbrev p2(P:A0->A1->Prop)(t:A0×A1):Prop:=p1 (P t.1) t.2
theorem z2[Nonempty (A0×A1)]{P:A0->A1->Prop}(h:p2 P (kz (p2 P))):∀ x0 x1,P x0 x1:=λ_ _=>zz h (_,_)
abbrev p3(P:A0->A1->A2->Prop)(t:A0×A1×A2):Prop:=p2 (P t.1) t.2
theorem z3[Nonempty (A0×A1×A2)]{P:A0->A1->A2->Prop}(h:p3 P (kz (p3 P))):∀ x0 x1 x2,P x0 x1 x2:=λ_ _ _=>zz h (_,_,_)
abbrev p4(P:A0->A1->A2->A3->Prop)(t:A0×A1×A2×A3):Prop:=p3 (P t.1) t.2
theorem z4[Nonempty (A0×A1×A2×A3)]{P:A0->A1->A2->A3->Prop}(h:p4 P (kz (p4 P))):∀ x0 x1 x2 x3,P x0 x1 x2 x3:=λ_ _ _ _=>zz h (_,_,_,_)
abbrev p5(P:A0->A1->A2->A3->A4->Prop)(t:A0×A1×A2×A3×A4):Prop:=p4 (P t.1) t.2
theorem z5[Nonempty (A0×A1×A2×A3×A4)]{P:A0->A1->A2->A3->A4->Prop}(h:p5 P (kz (p5 P))):∀ x0 x1 x2 x3 x4,P x0 x1 x2 x3 x4:=λ_ _ _ _ _=>zz h (_,_,_,_,_)
abbrev p6(P:A0->A1->A2->A3->A4->A5->Prop)(t:A0×A1×A2×A3×A4×A5):Prop:=p5 (P t.1) t.2
theorem z6[Nonempty (A0×A1×A2×A3×A4×A5)]{P:A0->A1->A2->A3->A4->A5->Prop}(h:p6 P (kz (p6 P))):∀ x0 x1 x2 x3 x4 x5,P x0 x1 x2 x3 x4 x5:=λ_ _ _ _ _ _=>zz h (_,_,_,_,_,_)
abbrev p7(P:A0->A1->A2->A3->A4->A5->A6->Prop)(t:A0×A1×A2×A3×A4×A5×A6):Prop:=p6 (P t.1) t.2
theorem z7[Nonempty (A0×A1×A2×A3×A4×A5×A6)]{P:A0->A1->A2->A3->A4->A5->A6->Prop}(h:p7 P (kz (p7 P))):∀ x0 x1 x2 x3 x4 x5 x6,P x0 x1 x2 x3 x4 x5 x6:=λ_ _ _ _ _ _ _=>zz h (_,_,_,_,_,_,_)
abbrev p8(P:A0->A1->A2->A3->A4->A5->A6->A7->Prop)(t:A0×A1×A2×A3×A4×A5×A6×A7):Prop:=p7 (P t.1) t.2
theorem z8[Nonempty (A0×A1×A2×A3×A4×A5×A6×A7)]{P:A0->A1->A2->A3->A4->A5->A6->A7->Prop}(h:p8 P (kz (p8 P))):∀ x0 x1 x2 x3 x4 x5 x6 x7,P x0 x1 x2 x3 x4 x5 x6 x7:=λ_ _ _ _ _ _ _ _=>zz h (_,_,_,_,_,_,_,_)
abbrev p9(P:A0->A1->A2->A3->A4->A5->A6->A7->A8->Prop)(t:A0×A1×A2×A3×A4×A5×A6×A7×A8):Prop:=p8 (P t.1) t.2
theorem z9[Nonempty (A0×A1×A2×A3×A4×A5×A6×A7×A8)]{P:A0->A1->A2->A3->A4->A5->A6->A7->A8->Prop}(h:p9 P (kz (p9 P))):∀ x0 x1 x2 x3 x4 x5 x6 x7 x8,P x0 x1 x2 x3 x4 x5 x6 x7 x8:=λ_ _ _ _ _ _ _ _ _=>zz h (_,_,_,_,_,_,_,_,_)
abbrev Va(P:A0->A1->A2->A3->A4->A5->A6->A7->A8->A9->Prop)(t:A0×A1×A2×A3×A4×A5×A6×A7×A8×A9):Prop:=p9 (P t.1) t.2
theorem z10[Nonempty (A0×A1×A2×A3×A4×A5×A6×A7×A8×A9)]{P:A0->A1->A2->A3->A4->A5->A6->A7->A8->A9->Prop}(h:Va P (kz (Va P))):∀ x0 x1 x2 x3 x4 x5 x6 x7 x8 x9,P x0 x1 x2 x3 x4 x5 x6 x7 x8 x9:=λ_ _ _ _ _ _ _ _ _ _=>zz h (_,_,_,_,_,_,_,_,_,_)
abbrev Vb(P:A0->A1->A2->A3->A4->A5->A6->A7->A8->A9->Bf->Prop)(t:A0×A1×A2×A3×A4×A5×A6×A7×A8×A9×Bf):Prop:=Va (P t.1) t.2
theorem z11[Nonempty (A0×A1×A2×A3×A4×A5×A6×A7×A8×A9×Bf)]{P:A0->A1->A2->A3->A4->A5->A6->A7->A8->A9->Bf->Prop}(h:Vb P (kz (Vb P))):∀ x0 x1 x2 x3 x4 x5 x6 x7 x8 x9 Q1,P x0 x1 x2 x3 x4 x5 x6 x7 x8 x9 Q1:=λ_ _ _ _ _ _ _ _ _ _ _=>zz h (_,_,_,_,_,_,_,_,_,_,_)
abbrev Fb(P:A0->A1->A2->A3->A4->A5->A6->A7->A8->A9->Bf->HM->Prop)(t:A0×A1×A2×A3×A4×A5×A6×A7×A8×A9×Bf×HM):Prop:=Vb (P t.1) t.2
theorem z12[Nonempty (A0×A1×A2×A3×A4×A5×A6×A7×A8×A9×Bf×HM)]{P:A0->A1->A2->A3->A4->A5->A6->A7->A8->A9->Bf->HM->Prop}(h:Fb P (kz (Fb P))):∀ x0 x1 x2 x3 x4 x5 x6 x7 x8 x9 Q1 Vm,P x0 x1 x2 x3 x4 x5 x6 x7 x8 x9 Q1 Vm:=λ_ _ _ _ _ _ _ _ _ _ _ _=>zz h (_,_,_,_,_,_,_,_,_,_,_,_)
abbrev XA(P:A0->A1->A2->A3->A4->A5->A6->A7->A8->A9->Bf->HM->Q6->Prop)(t:A0×A1×A2×A3×A4×A5×A6×A7×A8×A9×Bf×HM×Q6):Prop:=Fb (P t.1) t.2
theorem z13[Nonempty (A0×A1×A2×A3×A4×A5×A6×A7×A8×A9×Bf×HM×Q6)]{P:A0->A1->A2->A3->A4->A5->A6->A7->A8->A9->Bf->HM->Q6->Prop}(h:XA P (kz (XA P))):∀ x0 x1 x2 x3 x4 x5 x6 x7 x8 x9 Q1 Vm x12,P x0 x1 x2 x3 x4 x5 x6 x7 x8 x9 Q1 Vm x12:=λ_ _ _ _ _ _ _ _ _ _ _ _ _=>zz h (_,_,_,_,_,_,_,_,_,_,_,_,_)
end
section
variable {A0 A1 A2 A3 A4 A5:Type} {Z:Prop}
@[irreducible] noncomputable def ez[Nonempty A0](P:A0->Prop):A0:=ug P
theorem ee[Nonempty A0]{P:A0->Prop}{t:A0}(h:P t):P (ez P):=by unfold ez;exact pM ⟨t,h⟩
theorem ew1[Nonempty (A0)]{P:A0->Prop}(h:∃ x0,P x0):p1 P (ez (p1 P)):=h.elim λ_ h=>ee (t:=_) h
theorem oE1{P:A0->Prop}(h:∃ x0,P x0)(k:∀ x0,P x0->Z):Z:=h.elim λ_ h=>k _ h
theorem ew2[Nonempty (A0×A1)]{P:A0->A1->Prop}(h:∃ x0 x1,P x0 x1):p2 P (ez (p2 P)):=h.elim λ_ h=>h.elim λ_ h=>ee (t:=(_,_)) h
theorem oE2{P:A0->A1->Prop}(h:∃ x0 x1,P x0 x1)(k:∀ x0 x1,P x0 x1->Z):Z:=h.elim λ_ h=>h.elim λ_ h=>k _ _ h
end
theorem lb{i n:Nat}(h:Nat.ble i n=true):i<=n:=k6 h
theorem dT{p:Prop}{i:Decidable p}(h:decide p=true):p:=of_decide_eq_true h
theorem dF{p:Prop}{i:Decidable p}(h:decide p=false):¬ p:=of_decide_eq_false h
noncomputable abbrev MV (l:List Type):Type:=List.rec (motive:=λ_=>Type) Prop (λA _ ih=>A->ih) l
noncomputable abbrev Vo (l:List Type):Type:=List.rec (motive:=λ_=>Type) Unit (λA _ ih=>A×ih) l
noncomputable def zA(l:List Type):MV l->Prop:=List.rec (motive:=λl=>MV l->Prop) (λP=>P) (λ_ _ ih P=>∀ x,ih (P x)) l
noncomputable def zP(l:List Type):MV l->Vo l->Prop:=List.rec (motive:=λl=>MV l->Vo l->Prop) (λP _=>P) (λ_ _ ih P t=>ih (P t.1) t.2) l
theorem zL_(l:List Type):∀ P:MV l,(∀ t,zP l P t)->zA l P:=by
 induction l with
 |nil=>exact λP h=>h ()
 |cons A r ih=>exact λP h x=>ih (P x) λt=>h (x,t)
theorem zL(l:List Type)[Nonempty (Vo l)]{P:MV l}(h:zP l P (kz (zP l P))):zA l P:=zL_ l P (zz h)
theorem iF{α:Type}{a:α}{P:Prop}(h:a∈([]:List α)):P:=nomatch h
theorem cz{α:Type}{a:α}{P:Prop}(h:none=some a):P:=nomatch h
theorem fB{α:Type}{a:α}{P:Prop}(h:some a=none):P:=nomatch h
theorem ft{P:Prop}(h:false=true):P:=nomatch h
theorem Q3{P:Prop}(h:true=false):P:=nomatch h
theorem j4{α:Type}{a:α}{l r:List α}:a∈l++a::r:=bG l (.head r)
theorem J9{α:Type}{a:α}:[a].Nodup:=aQ.mpr ⟨bW,dX⟩
theorem nb{a b:Nat}(h:dg a b=false):a≠b:=fS h
theorem bA{a b:Bool}(h:(a&&b)=true):a=true/\b=true:=gE.mp h
theorem bF{b:Bool}(h:(!b)=true):b=false:=by cases b with
 |false=>rfl
 |true=>cases h
theorem gk{p:Prop}(h:p):p:=h
@[elab_as_elim] theorem rwl{α:Sort _}{a b:α}{P:α->Prop}(h:a=b)(x:P b):P a:=h▸x
@[elab_as_elim] theorem rwm{α:Sort _}{a b:α}{P:α->Prop}(h:b=a)(x:P b):P a:=h▸x
local macro_rules | `(tactic| clear $xs*) => do
 if xs.raw.all (fun x => x.isIdent) then Lean.Macro.throwUnsupported
 let c ←read
 let q a s:=Pj (fun n=>Lean.addMacroScope c.quotContext n c.currMacroScope) a s
 let l:=xs.raw.toList
 let v:=l.takeWhile (·.isIdent)
 let h:=l.drop (v.length + 1)
 let n (c : String) : List Lean.Syntax:=[Lean.mkIdent (.mkSimple (c++toString v.length))]
 let u:=v.map fun _=>l[v.length]!
 let d X c y i:=q #[c,[X],[q #[[X],u,n "ew"] y],i] "{G {r {H g } } '; {r {P {A {H d } ': {. {t.arrow {O {A {P $0 {. $1 {H q } } } ': {. {O {H g } } } ') } } '→ {O {H g } } } } ') } {. $2 } } } '; {K d } {. } } } '=> {S {x {L x } {. } '=> x } } } ^ } '; {T.clear 'clear {. $1 } } '; {i $3 } } &"
 let p X:=d X [Lean.mkIdent `oA] "{P {H q } {. {P And.left {. $0 } } {P And.right {. $0 } } } }"
 return match v,h with
 | [],[X,a,b]=>p X [a,b]
 | [],X::a::r=>q #[[p X [a,X]],X::r] "{G $0 '; {T.clear 'clear {. _ $1 } } &"
 | _,_=>if (h.headD l.head!).isIdent then
   q #[v,h,n "z",u,if h.isEmpty then [] else [q #[h] "{T.revert 'revert {. $0 } }",.atom .none ";"],u.intersperse (.atom .none ",")] ("{G $4 {T.revert 'revert {. $0 } } '; {r {N {A {H g } ': {. {t.forall '∀ {. $0 } {. } ', _ } } ') } } } '; {r {N {P "++(if v.length < 14 then "$2 {. " else "zL {. {«term[_]» '[ {. $5 } '] } ")++"{P {A {H f } ': {. {O {H g } } } ') } {. $3 } } } } } } '; {i $0 $1 } } &")
  else d l.getLast! (n "oE") "{P {H q } {. $1 {P $2 {. $0 } } } }" (v++[l.getLast!])
local macro_rules | `(tactic| rw [$rs,*])=>do
 let q:=Pj id
 let t:=rs.getElems.toList.map fun r=>q #[[r.raw[1]],[Lean.mkIdent (if r.raw[0].getNumArgs = 0 then `rwl else `rwm)],[r.raw],[q #[[.atom .none "_"]] "{t.syntheticHole '? $0 }"]] "{F {I {r {P $1 {. $0 $3 } } } ^ } {I {r {P $1 {. {P $0 {. _ } } $3 } } } ^ } {I {r {P $1 {. {P $0 {. _ _ } } $3 } } } ^ } {I {T.rewriteSeq 'rewrite {T.optConfig {. } } {T.rwRuleSeq '[ {. $2 } '] } {. } } ^ } } }"
 return q #[t.intersperse (.atom .none ";")] "{G $0 '; {F {I {R {rf } ^ } ^ } {I {T.skip 'skip } ^ } } } &"
local macro_rules | `(tactic| lia)=>`(tactic| lia -abstractProof)
local macro_rules | `(tactic| left) => `(tactic| repeat fail)
local macro_rules | `(tactic| show $t) => `(tactic| refine $t)
namespace LI
inductive X where|L (k:Nat)|B (o:Nat) (a b:X)
noncomputable def gI(v:List Int):Nat->Int:=List.rec (λ_=>0) (λx _ ih k=>Nat.rec x (λk _=>ih k) k) v
noncomputable def gN(v:List Nat):Nat->Nat:=List.rec (λ_=>0) (λx _ ih k=>Nat.rec x (λk _=>ih k) k) v
noncomputable def cs:Nat->Nat:=gN [0,1,1000,2,1000000,3,4,1000000000000,20,6,50000,100000,900,9000,100,60,64,12,63,3000,5,1000000000,17,16777216,100000000,9900,9223372036854775808,40000,999,40,2000,8,37,39,301,16777217,1152921504606846975,4611686018427387904,18446744073709551616,7,9,10,11,13,16,24,30,32,62,65,41,36,38,300,1001,1152921504606846976,9223372036854775807,255,256,80,1000000000000000000]
noncomputable def sw{α:Sort _}(l:List α)(z:α):Nat->α:=List.rec (λ_=>z) (λx _ ih k=>Nat.rec x (λk _=>ih k) k) l
section
variable (v:List Int) (w:List Nat)
noncomputable def dN(x:X):Nat:=X.rec (λk=>cond (gF k 32) (gN w (k / 2)) (cs (k-32))) (λo _ _ a b=>Nat.rec (a+b) (λo _=>Nat.rec (a*b) (λ_ _=>0) o) o) x
noncomputable def dI(x:X):Int:=X.rec (λk=>cond (gF k 32) (cond (dg (k % 2) 0) (gI v (k / 2)) ((gN w (k / 2):Nat):Int)) (Int.ofNat (cs (k-32))))
 (λo _ y a b=>Nat.rec (a+b) (λo _=>Nat.rec (a*b) (λo _=>Nat.rec (a-b) (λo _=>Nat.rec (-b) (λ_ _=>((dN w y:Nat):Int)) o) o) o) o) x
noncomputable def dP(x:X):Prop:=X.rec (λ_=>False)
 (λo x y a b=>sw [dI v w x<=dI v w y,dI v w x<dI v w y,dI v w x=dI v w y,dN w x<=dN w y,dN w x<dN w y,dN w x=dN w y,a/\b,a\/b,a->b,¬ b,dI v w x≠dI v w y,dN w x≠dN w y] True (o-5)) x
end
abbrev Po:=List (Nat×Nat)
noncomputable def rE(p:Po):Po->Po:=List.rec (λq=>q) (λc r ih q=>List.rec (c::r) (λd t _=>(c.1+d.1,c.2+d.2)::ih t) q) p
noncomputable def IZ(k:Nat)(p:Po):Po:=List.rec [] (λc _ ih=>(k*c.1,k*c.2)::ih) p
noncomputable def Ln(p:Po):Po:=List.rec [] (λc _ ih=>(c.2,c.1)::ih) p
noncomputable def Rj(k:Nat):Po:=Nat.rec [(1,0)] (λ_ ih=>(0,0)::ih) k
noncomputable def pv(p:Po):(Nat->Int)->Int:=List.rec (λ_=>0) (λc _ ih f=>((c.1:Int)-c.2)*f 0+ih λi=>f (i+1)) p
theorem VA(p q r s:Int):p+q+(r+s)=p+r+(q+s):=by rw[sZ,Int.add_left_comm q,<-sZ]
theorem u0(p:Po):∀ q f,pv (rE p q) f=pv p f+pv q f:=by
 induction p with
 |nil=>intro q f;show (nV _).symm
 |cons c r ih=>
  intro q f;cases q with
  |nil=>show (fQ _).symm
  |cons d t=>
   change ((c.1+d.1:Nat)-((c.2+d.2:Nat):Int))*f 0+pv (rE r t) _=_*f 0+pv r _+(_*f 0+pv t _)
   rw[ih,fu,fu,Int.sub_eq_add_neg,Int.neg_add,VA,Int.add_mul];show VA _ _ _ _
theorem J1(k:Nat)(p:Po):∀ f,pv (IZ k p) f=k*pv p f:=by
 induction p with
 |nil=>intro f;show (Int.mul_zero _).symm
 |cons c r ih=>
  intro f;change ((k*c.1:Nat)-((k*c.2:Nat):Int))*f 0+pv (IZ k r) _=k*(_*f 0+pv r _)
  rw[ih,pQ,pQ,<-Int.mul_sub,dy,Int.mul_assoc]
theorem J0(p:Po):∀ f,pv (Ln p) f = - pv p f:=by
 induction p with
 |nil=>intro f;rfl
 |cons c r ih=>
  intro f;change ((c.2:Int)-c.1)*f 0+pv (Ln r) _ = - (_*f 0+pv r _)
  rw[ih,Int.neg_add,<-Int.neg_mul,Int.neg_sub]
theorem PF(k:Nat):∀ f,pv (Rj k) f=f k:=by
 induction k with
 |zero=>intro f;change ((1:Nat)-((0:Nat):Int))*f 0+0=_;simp
 |succ n ih=>intro f;change ((0:Nat)-((0:Nat):Int))*f 0+pv (Rj n) _=_;rw[ih];simp
noncomputable def ln(x:X):Bool->Option Po:=X.rec (λk i=>cond (gF k 32) (cond i (some (Rj (k+1))) (cond (dg (k % 2) 0) none (some (Rj (k+1))))) (some [(cs (k-32),0)]))
 (λo x _ a b i=>Nat.rec ((a i).bind λp=>(b i).bind λq=>some (rE p q)) (λo _=>Nat.rec (X.rec (λk=>cond (gF k 32) none ((b i).bind λq=>some (IZ (cs (k-32)) q))) (λ_ _ _ _ _=>none) x) (λo _=>
  cond i (Nat.rec ((a i).bind λp=>(b i).bind λq=>some (rE p (Ln q))) (λo _=>Nat.rec ((b i).bind λq=>some (Ln q)) (λ_ _=>b false) o) o) none) o) o) x
noncomputable def val(v:List Int)(w:List Nat)(k:Nat):Int:=Nat.rec 1 (λk _=>cond (dg (k % 2) 0) (gI v (k / 2)) (gN w (k / 2):Int)) k
theorem bd{α β γ:Type}{A:Option α}{B:Option β}{g:α->β->γ}{c:γ}{Z:Prop}(e:(A.bind λp=>B.bind λq=>some (g p q))=some c)(k:∀ p q,A=some p->B=some q->g p q=c->Z):Z:=by
 cases A with
 |none=>cases e
 |some p=>cases B with
  |none=>cases e
  |some q=>show k p q rfl rfl (aN e)
theorem VF{β γ:Type}{B:Option β}{g:β->γ}{c:γ}{Z:Prop}(e:(B.bind λq=>some (g q))=some c)(k:∀ q,B=some q->g q=c->Z):Z:=by
 cases B with
 |none=>cases e
 |some q=>show k q rfl (aN e)
section
variable (v:List Int) (w:List Nat)
noncomputable def D(i:Bool)(x:X):Int:=cond i (dI v w x) (dN w x)
theorem lL{t b i:Bool}{A B p:Po}{f:Nat->Int}{x:Int}{m n:Nat}(h:cond t (cond i (some A) (cond b none (some A))) (some B)=some p)(hA:pv A f=cond b x m)(hB:pv B f=n):pv p f=cond i (cond t (cond b x (m:Int)) (Int.ofNat n)) ((cond t m n:Nat):Int):=by
 cases t with
 |true=>cases b with
  |true=>cases i with
   |true=>show aN h▸hA
   |false=>cases h
  |false=>cases i with
   |true=>show aN h▸hA
   |false=>show aN h▸hA
 |false=>cases i with
  |true=>show aN h▸hB
  |false=>show aN h▸hB
theorem V1(k:Nat)(i:Bool)(p:Po)(h:ln (.L k) i=some p):pv p (val v w)=D v w i (.L k) :=
 lL h (PF (k+1) (val v w)) (show ((cs (k-32):Int)-((0:Nat):Int))*1+0=((cs (k-32):Nat):Int) by rw[lF];show (fQ _).trans (Int.sub_zero _))
section
variable {p q r:Po} {f:Nat->Int} {x y z:Int}
theorem Xx(e:rE p q=r)(hp:pv p f=x)(hq:pv q f=y)(h:x+y=z):pv r f=z:=by rw[<-e,u0,hp,hq];show h
theorem one(e:Ln q=r)(hq:pv q f=y)(h:-y=z):pv r f=z:=by rw[<-e,J0,hq];show h
theorem osu(e:rE p (Ln q)=r)(hp:pv p f=x)(hq:pv q f=y)(h:x-y=z):pv r f=z:=Xx e hp (one rfl hq rfl) h
theorem omu{k:Nat}(e:IZ k q=r)(hq:pv q f=y)(h:(k:Int)*y=z):pv r f=z:=by rw[<-e,J1,hq];show h
end
theorem mL{t:Bool}{B:Option Po}{n:Nat}{p:Po}{Z:Prop}(h:cond t none (B.bind λq=>some (IZ n q))=some p)(k:t=false->(B.bind λq=>some (IZ n q))=some p->Z):Z:=by
 cases t with
 |true=>cases h
 |false=>show k rfl h
theorem IG(x:X):∀ i p,ln x i=some p->pv p (val v w)=D v w i x:=by
 induction x with
 |L k=>show V1 v w k
 |B o a b CS yO=>
  intro i p h;cases o with
  |zero=>show bd h λp q hp hq e=>Xx e (CS _ _ hp) (yO _ _ hq) (by cases i with
   |true=>rfl
   |false=>show (fu _ _).symm)
  |succ o=>cases o with
   |zero=>cases a with
    |B=>cases h
    |L k=>show mL (t:=gF k 32) h λz h=>VF h λq hq e=>omu e (yO _ _ hq) (by cases i with
     |true=>show congrArg (·*dI v w b) (show ((cs (k-32):Nat):Int)=cond (gF k 32) _ (Int.ofNat (cs (k-32))) from z▸rfl)
     |false=>show (pQ _ _).symm.trans (congrArg (λn:Nat=>((n*dN w b:Nat):Int)) (show cs (k-32)=cond (gF k 32) _ (cs (k-32)) from z▸rfl)))
   |succ o=>cases i with
    |false=>cases h
    |true=>cases o with
     |zero=>show bd h λp q hp hq e=>osu e (CS _ _ hp) (yO _ _ hq) rfl
     |succ o=>cases o with
      |zero=>show VF h λq hq e=>one e (yO _ _ hq) rfl
      |succ o=>show yO _ _ h
end
noncomputable def ge(k:Nat)(p q:Po):Po:=rE q (rE (Ln p) [(0,k)])
theorem Nq(k:Nat)(p q:Po)(f:Nat->Int)(h:f 0=1):pv (ge k p q) f=pv q f-pv p f-k:=by
 unfold ge;rw[u0,u0,J0];change _+(_+((((0:Nat):Int)-k)*f 0+0))=_;rw[h,lF,fQ,<-sZ];show congrArg (pv q f + -pv p f + ·) (Int.zero_sub (k:Int))
abbrev Cs:=List (List Po)
noncomputable def Sat(f:Nat->Int)(c:Cs):Prop:=∃ l∈c,∀ p∈l,0<=pv p f
noncomputable def rel(o:Nat)(p q:Po):Bool->Cs:=Nat.rec (λs=>cond s [[ge 0 p q]] [[ge 1 q p]]) (λo _=>Nat.rec (λs=>cond s [[ge 1 p q]] [[ge 0 q p]]) (λ_ _ s=>cond s [[ge 0 p q,ge 0 q p]] [[ge 1 p q],[ge 1 q p]]) o) o
noncomputable def app(a b:Cs):Cs:=List.rec b (λx _ ih=>x::ih) a
noncomputable def cat(a b:List Po):List Po:=List.rec b (λx _ ih=>x::ih) a
noncomputable def Fe(a b:Cs):Cs:=List.rec [] (λx _ ih=>app (List.rec [] (λy _ ih=>cat x y::ih) b) ih) a
noncomputable def rL(x y:X)(k:Nat)(i s:Bool):Option Cs:=(ln x i).bind λp=>(ln y i).bind λq=>some (rel k p q s)
noncomputable def dB(a b:Option Cs)(f:Cs->Cs->Cs):Option Cs:=a.bind λp=>b.bind λq=>some (f p q)
noncomputable def dn(x:X):Bool->Option Cs:=X.rec (λk s=>cond (gF k 32) none (some (cond s [] [[]])))
 (λo x y a b s=>sw [rL x y 0 true s,rL x y 1 true s,rL x y 2 true s,rL x y 0 false s,rL x y 1 false s,rL x y 2 false s,dB (a s) (b s) (cond s Fe app),dB (a s) (b s) (cond s app Fe),dB (a (!s)) (b s) (cond s app Fe),b (!s),rL x y 2 true (!s),rL x y 2 false (!s)] none (o-5)) x
theorem Jo(a b:List Po):cat a b=a++b:=by
 induction a with
 |nil=>rfl
 |cons x r ih=>show congrArg (x::·) ih
theorem Ji(a b:Cs):app a b=a++b:=by
 induction a with
 |nil=>rfl
 |cons x r ih=>show congrArg (x::·) ih
section
variable {f:Nat->Int}
theorem pJ{a b:Cs}(h:Sat f a\/Sat f b):Sat f (app a b):=by
 rw[Ji];rcases h with ⟨l,m,h⟩|⟨l,m,h⟩
 .show ⟨l,aM _ m,h⟩
 .show ⟨l,bG _ m,h⟩
theorem u6{a b:Cs}(ha:Sat f a)(hb:Sat f b):Sat f (Fe a b):=by
 obtain ⟨l,m,h⟩:=ha;obtain ⟨k,n,g⟩:=hb;induction a with
 |nil=>cases m
 |cons x r ih=>
  show pJ ?_;rcases ag.mp m with rfl|m
  .show .inl ?_;show ⟨cat l k,?_,λp q=>?_⟩
   .change cat l k∈(List.rec [] (λy _ ih=>cat l y::ih) b:Cs);clear g ih;induction b with
    |nil=>cases n
    |cons y t ih=>
     rcases ag.mp n with rfl|n
     .show .head _
     .show .tail _ (ih n)
   .rw[Jo] at q;rcases ak.mp q with q|q
    .show h p q
    .show g p q
  .show .inr (ih m)
theorem GU{p:Po}(h:0<=pv p f):Sat f [[p]]:=⟨_,.head _,λ_ m=>aa.mp m▸h⟩
theorem s0{x y:Int}(h:x<=y):0<=y-x-((0:Nat):Int):=(Int.sub_zero (y-x)).symm▸wM h
theorem s1{x y:Int}(h:x<y):0<=y-x-((1:Nat):Int):=wM (Int.sub_pos_of_lt h)
theorem g0{p q:Po}{x y:Int}(h0:f 0=1)(hp:pv p f=x)(hq:pv q f=y)(h:x<=y):0<=pv (ge 0 p q) f:=by rw[Nq 0 p q f h0,hp,hq];show s0 h
theorem g1{p q:Po}{x y:Int}(h0:f 0=1)(hp:pv p f=x)(hq:pv q f=y)(h:x<y):0<=pv (ge 1 p q) f:=by rw[Nq 1 p q f h0,hp,hq];show s1 h
theorem GV{o:Nat}{p q:Po}{x y:Int}(h0:f 0=1)(hp:pv p f=x)(hq:pv q f=y):∀ s,cond s (sw [x<=y,x<y] (x=y) o) (¬ sw [x<=y,x<y] (x=y) o)->Sat f (rel o p q s):=by
 intro s h;cases o with
 |zero=>cases s with
  |true=>show GU (g0 h0 hp hq h)
  |false=>show GU (g1 h0 hq hp (Int.lt_of_not_ge h))
 |succ o=>cases o with
  |zero=>cases s with
   |true=>show GU (g1 h0 hp hq h)
   |false=>show GU (g0 h0 hq hp (Int.not_lt.mp h))
  |succ o=>
   cases s with
   |true=>show ⟨_,.head _,λp m=>(ag.mp m).elim (λe=>e▸g0 h0 hp hq (Int.le_of_eq h)) λm=>aa.mp m▸g0 h0 hq hp (Int.le_of_eq h.symm)⟩
   |false=>show (Int.lt_or_gt_of_ne h).elim (λh=>⟨_,.head _,λ_ m=>aa.mp m▸g1 h0 hp hq h⟩) λh=>⟨_,.tail _ (.head _),λ_ m=>aa.mp m▸g1 h0 hq hp h⟩
end
noncomputable def al(s:Bool)(c:Cs)(Z:Prop)(l:List (Option Cs×Prop)):Prop:=List.rec True (λp _ ih=>(p.1=some c->cond s p.2 (¬ p.2)->Z)/\ih) l
theorem PV{s:Bool}{c:Cs}{Z:Prop}(l:List (Option Cs×Prop))(H:al s c Z l):∀ k,sw (l.map qV) none k=some c->cond s (sw (l.map Prod.snd) True k) (¬ sw (l.map Prod.snd) True k)->Z:=by
 induction l with
 |nil=>show λk e=>nomatch e
 |cons p r ih=>intro k;cases k with
  |zero=>show H.1
  |succ k=>show ih H.2 k
section
variable {v:List Int} {w:List Nat} {s:Bool} {c:Cs} {a b:X}
theorem rl{i:Bool}{o:Nat}(e:rL a b o i s=some c)(h:cond s (sw [D v w i a<=D v w i b,D v w i a<D v w i b] (D v w i a=D v w i b) o) (¬ sw [D v w i a<=D v w i b,D v w i a<D v w i b] (D v w i a=D v w i b) o)):Sat (val v w) c :=
 bd e λp q hp hq e=>e▸GV rfl (IG v w a i p hp) (IG v w b i q hq) s h
theorem ng{p q:Prop}(i:p↔q)(h:cond s p (¬ p)):cond s q (¬ q):=by cases s with
 |true=>show i.mp h
 |false=>show λq=>h (i.mpr q)
theorem fl{p:Prop}(h:cond s (¬ p) (¬ ¬ p)):cond (!s) p (¬ p):=by cases s with
 |true=>show h
 |false=>show Classical.not_not.mp h
abbrev DO(v:List Int)(w:List Nat)(x:X):Prop:=∀ s c,dn x s=some c->cond s (dP v w x) (¬ dP v w x)->Sat (val v w) c
theorem Yk(CS:DO v w a)(yO:DO v w b)(e:dB (dn a s) (dn b s) (cond s Fe app)=some c)(h:cond s (dP v w a/\dP v w b) (¬ (dP v w a/\dP v w b))):Sat (val v w) c:=bd e λp q hp hq e=>e▸by
 cases s with
 |true=>show u6 (CS _ _ hp h.1) (yO _ _ hq h.2)
 |false=>show pJ ((Classical.not_and_iff_not_or_not.mp h).imp (CS _ _ hp) (yO _ _ hq))
theorem Ym(CS:DO v w a)(yO:DO v w b)(e:dB (dn a s) (dn b s) (cond s app Fe)=some c)(h:cond s (dP v w a\/dP v w b) (¬ (dP v w a\/dP v w b))):Sat (val v w) c:=bd e λp q hp hq e=>e▸by
 cases s with
 |true=>show pJ (Or.imp (CS _ _ hp) (yO _ _ hq) h)
 |false=>show u6 (CS _ _ hp λz=>h (.inl z)) (yO _ _ hq λz=>h (.inr z))
theorem Yl(CS:DO v w a)(yO:DO v w b)(e:dB (dn a (!s)) (dn b s) (cond s app Fe)=some c)(h:cond s (dP v w a->dP v w b) (¬ (dP v w a->dP v w b))):Sat (val v w) c:=bd e λp q hp hq e=>e▸by
 cases s with
 |true=>show pJ ((Classical.em (dP v w a)).elim (λz=>.inr (yO _ _ hq (h z))) λz=>.inl (CS _ _ hp z))
 |false=>show u6 (CS _ _ hp (gT λz=>h λy=>absurd y z)) (yO _ _ hq λz=>h λ_=>z)
end
theorem Ng(v:List Int)(w:List Nat)(x:X):DO v w x:=by
 induction x with
 |L k=>
  intro s c e h;change cond (gF k 32) none (some (cond s [] [[]]))=some c at e;cases hk:gF k 32 with
  |true=>rw[hk] at e;cases e
  |false=>
   rw[hk] at e;cases e;cases s with
   |true=>show h.elim
   |false=>show ⟨[],.head _,λ_ m=>nomatch m⟩
 |B o x y UY QZ=>
  intro s c;show PV [(rL x y 0 true s,dI v w x<=dI v w y),(rL x y 1 true s,dI v w x<dI v w y),(rL x y 2 true s,dI v w x=dI v w y),(rL x y 0 false s,dN w x<=dN w y),(rL x y 1 false s,dN w x<dN w y),(rL x y 2 false s,dN w x=dN w y),(dB (dn x s) (dn y s) (cond s Fe app),dP v w x/\dP v w y),(dB (dn x s) (dn y s) (cond s app Fe),dP v w x\/dP v w y),(dB (dn x (!s)) (dn y s) (cond s app Fe),dP v w x->dP v w y),(dn y (!s),¬ dP v w y),(rL x y 2 true (!s),dI v w x≠dI v w y),(rL x y 2 false (!s),dN w x≠dN w y)]
   ⟨λe h=>rl (i:=true) (o:=0) e h,λe h=>rl (i:=true) (o:=1) e h,λe h=>rl (i:=true) (o:=2) e h,λe h=>rl (i:=false) (o:=0) e (ng uz.symm h),λe h=>rl (i:=false) (o:=1) e (ng uA.symm h),λe h=>rl (i:=false) (o:=2) e (ng Int.ofNat_inj.symm h),
    Yk UY QZ,Ym UY QZ,Yl UY QZ,λe h=>QZ _ _ e (fl h),λe h=>rl (i:=true) (o:=2) e (fl h),λe h=>rl (i:=false) (o:=2) e (ng Int.ofNat_inj.symm (fl h)),trivial⟩ (o-5)
noncomputable def comb(l:List Po):Nat->Po×Nat:=List.rec (λn=>([],n)) (λp _ ih n=>(rE (IZ (n % 16) p) (ih (n / 16)).1,(ih (n / 16)).2)) l
noncomputable def XK(p:Po):Bool->Bool:=List.rec (λ_=>true) (λc _ ih e=>cond (cond e (dg c.1 c.2) (Nat.ble c.1 c.2)) (ih (!e)) false) p
noncomputable def bad(p:Po):Bool:=List.rec false (λc r _=>cond (gF c.1 c.2) (XK r true) false) p
noncomputable def XJ(l:Cs):Nat->Bool:=List.rec (λ_=>true) (λc _ ih n=>cond (bad (comb c n).1) (ih (comb c n).2) false) l
theorem Fu{f:Nat->Int}(l:List Po):∀ n,(∀ p∈l,0<=pv p f)->0<=pv (comb l n).1 f:=by
 induction l with
 |nil=>intro n _;show aY _
 |cons p r ih=>
  intro n h;change 0<=pv (rE (IZ (n % 16) p) (comb r (n / 16)).1) f;rw[u0,J1];show Int.add_nonneg (fR (mF _) (h p (.head _))) (ih _ λq m=>h q (.tail _ m))
theorem tc{a b:Bool}(h:cond a b false=true):a=true/\b=true:=by cases a with
 |true=>show ⟨rfl,h⟩
 |false=>cases h
theorem Ls(p:Po):∀ e f,(∀ i,(if e then i % 2=1 else i % 2=0)->0<=f i)->XK p e=true->pv p f<=0:=by
 induction p with
 |nil=>intro e f _ _;show aY _
 |cons c r ih=>
  intro e f hf h;obtain ⟨h1,h2⟩:=tc h
  have g:=ih (!e) (λi=>f (i+1)) (λi q=>hf (i+1) (by cases e with
   |true=>have q:i % 2=0:=q;show (Nat.add_mod i 1 2).trans (congrArg (λz=>(z+1 % 2) % 2) q)
   |false=>have q:i % 2=1:=q;show (Nat.add_mod i 1 2).trans (congrArg (λz=>(z+1 % 2) % 2) q))) h2
  change ((c.1:Int)-c.2)*f 0+pv r _<=0;cases e with
  |true=>
   rw[show (c.1:Int)=c.2 from congrArg Nat.cast (Nat.eq_of_beq_eq_true h1),Int.sub_self,Int.zero_mul,nV];show g
  |false=>show Int.add_le_add (Int.mul_nonpos_of_nonpos_of_nonneg (Int.sub_nonpos_of_le (uz.mpr (k6 h1))) (hf 0 rfl)) g
theorem HI(v:List Int)(w:List Nat)(i:Nat)(h:i % 2=1):0<=val v w (i+1):=by
 change 0<=cond (dg (i % 2) 0) _ _;rw[h];show mF _
theorem Lr(v:List Int)(w:List Nat)(l:Cs):∀ n,XJ l n=true->¬ Sat (val v w) l:=by
 induction l with
 |nil=>rintro n _ ⟨l,m,_⟩;cases m
 |cons c r ih=>
  rintro n h ⟨l,m,g⟩;obtain ⟨h1,h2⟩:=tc h;rcases ag.mp m with rfl|m
  .have k:=Fu l n g;generalize (comb l n).1=q at h1 k;cases q with
   |nil=>cases h1
   |cons d r=>
    obtain ⟨h1,h3⟩:=tc h1;have:=Ls r true (λi=>val v w (i+1)) (λi e=>HI v w i e) h3;have h1:d.1<d.2:=k6 h1;have k:0<=((d.1:Int)-d.2)*1+pv r λi=>val v w (i+1):=k;rw[lF] at k;show absurd k (Int.not_le.mpr (Int.add_neg_of_neg_of_nonpos (Int.sub_neg_of_lt (uA.mpr h1)) this))
  .show ih _ h2 ⟨l,m,g⟩
noncomputable def psh(d:Nat)(s:List X):List X:=cond (gF d 96) (.L d::s) (List.rec [] (λb r _=>List.rec [] (λa t _=>.B (d-96) a b::t) r) s)
noncomputable def dec(f:Nat):Nat->List X->List X×Nat:=Nat.rec (λn s=>(s,n)) (λ_ ih n s=>cond (dg (n % 128) 127) (s,n / 128) (ih (n / 128) (psh (n % 128) s))) f
noncomputable def Td(s:List X):X:=List.rec (.L 0) (λx _ _=>x) s
noncomputable def qI(k:Nat):(List Int->Prop)->Prop:=Nat.rec (λf=>f []) (λ_ ih f=>∀ {x},ih λl=>f (x::l)) k
noncomputable def qN(k:Nat):(List Nat->Prop)->Prop:=Nat.rec (λf=>f []) (λ_ ih f=>∀ {x},ih λl=>f (x::l)) k
noncomputable def hol(n:Nat):Prop:=qI (n % 16) λv=>qN (n / 16 % 16) λw=>dP v w (Td (dec 99 (n / 256) []).1)
noncomputable def chk(n:Nat):Bool:=Option.rec false (λc=>XJ c (dec 99 (n / 256) []).2) (dn (Td (dec 99 (n / 256) []).1) false)
theorem PG(k:Nat):∀ f,(∀ v,f v)->qI k f:=by
 induction k with
 |zero=>show λf h=>h _
 |succ k ih=>show λf h {x}=>ih (λl=>f (x::l)) λv=>h _
theorem PH(k:Nat):∀ f,(∀ v,f v)->qN k f:=by
 induction k with
 |zero=>show λf h=>h _
 |succ k ih=>show λf h {x}=>ih (λl=>f (x::l)) λv=>h _
end LI
theorem ef(a b:Nat):(a<=b/\a-b=0)\/a-b+b=a:=(uF a b).imp (λh=>⟨h,Nat.sub_eq_zero_of_le h⟩) Nat.sub_add_cancel
theorem sH(a b:Nat):(a<=b/\min a b=a)\/(b<=a/\min a b=b):=(uF a b).imp (λh=>⟨h,pR h⟩) λh=>⟨h,Nat.min_eq_right h⟩
theorem MQ(a b:Int):(a<=b/\min a b=a)\/(b<=a/\min a b=b):=(ux a b).imp (λh=>⟨h,Int.min_eq_left h⟩) λh=>⟨h,Int.min_eq_right h⟩
theorem mxf(a b:Nat):(a<=b/\max a b=b)\/(b<=a/\max a b=a):=(uF a b).imp (λh=>⟨h,Nat.max_eq_right h⟩) λh=>⟨h,Nat.max_eq_left h⟩
theorem IK(a b:Int):(a<=b/\max a b=b)\/(b<=a/\max a b=a):=(ux a b).imp (λh=>⟨h,jb h⟩) λh=>⟨h,pP h⟩
theorem pL(a:Int):(0<=a/\(a.toNat:Int)=a)\/(a<=0/\a.toNat=0):=(ux 0 a).imp (λh=>⟨h,Int.toNat_of_nonneg h⟩) λh=>⟨h,Int.toNat_of_nonpos h⟩
open LI in
theorem li(n:Nat)(h:LI.chk n=true):LI.hol n:=by
 show PG _ _ λv=>PH _ _ λw=>gT λz=>?_;unfold chk at h;cases e:dn (Td (dec 99 (n / 256) []).1) false with
 |none=>rw[e] at h;cases h
 |some c=>rw[e] at h;show Lr v w c _ h (Ng v w _ false c e z)
set_option genInjectivity true in
inductive Val where
 |none|bool (b:Bool)|int (i:Int)|str|ref (a:Nat)
noncomputable def Val.isN:Val->Bool
 |.none=>true
 |_=>false
set_option genInjectivity true in
inductive d6 where
 |list (vs:List Val)
 |ro (vs:List Val)
 |tup (vs:List Val)
 |dict (es:List (Int×Val))
 |inst (c:Nat) (l:List Val)
theorem sY{x y:d6}{P:Prop}(h:x=y)(k:dg x.ctorIdx y.ctorIdx=false):P:=absurd (congrArg d6.ctorIdx h) (fS k)
theorem lA{x y:d6}{P:Prop}(h:some x=some y)(k:dg x.ctorIdx y.ctorIdx=false):P:=sY (aN h) k
theorem Rm{α:Type}{f:α->Val}{l:List α}{a:α}:some (d6.list (l.map f++[f a]))=some (.list ((l++[a]).map f)):=by rewrite [aD];rfl
theorem xmb{α:Type}{f:α->Val}{l r:List α}{a:α}:some (d6.list ((l++r).map f++[f a]))=some (.list ((l++(r++[a])).map f)):=by rewrite [aD,aD,aD,nE];rfl
noncomputable abbrev MH:=Nat->Option d6
noncomputable abbrev Sto:=Nat->Option Val
noncomputable def upd{α:Type}(f:Nat->Option α)(i:Nat)(v:α):Nat->Option α:=λj=>if j=i then some v else f j
inductive Bop where|add|sub|mul|fdiv|mod
inductive Cop where|eq|ne|lt|le|gt|ge|isin|notin
inductive ItK where|seq|keys|vals|zip|enum|range
inductive Bi where|len|sum|max|min|list|tuple|sorted|abs
inductive Lm where|append|pop|extend|index|insert|remove|get|dpop
mutual
inductive ME where
 |cst (v:Val)
 |var (i:Nat)
 |bin (o:Bop) (a b:ME)
 |cmp (o:Cop) (a b:ME)
 |isNone (e:ME)
 |notNone (e:ME)
 |attr (e:ME) (c k:Nat)
 |idx (a b:ME)
 |rev (a:ME)
 |drop (a lo:ME)
 |take (a hi:ME)
 |list (es:MEs)
 |tup (es:MEs)
 |dict0
 |ife (t a b:ME)
 |not (e:ME)
 |andl (es:MEs)
 |orl (es:MEs)
 |call (f:Nat) (es:MEs)
 |bcall (f:Bi) (es:MEs)
 |mcall (c f:Nat) (o:ME) (es:MEs)
 |lcall (m:Lm) (o:ME) (es:MEs)
 |new (c:Nat) (es:MEs)
 |comp (xs:List Nat) (k:ItK) (e1 e2 cond elt:ME)
inductive MEs where
 |nil
 |cons (e:ME) (es:MEs)
end
inductive MT1 where
 |name (i:Nat)
 |attr (e:ME) (c k:Nat)
 |sub (a b:ME)
inductive BE where
 |one (t:MT1)
 |tup (ts:List MT1)
mutual
inductive MS where
 |asg (t:BE) (e:ME)
 |expr (e:ME)
 |ite (t:ME) (a b:MSs)
 |while (t:ME) (b:MSs)
 |for (xs:List Nat) (k:ItK) (e1 e2:ME) (b:MSs)
 |ret (e:ME)
 |retn
 |raise
 |try (b h:MSs)
inductive MSs where
 |nil
 |cons (s:MS) (ss:MSs)
end
inductive Flo where|next|ret (v:Val)
noncomputable def iv(v:Val):Option Int:=Val.casesOn v none (λ_=>none) some none (λ_=>none)
noncomputable def rf(v:Val):Option Nat:=Val.casesOn v none (λ_=>none) (λ_=>none) none some
noncomputable def bq(c:Val)(k:Bool->Prop):Prop:=Val.casesOn c False k (λ_=>False) False (λ_=>False)
@[irreducible] noncomputable def bv(c:Val)(A B:Prop):Prop:=bq c λb=>Bool.casesOn b B A
noncomputable def oM{α:Type}(l r t:List Val->Option α)(d:List (Int×Val)->Option α)(i:Nat->List Val->Option α)(o:Option d6):Option α:=Option.casesOn o none λb=>d6.casesOn b l r t d i
noncomputable def ls:Option d6->Option (List Val):=oM some (λ_=>none) (λ_=>none) (λ_=>none) (λ_ _=>none)
noncomputable def Rl:Option d6->Option (List Val):=oM (λ_=>none) some (λ_=>none) (λ_=>none) (λ_ _=>none)
noncomputable def ts:Option d6->Option (List Val):=oM (λ_=>none) (λ_=>none) some (λ_=>none) (λ_ _=>none)
noncomputable def ds:Option d6->Option (List (Int×Val)):=oM (λ_=>none) (λ_=>none) (λ_=>none) some (λ_ _=>none)
noncomputable def ins:Option d6->Option (Nat×List Val):=oM (λ_=>none) (λ_=>none) (λ_=>none) (λ_=>none) (λc l=>some (c,l))
noncomputable def one(vs:List Val):Option Val:=List.casesOn vs none λv r=>List.casesOn r (some v) λ_ _=>none
noncomputable def two(vs:List Val):Option (Val×Val):=List.casesOn vs none λv r=>(one r).elim none λw=>some (v,w)
section
variable {α:Type} {o:Option α} {b:Option d6} {z Z:Prop} {k:α->Prop} {kl:List Val->Prop} {kd:List (Int×Val)->Prop} {ki:Nat×List Val->Prop}
theorem Fz(w:o.elim z k)(f:∀ a,o=some a->k a->Z)(g:z->Z):Z:=match o,w,f with
 |none,w,_=>g w
 |some a,w,f=>f a rfl w
theorem hJ(w:o.elim False k)(f:∀ a,o=some a->k a->Z):Z:=Fz w f pO
theorem o9{a:α}(e:o=some a)(h:k a):o.elim z k:=by rw[e];show h
theorem DH{l r t:List Val->Option α}{d:List (Int×Val)->Option α}{i:Nat->List Val->Option α}{a:α}(e:oM l r t d i b=some a){C:Option d6->Prop}(f1:∀ v,l v=some a->C (some (.list v)))(f2:∀ v,r v=some a->C (some (.ro v)))(f3:∀ v,t v=some a->C (some (.tup v)))
  (f4:∀ v,d v=some a->C (some (.dict v))) (f5:∀ c v,i c v=some a->C (some (.inst c v))):C b:=by
 cases b with
 |none=>cases e
 |some b=>cases b with
  |list v=>show f1 v e
  |ro v=>show f2 v e
  |tup v=>show f3 v e
  |dict v=>show f4 v e
  |inst c v=>show f5 c v e
theorem nn{α:Type}{a:α}{Z:Prop}(e:none=some a):Z:=nomatch e
theorem Dl{v:List Val}(e:ls b=some v):b=some (.list v):=DH (C:=λb=>b=some (.list v)) e (λ_ e=>by rw[aN e]) (λ_=>nn) (λ_=>nn) (λ_=>nn) (λ_ _=>nn)
theorem PN{v:List Val}(e:Rl b=some v):b=some (.ro v):=DH (C:=λb=>b=some (.ro v)) e (λ_=>nn) (λ_ e=>by rw[aN e]) (λ_=>nn) (λ_=>nn) (λ_ _=>nn)
theorem Vk{v:List Val}(e:ts b=some v):b=some (.tup v):=DH (C:=λb=>b=some (.tup v)) e (λ_=>nn) (λ_=>nn) (λ_ e=>by rw[aN e]) (λ_=>nn) (λ_ _=>nn)
theorem Jv{v:List (Int×Val)}(e:ds b=some v):b=some (.dict v):=DH (C:=λb=>b=some (.dict v)) e (λ_=>nn) (λ_=>nn) (λ_=>nn) (λ_ e=>by rw[aN e]) (λ_ _=>nn)
theorem P0{v:Nat×List Val}(e:ins b=some v):b=some (.inst v.1 v.2):=DH (C:=λb=>b=some (.inst v.1 v.2)) e (λ_=>nn) (λ_=>nn) (λ_=>nn) (λ_=>nn) (λ_ _ e=>by rw[<-aN e])
theorem GC{a:Val}{i:Int}(e:iv a=some i):a=.int i:=by
 cases a with
 |int=>rw[aN e]
 |_=>cases e
theorem xY{a:Val}{i:Nat}(e:rf a=some i):a=.ref i:=by
 cases a with
 |ref=>rw[aN e]
 |_=>cases e
theorem rA(w:(ls b).elim z kl)(f:∀ v,b=some (.list v)->kl v->Z)(g:z->Z):Z:=Fz w (λv e w=>f v (Dl e) w) g
theorem mY(w:(ls b).elim False kl)(f:∀ v,b=some (.list v)->kl v->Z):Z:=rA w f pO
theorem PK(w:(Rl b).elim False kl)(f:∀ v,b=some (.ro v)->kl v->Z):Z:=hJ w λv e w=>f v (PN e) w
theorem P'(w:(ts b).elim z kl)(f:∀ v,b=some (.tup v)->kl v->Z)(g:z->Z):Z:=Fz w (λv e w=>f v (Vk e) w) g
theorem Hz(w:(ts b).elim False kl)(f:∀ v,b=some (.tup v)->kl v->Z):Z:=P' w f pO
theorem uT(w:(ds b).elim False kd)(f:∀ v,b=some (.dict v)->kd v->Z):Z:=hJ w λv e w=>f v (Jv e) w
theorem CV(w:(ins b).elim False ki)(f:∀ c v,b=some (.inst c v)->ki (c,v)->Z):Z:=hJ w λv e w=>f v.1 v.2 (P0 e) w
theorem fD{v:List Val}(e:b=some (.list v))(h:kl v):(ls b).elim z kl:=by rw[e];show h
theorem PM{v:List Val}(e:b=some (.ro v))(h:kl v):(Rl b).elim z kl:=by rw[e];show h
theorem HF{v:List Val}(e:b=some (.tup v))(h:kl v):(ts b).elim z kl:=by rw[e];show h
theorem uU{v:List (Int×Val)}(e:b=some (.dict v))(h:kd v):(ds b).elim z kd:=by rw[e];show h
theorem yQ{c:Nat}{v:List Val}(e:b=some (.inst c v))(h:ki (c,v)):(ins b).elim z ki:=by rw[e];show h
theorem qy{v:List (Int×Val)}(e:b=some (.dict v))(h:z):(ls b).elim z kl:=by rw[e];show h
theorem II{v:List Val}(e:b=some (.tup v))(h:z):(ls b).elim z kl:=by rw[e];show h
theorem P8{v:List Val}(e:b=some (.ro v))(h:z):(ls b).elim z kl:=by rw[e];show h
theorem Q0{v:List (Int×Val)}(e:b=some (.dict v))(h:z):(ts b).elim z kl:=by rw[e];show h
end
deriving instance Nonempty for Val,d6,Bop,Cop,ItK,Bi,Lm,ME,MEs,MS,MSs,MT1,BE,Flo
noncomputable abbrev PQ:=Val->MH->Prop
noncomputable abbrev Phi:=Nat->List Val->MH->PQ->(MH->Prop)->Prop
noncomputable def lim:Nat:=1000000
noncomputable def big:Int:=1000000000000
noncomputable def alloc(o:d6)(H:MH)(Q:PQ):Prop:=∀ c,H c=none->Q (.ref c) (upd H c o)
noncomputable def gC(vs:List Val):Option (List Int):=List.rec (some []) (λv _ ih=>(iv v).bind λi=>ih.bind λl=>some (i::l)) vs
noncomputable def small(x:Int):Prop:=-big<=x/\x<=big
noncomputable def binop(o:Bop)(a b:Val)(H:MH)(Q:PQ):Prop :=
 match o with
 |.add=>(iv a).elim ((rf a).elim False λp=>(rf b).elim False λq=>(ls (H p)).elim False λxs=>(ls (H q)).elim False λys=>xs.length+ys.length<=lim/\alloc (.list (xs++ys)) H Q)
   λx=>(iv b).elim False λy=>Q (.int (x+y)) H
 |.sub=>(iv a).elim False λx=>(iv b).elim False λy=>Q (.int (x-y)) H
 |.mul=>(iv b).elim False λn=>(iv a).elim ((rf a).elim False λp=>(ls (H p)).elim False λvs=>(one vs).elim False λv=>(0<=n/\n<=lim)/\alloc (.list (bf n.toNat v)) H Q)
   λx=>small x/\small n/\Q (.int (x*n)) H
 |.fdiv=>(iv a).elim False λx=>(iv b).elim False λy=>y≠0/\y.natAbs<1000000000/\Q (.int (x.fdiv y)) H
 |.mod=>(iv a).elim False λx=>(iv b).elim False λy=>y≠0/\Q (.int (x.fmod y)) H
inductive Deq (H:MH):Nat->Val->Val->Prop where
 |none {n}:Deq H n .none .none
 |bool {n b}:Deq H n (.bool b) (.bool b)
 |int {n i}:Deq H n (.int i) (.int i)
 |tup {n:Nat} {a b:Nat} {xs ys:List Val}:H a=some (.tup xs)->H b=some (.tup ys)->xs.length=ys.length->
   (∀ (i:Nat) (x y:Val),xs[i]?=some x->ys[i]?=some y->Deq H n x y)->Deq H (n+1) (.ref a) (.ref b)
noncomputable def og(xs ys:List Val)(Q:Bool->Prop):Prop :=
 if xs.length=ys.length then (gC xs).elim False λl=>(gC ys).elim False λk=>Q (decide (l=k)) else Q false
noncomputable def jy(es:List (Int×Val)):List Int:=es.map (·.1)
noncomputable def Fp(a b:Val)(k:Int->Int->Prop):Prop:=(iv a).elim False λx=>(iv b).elim False λy=>k x y
noncomputable def VG(a b:Val)(H:MH)(z:Nat->Nat->Prop)(R:Bool->Prop)(k:Int->Int->Prop):Prop :=
 (iv a).elim ((rf a).elim False λp=>(rf b).elim False λq=>(ls (H p)).elim (z p q) λxs=>(ls (H q)).elim False λys=>xs.length<=lim/\ys.length<=lim/\og xs ys R)
  λx=>(iv b).elim False λy=>k x y
noncomputable def cin(a b:Val)(H:MH)(R:Bool->Prop):Prop :=
 (iv a).elim False λx=>(rf b).elim False λq=>(ls (H q)).elim ((ds (H q)).elim False λes=>R ((jy es).contains x)) λys=>ys.length<=lim/\(gC ys).elim False λl=>R (l.contains x)
noncomputable def gy(o:Cop)(a b:Val)(H:MH)(Q:Bool->Prop):Prop :=
 match o with
 |.eq=>VG a b H (λ_ _=>False) Q λx y=>Q (decide (x=y))
 |.ne=>VG a b H (λp q=>(ts (H p)).elim False λ_=>(ts (H q)).elim False λ_=>Deq H 40 (.ref p) (.ref q)/\Q false) (λr=>Q (!r)) λx y=>Q (!decide (x=y))
 |.lt=>Fp a b λx y=>Q (decide (x<y))
 |.le=>Fp a b λx y=>Q (decide (x<=y))
 |.gt=>Fp a b λx y=>Q (decide (y<x))
 |.ge=>Fp a b λx y=>Q (decide (y<=x))
 |.isin=>cin a b H Q
 |.notin=>cin a b H λr=>Q (!r)
noncomputable def dget(es:List (Int×Val))(k:Int):Option Val:=match es with
 |[]=>none
 |(j,v)::r=>if j=k then some v else dget r k
noncomputable def dput(es:List (Int×Val))(k:Int)(v:Val):List (Int×Val):=match es with
 |[]=>[(k,v)]
 |(j,w)::r=>if j=k then (j,v)::r else (j,w)::dput r k v
noncomputable def o8(es:List (Int×Val))(k:Int):List (Int×Val):=es.filter (λp=>p.1≠k)
noncomputable def item(a b:Val)(H:MH)(Q:PQ):Prop :=
 (rf a).elim False λp=>(iv b).elim False λi=>(ls (H p)).elim ((ts (H p)).elim ((ds (H p)).elim False λes=>(dget es i).elim False λv=>Q v H)
  λvs=>0<=i/\i<lim/\(vs[i.toNat]?).elim False λv=>Q v H) λvs=>0<=i/\i<lim/\(vs[i.toNat]?).elim False λv=>Q v H
noncomputable def lp(a b v:Val)(H:MH)(Q:MH->Prop):Prop :=
 (rf a).elim False λp=>(iv b).elim False λi=>(ls (H p)).elim ((ds (H p)).elim False λes=>es.length<=lim/\Q (upd H p (.dict (dput es i v))))
  λvs=>0<=i/\i<vs.length/\vs.length<=lim/\Q (upd H p (.list (vs.set i.toNat v)))
noncomputable def getattr(a:Val)(c k:Nat)(H:MH)(Q:PQ):Prop :=
 (rf a).elim False λp=>(ins (H p)).elim False λq=>q.1=c/\(q.2[k]?).elim False λv=>Q v H
noncomputable def setattr(a:Val)(c k:Nat)(v:Val)(H:MH)(Q:MH->Prop):Prop :=
 (rf a).elim False λp=>(ins (H p)).elim False λq=>q.1=c/\k<=q.2.length/\Q (upd H p (.inst c (if k<q.2.length then q.2.set k v else q.2++[v])))
noncomputable def Lq(a:Val)(H:MH)(Q:PQ):Prop :=
 (rf a).elim False λp=>(ls (H p)).elim False λvs=>vs.length<=lim/\alloc (.list vs.reverse) H Q
noncomputable def C5(a b:Val)(H:MH)(Q:PQ):Prop :=
 (rf a).elim False λp=>(iv b).elim False λi=>(ls (H p)).elim False λvs=>vs.length<=lim/\0<=i/\i<lim/\alloc (.list (vs.drop i.toNat)) H Q
noncomputable def zD(a b:Val)(H:MH)(Q:PQ):Prop :=
 (rf a).elim False λp=>(iv b).elim False λi=>(ls (H p)).elim ((Rl (H p)).elim False λvs=>vs.length<=2*lim/\0<=i/\i<lim/\alloc (.list (vs.take i.toNat)) H Q)
  λvs=>vs.length<=lim/\0<=i/\i<lim/\alloc (.list (vs.take i.toNat)) H Q
noncomputable def aI:List Int->Int
 |[]=>0
 |x::r=>x+aI r
noncomputable def imax(x:Int):List Int->Int
 |[]=>x
 |y::r=>imax (max x y) r
noncomputable def insI(x:Int):List Int->List Int
 |[]=>[x]
 |y::r=>if x<=y then x::y::r else y::insI x r
noncomputable def sortI:List Int->List Int
 |[]=>[]
 |x::r=>insI x (sortI r)
noncomputable def bi(hd:Bool)(f:Bi)(vs:List Val)(H:MH)(Q:PQ):Prop :=
 match f with
 |.len=>(one vs).elim False λa=>(rf a).elim False λp=>(ls (H p)).elim ((ds (H p)).elim False λes=>es.length<=lim/\Q (.int es.length) H) λvs=>vs.length<=lim/\Q (.int vs.length) H
 |.sum=>(one vs).elim False λa=>(rf a).elim False λp=>(ls (H p)).elim False λvs=>hd=false/\vs.length<=lim/\(gC vs).elim False λl=>(∀ x∈l,small x)/\Q (.int (aI l)) H
 |.max=>(one vs).elim False λa=>(rf a).elim False λp=>(ls (H p)).elim False λvs=>hd=false/\vs.length<=lim/\(gC vs).elim False λl=>l.head?.elim False λx=>Q (.int (imax x l.tail)) H
 |.min=>(two vs).elim False λq=>(iv q.1).elim False λx=>(iv q.2).elim False λy=>hd=false/\Q (.int (min x y)) H
 |.list=>(one vs).elim False λa=>(rf a).elim False λp=>(ls (H p)).elim False λvs=>vs.length<=lim/\alloc (.list vs) H Q
 |.tuple=>(one vs).elim False λa=>(rf a).elim False λp=>(ls (H p)).elim False λvs=>vs.length<=lim/\alloc (.tup vs) H Q
 |.sorted=>(one vs).elim False λa=>(rf a).elim False λp=>(ls (H p)).elim ((ds (H p)).elim False λes=>hd=false/\es.length<64/\alloc (.list ((sortI (jy es)).map .int)) H Q)
   λvs=>hd=false/\vs.length<64/\(gC vs).elim False λl=>alloc (.list ((sortI l).map .int)) H Q
 |.abs=>(one vs).elim False λa=>(iv a).elim False λx=>Q (.int (if x<0 then -x else x)) H
noncomputable def idxOf(x:Int):List Int->Nat
 |[]=>0
 |y::r=>if y=x then 0 else idxOf x r+1
noncomputable def m4(x:Int):List Int->List Int
 |[]=>[]
 |y::r=>if y=x then r else y::m4 x r
noncomputable def lmL(m:Lm)(p:Nat)(vs as:List Val)(H:MH)(Q:PQ):Prop:=match m with
 |.append=>(one as).elim False λv=>Q .none (upd H p (.list (vs++[v])))
 |.pop=>as=[]/\vs.getLast?.elim False λv=>Q v (upd H p (.list vs.dropLast))
 |.extend=>(one as).elim False λa=>(rf a).elim False λq=>p≠q/\(ls (H q)).elim False λws=>ws.length<=lim/\Q .none (upd H p (.list (vs++ws)))
 |.index=>(one as).elim False λa=>(iv a).elim False λx=>(gC vs).elim False λl=>x∈l/\Q (.int (idxOf x l)) H
 |.insert=>(two as).elim False λq=>(iv q.1).elim False λi=>0<=i/\i<=vs.length/\Q .none (upd H p (.list (vs.take i.toNat++q.2::vs.drop i.toNat)))
 |.remove=>(one as).elim False λa=>(iv a).elim False λx=>(gC vs).elim False λl=>x∈l/\Q .none (upd H p (.list ((m4 x l).map .int)))
 |.get=>False
 |.dpop=>False
noncomputable def lmD(m:Lm)(p:Nat)(es:List (Int×Val))(as:List Val)(H:MH)(Q:PQ):Prop:=match m with
 |.get=>(two as).elim False λq=>(iv q.1).elim False λx=>q.2=.none/\(dget es x).elim (Q .none H) λv=>Q v H
 |.dpop=>(one as).elim False λa=>(iv a).elim False λx=>(dget es x).elim False λv=>Q v (upd H p (.dict (o8 es x)))
 |_=>False
noncomputable def lm(m:Lm)(o:Val)(as:List Val)(H:MH)(Q:PQ):Prop :=
 (rf o).elim False λp=>(ls (H p)).elim ((ds (H p)).elim False λes=>es.length<=lim/\lmD m p es as H Q) λvs=>vs.length<=lim/\lmL m p vs as H Q
noncomputable def tF(x:Val)(H:MH):Prop:=(rf x).elim False λp=>(ls (H p)).elim False λ_=>True
noncomputable def pD(x:Val)(H:MH):Prop:=(rf x).elim False λp=>(ds (H p)).elim False λ_=>True
noncomputable def sF(m:Lm)(x:Val)(H:MH):Prop:=match m with
 |.get=>pD x H
 |.dpop=>pD x H
 |_=>tF x H
noncomputable def MR{α:Type}(hd:Bool)(o:Option α):Option α:=Bool.casesOn hd o none
noncomputable def dD(hd:Bool)(k:ItK)(a b:Val)(H:MH):Option (List (List Val)×List Nat) :=
 match k with
 |.seq=>(rf a).bind λp=>(ls (H p)).bind λvs=>some (vs.map (λv=>[v]),[p])
 |.keys=>MR hd ((rf a).bind λp=>(ds (H p)).bind λes=>some (es.map (λe=>[.int e.1]),[p]))
 |.vals=>MR hd ((rf a).bind λp=>(ds (H p)).bind λes=>some (es.map (λe=>[e.2]),[p]))
 |.zip=>MR hd ((rf a).bind λp=>(rf b).bind λq=>(ls (H p)).bind λvs=>(ls (H q)).bind λws=>if vs.length=ws.length then some ((vs.zip ws).map (λx=>[x.1,x.2]),[p,q]) else none)
 |.enum=>MR hd ((rf a).bind λp=>(ls (H p)).bind λvs=>some (vs.zipIdx.map (λx=>[.int x.2,x.1]),[p]))
 |.range=>MR hd ((iv a).bind λn=>if -1000000<=n/\n<=1000000 then some ((gq n.toNat).map (λ(i:Nat)=>[Val.int (i:Int)]),[]) else none)
theorem vE{α:Type}{hd:Bool}{o:Option α}{a:α}(e:MR hd o=some a):hd=false/\o=some a:=by
 cases hd with
 |true=>cases e
 |false=>show ⟨rfl,e⟩
theorem gx{α β:Type}{o:Option α}{f:α->Option β}{b:β}(e:o.bind f=some b):∃ a,o=some a/\f a=some b:=Option.bind_eq_some_iff.mp e
noncomputable def bindL(ρ:Sto):List Nat->List Val->Sto
 |x::xs,v::vs=>bindL (upd ρ x v) xs vs
 |_,_=>ρ
noncomputable def iD(as:List Nat)(H0 H:MH):Prop:=∀ a∈as,H a=H0 a
noncomputable def gS(C:Sto->MH->PQ->Prop)(T:Sto->MH->PQ->Prop)(xs:List Nat)(ok:MH->Prop)(ρ:Sto) :
  List (List Val)->List Val->MH->(List Val->MH->Prop)->Prop
 |[],acc,H,Q=>ok H/\Q acc H
 |it::r,acc,H,Q=>ok H/\C (bindL ρ xs it) H (λc H=>bv c (T (bindL ρ xs it) H (λv H=>gS C T xs ok ρ r (acc++[v]) H Q)) (gS C T xs ok ρ r acc H Q))
mutual
noncomputable def wE(Φ:Bool->Phi)(hd:Bool):ME->Sto->MH->PQ->(MH->Prop)->Prop
 |.cst v,_,H,Q,_=>Q v H
 |.var i,ρ,H,Q,_=>(ρ i).elim False λv=>Q v H
 |.bin o a b,ρ,H,Q,E=>wE Φ hd a ρ H (λx H=>wE Φ hd b ρ H (λy H=>binop o x y H Q) E) E
 |.cmp o a b,ρ,H,Q,E=>wE Φ hd a ρ H (λx H=>wE Φ hd b ρ H (λy H=>gy o x y H (λr=>Q (.bool r) H)) E) E
 |.isNone e,ρ,H,Q,E=>wE Φ hd e ρ H (λx H=>Q (.bool (x.isN)) H) E
 |.notNone e,ρ,H,Q,E=>wE Φ hd e ρ H (λx H=>Q (.bool (!x.isN)) H) E
 |.attr e c k,ρ,H,Q,E=>wE Φ hd e ρ H (λx H=>getattr x c k H Q) E
 |.idx a b,ρ,H,Q,E=>wE Φ hd a ρ H (λx H=>wE Φ hd b ρ H (λy H=>item x y H Q) E) E
 |.rev a,ρ,H,Q,E=>wE Φ hd a ρ H (λx H=>Lq x H Q) E
 |.drop a b,ρ,H,Q,E=>wE Φ hd a ρ H (λx H=>wE Φ hd b ρ H (λy H=>C5 x y H Q) E) E
 |.take a b,ρ,H,Q,E=>wE Φ hd a ρ H (λx H=>wE Φ hd b ρ H (λy H=>zD x y H Q) E) E
 |.list es,ρ,H,Q,E=>wEs Φ hd es ρ H (λvs H=>vs.length<=lim/\alloc (.list vs) H Q) E
 |.tup es,ρ,H,Q,E=>wEs Φ hd es ρ H (λvs H=>vs.length<=lim/\alloc (.tup vs) H Q) E
 |.dict0,_,H,Q,_=>alloc (.dict []) H Q
 |.ife t a b,ρ,H,Q,E=>wE Φ hd t ρ H (λc H=>bv c (wE Φ hd a ρ H Q E) (wE Φ hd b ρ H Q E)) E
 |.not e,ρ,H,Q,E=>wE Φ hd e ρ H (λc H=>bq c λb=>Q (.bool (!b)) H) E
 |.andl es,ρ,H,Q,E=>ph Φ hd es ρ H (λb H=>Q (.bool b) H) E
 |.orl es,ρ,H,Q,E=>zH Φ hd es ρ H (λb H=>Q (.bool b) H) E
 |.call f es,ρ,H,Q,E=>wEs Φ hd es ρ H (λvs H=>Φ hd f vs H Q E) E
 |.bcall f es,ρ,H,Q,E=>wEs Φ hd es ρ H (λvs H=>bi hd f vs H Q) E
 |.mcall c f o es,ρ,H,Q,E=>wE Φ hd o ρ H (λx H=>(rf x).elim False λp=>(ins (H p)).elim False λq=>q.1=c/\wEs Φ hd es ρ H (λvs H=>Φ hd f (.ref p::vs) H Q E) E) E
 |.lcall m o es,ρ,H,Q,E=>wE Φ hd o ρ H (λx H=>sF m x H/\wEs Φ hd es ρ H (λvs H=>lm m x vs H Q) E) E
 |.new c es,ρ,H,Q,E=>wEs Φ hd es ρ H (λvs H=>alloc (.inst c []) H (λx H=>Φ hd c (x::vs) H (λr H=>r=.none/\Q x H) E)) E
 |.comp xs k e1 e2 cond elt,ρ,H,Q,E=>wE Φ hd e1 ρ H (λx H=>wE Φ hd e2 ρ H (λy H=>match dD hd k x y H with
  |some (its,as)=>its.length<=lim/\gS (λρ H Q=>wE Φ hd cond ρ H Q (λ_=>False)) (λρ H Q=>wE Φ hd elt ρ H Q (λ_=>False)) xs (iD as H) ρ its [] H
    (λvs H=>alloc (.list vs) H Q)
  |none=>False) E) E
noncomputable def wEs(Φ:Bool->Phi)(hd:Bool):MEs->Sto->MH->(List Val->MH->Prop)->(MH->Prop)->Prop
 |.nil,_,H,Q,_=>Q [] H
 |.cons e es,ρ,H,Q,E=>wE Φ hd e ρ H (λv H=>wEs Φ hd es ρ H (λvs H=>Q (v::vs) H) E) E
noncomputable def ph(Φ:Bool->Phi)(hd:Bool):MEs->Sto->MH->(Bool->MH->Prop)->(MH->Prop)->Prop
 |.nil,_,H,Q,_=>Q true H
 |.cons e es,ρ,H,Q,E=>wE Φ hd e ρ H (λc H=>bv c (ph Φ hd es ρ H Q E) (Q false H)) E
noncomputable def zH(Φ:Bool->Phi)(hd:Bool):MEs->Sto->MH->(Bool->MH->Prop)->(MH->Prop)->Prop
 |.nil,_,H,Q,_=>Q false H
 |.cons e es,ρ,H,Q,E=>wE Φ hd e ρ H (λc H=>bv c (Q true H) (zH Φ hd es ρ H Q E)) E
end
noncomputable def no:MH->Prop:=λ_=>False
noncomputable def wU(Φ:Bool->Phi)(hd:Bool):MT1->Val->Sto->MH->(Sto->MH->Prop)->Prop
 |.name i,v,ρ,H,Q=>Q (upd ρ i v) H
 |.attr e c k,v,ρ,H,Q=>wE Φ hd e ρ H (λx H=>setattr x c k v H (λH=>Q ρ H)) no
 |.sub a b,v,ρ,H,Q=>wE Φ hd a ρ H (λx H=>wE Φ hd b ρ H (λy H=>lp x y v H (λH=>Q ρ H)) no) no
noncomputable def nZ(Φ:Bool->Phi)(hd:Bool):List MT1->List Val->Sto->MH->(Sto->MH->Prop)->Prop
 |t::ts,v::vs,ρ,H,Q=>wU Φ hd t v ρ H (λρ H=>nZ Φ hd ts vs ρ H Q)
 |[],[],ρ,H,Q=>Q ρ H
 |_,_,_,_,_=>False
noncomputable def asg(Φ:Bool->Phi)(hd:Bool):BE->Val->Sto->MH->(Sto->MH->Prop)->Prop
 |.one t,v,ρ,H,Q=>wU Φ hd t v ρ H Q
 |.tup tg,v,ρ,H,Q=>hd=false/\(rf v).elim False λp=>(ts (H p)).elim False λvs=>vs.length=tg.length/\nZ Φ hd tg vs ρ H Q
noncomputable abbrev SQ:=Flo->Sto->MH->Prop
noncomputable def we(B:Sto->MH->SQ->Prop)(xs:List Nat)(ok:MH->Prop):List (List Val)->Sto->MH->SQ->Prop
 |[],ρ,H,Q=>ok H/\Q .next ρ H
 |it::r,ρ,H,Q=>ok H/\B (bindL ρ xs it) H (λf ρ H=>Flo.rec (motive:=λ_=>Prop) (we B xs ok r ρ H Q) (λv=>Q (.ret v) ρ H) f)
noncomputable def kX(T:Sto->MH->PQ->Prop)(B:Sto->MH->SQ->Prop):Nat->Sto->MH->SQ->Prop
 |0,_,_,_=>False
 |n+1,ρ,H,Q=>T ρ H (λc H=>bv c (B ρ H (λf ρ H=>Flo.rec (motive:=λ_=>Prop) (kX T B n ρ H Q) (λv=>Q (.ret v) ρ H) f)) (Q .next ρ H))
mutual
noncomputable def wS(Φ:Bool->Phi)(hd:Bool):MS->Sto->MH->SQ->(Sto->MH->Prop)->Prop
 |.asg t e,ρ,H,Q,E=>wE Φ hd e ρ H (λv H=>asg Φ hd t v ρ H (λρ H=>Q .next ρ H)) (E ρ)
 |.expr e,ρ,H,Q,E=>wE Φ hd e ρ H (λ_ H=>Q .next ρ H) (E ρ)
 |.ite t a b,ρ,H,Q,E=>wE Φ hd t ρ H (λc H=>bv c (wSs Φ hd a ρ H Q E) (wSs Φ hd b ρ H Q E)) (E ρ)
 |.while t b,ρ,H,Q,_=>∃ n,kX (λρ H Q=>wE Φ hd t ρ H Q no) (λρ H Q=>wSs Φ hd b ρ H Q (λ_=>no)) n ρ H Q
 |.for xs k e1 e2 b,ρ,H,Q,E=>wE Φ hd e1 ρ H (λx H=>wE Φ hd e2 ρ H (λy H=>match dD hd k x y H with
  |some (its,as)=>we (λρ H Q=>wSs Φ hd b ρ H Q (λ_=>no)) xs (iD as H) its ρ H Q
  |none=>False) (E ρ)) (E ρ)
 |.ret e,ρ,H,Q,E=>wE Φ hd e ρ H (λv H=>Q (.ret v) ρ H) (E ρ)
 |.retn,ρ,H,Q,_=>Q (.ret .none) ρ H
 |.raise,ρ,H,_,E=>hd=false/\E ρ H
 |.try b h,ρ,H,Q,_=>hd=false/\wSs Φ false b ρ H Q (λρ H=>wSs Φ true h ρ H Q (λ_=>no))
noncomputable def wSs(Φ:Bool->Phi)(hd:Bool):MSs->Sto->MH->SQ->(Sto->MH->Prop)->Prop
 |.nil,ρ,H,Q,_=>Q .next ρ H
 |.cons s ss,ρ,H,Q,E=>wS Φ hd s ρ H (λf ρ H=>Flo.rec (motive:=λ_=>Prop) (wSs Φ hd ss ρ H Q E) (λv=>Q (.ret v) ρ H) f) E
end
structure t5 where
 np:Nat
 body:MSs
noncomputable def br(F:Nat->Option t5):Nat->Bool->Phi
 |0,_,_,_,_,_,_=>False
 |n+1,hd,f,vs,H,Q,E=>(F f).elim False λd=>vs.length=d.np/\wSs (br F n) hd d.body (λi=>vs[i]?) H (λr _ H=>Flo.rec (motive:=λ_=>Prop) (Q .none H) (λv=>Q v H) r) (λ_ H=>E H)
noncomputable def oO:MSs:=(.cons (.asg (.one (.attr (.var 0) 0 0)) (.var 1)) (.cons (.asg (.one (.attr (.var 0) 0 1)) (.var 2)) (.cons (.asg (.one (.attr (.var 0) 0 2)) (.var 3)) (.cons (.asg (.one (.attr (.var 0) 0 3)) (.list .nil)) (.cons (.asg (.one (.attr (.var 0) 0 4)) (.cst (.int 0))) (.cons (.asg (.one (.attr (.var 0) 0 5)) (.cst (.int 0))) (.cons (.asg (.one (.attr (.var 0) 0 6)) (.cst (.int 0))) (.cons (.asg (.one (.attr (.var 0) 0 7)) (.cst (.int 0))) (.cons (.asg (.one (.attr (.var 0) 0 8)) (.cst (.int 0))) (.cons (.asg (.one (.attr (.var 0) 0 9)) (.cst (.int 1))) (.cons (.asg (.one (.attr (.var 0) 0 10)) (.cst (.int 1))) (.cons (.asg (.one (.attr (.var 0) 0 11)) (.cst (.int 0))) (.cons (.asg (.one (.attr (.var 0) 0 12)) (.cst (.bool false))) (.cons (.asg (.one (.attr (.var 0) 0 13)) (.cst (.int 0))) (.cons (.asg (.one (.attr (.var 0) 0 14)) (.list .nil)) (.cons (.asg (.one (.attr (.var 0) 0 15)) (.list .nil)) .nil))))))))))))))))
noncomputable def jw:MSs:=(.cons (.asg (.one (.attr (.var 0) 1 0)) .dict0) (.cons (.asg (.one (.attr (.var 0) 1 1)) (.cst (.int 0))) (.cons (.asg (.one (.attr (.var 0) 1 2)) (.cst (.int 0))) (.cons (.asg (.one (.attr (.var 0) 1 3)) (.var 4)) (.cons (.asg (.one (.attr (.var 0) 1 4)) (.var 5)) (.cons (.asg (.one (.name 6)) (.mcall 1 7 (.var 0) (.cons (.cst (.int 0)) (.cons (.cst (.int 0)) .nil)))) (.cons (.asg (.one (.attr (.var 6) 0 6)) (.var 1)) (.cons (.asg (.one (.attr (.var 6) 0 7)) (.var 2)) (.cons (.asg (.one (.attr (.var 6) 0 8)) (.var 3)) (.cons (.asg (.one (.attr (.var 0) 1 5)) (.attr (.var 6) 0 0)) (.cons (.asg (.one (.attr (.var 0) 1 6)) (.attr (.var 6) 0 0)) (.cons (.expr (.mcall 1 10 (.var 0) (.cons (.attr (.var 6) 0 0) .nil))) .nil))))))))))))
noncomputable def w_size:MSs:=(.cons (.ret (.ife (.cmp .eq (.var 1) (.cst (.int 0))) (.attr (.var 0) 0 6) (.attr (.var 0) 0 7))) .nil)
noncomputable def yg:MSs:=(.cons (.ite (.cmp .eq (.var 1) (.cst (.int 0))) (.cons (.asg (.one (.attr (.var 0) 0 6)) (.var 2)) .nil) (.cons (.asg (.one (.attr (.var 0) 0 7)) (.var 2)) .nil)) .nil)
noncomputable def HL:MSs:=(.cons (.ret (.ife (.cmp .eq (.var 1) (.cst (.int 0))) (.attr (.var 0) 0 4) (.attr (.var 0) 0 5))) .nil)
noncomputable def zI:MSs:=(.cons (.ret (.tup (.cons (.attr (.var 0) 0 8) (.cons (.attr (.var 0) 0 9) (.cons (.attr (.var 0) 0 10) (.cons (.attr (.var 0) 0 11) .nil)))))) .nil)
noncomputable def EK:MSs:=(.cons (.asg (.tup [(.attr (.var 0) 0 8),(.attr (.var 0) 0 9),(.attr (.var 0) 0 10),(.attr (.var 0) 0 11)]) (.var 1)) .nil)
noncomputable def u9:MSs:=(.cons (.asg (.one (.attr (.var 0) 1 1)) (.bin .add (.attr (.var 0) 1 1) (.cst (.int 1)))) (.cons (.asg (.one (.name 3)) (.new 0 (.cons (.attr (.var 0) 1 1) (.cons (.var 1) (.cons (.var 2) .nil))))) (.cons (.asg (.one (.sub (.attr (.var 0) 1 0) (.attr (.var 0) 1 1))) (.var 3)) (.cons (.ret (.var 3)) .nil))))
noncomputable def EB:MSs:=(.cons (.asg (.one (.name 2)) (.lcall .get (.attr (.var 0) 1 0) (.cons (.var 1) (.cons (.cst .none) .nil)))) (.cons (.ite (.isNone (.var 2)) (.cons .raise .nil) .nil) (.cons (.ret (.var 2)) .nil)))
noncomputable def EA:MSs:=(.cons (.asg (.one (.name 2)) (.mcall 1 8 (.var 0) (.cons (.var 1) .nil))) (.cons (.ite (.cmp .ne (.attr (.var 2) 0 1) (.cst (.int 0))) (.cons .raise .nil) .nil) (.cons (.ret (.var 2)) .nil)))
noncomputable def zy:MSs:=(.cons (.asg (.one (.attr (.var 0) 1 2)) (.bin .add (.attr (.var 0) 1 2) (.cst (.int 1)))) (.cons (.asg (.one (.attr (.idx (.attr (.var 0) 1 0) (.var 1)) 0 13)) (.attr (.var 0) 1 2)) .nil))
noncomputable def ua:MSs:=(.cons (.ret (.ife (.cmp .eq (.var 1) (.cst (.int 0))) (.attr (.var 0) 1 3) (.attr (.var 0) 1 4))) .nil)
noncomputable def FA:MSs:=(.cons (.ret (.ife (.cmp .eq (.var 0) (.cst (.int 2))) (.cst (.int 0)) (.cst (.int 1)))) .nil)
noncomputable def td:MSs:=(.cons (.ret (.ife (.cmp .eq (.var 0) (.cst (.int 0))) (.cst (.int 2)) (.cst (.int 1)))) .nil)
noncomputable def km:MSs:=(.cons (.asg (.one (.name 2)) (.list .nil)) (.cons (.asg (.one (.name 3)) (.list (.cons (.var 1) .nil))) (.cons (.while (.cmp .ne (.var 3) (.list .nil)) (.cons (.asg (.one (.name 4)) (.idx (.attr (.var 0) 1 0) (.lcall .pop (.var 3) .nil))) (.cons (.ite (.cmp .eq (.attr (.var 4) 0 1) (.cst (.int 0))) (.cons (.expr (.lcall .append (.var 2) (.cons (.attr (.var 4) 0 0) .nil))) .nil) (.cons (.expr (.lcall .extend (.var 3) (.cons (.rev (.attr (.var 4) 0 3)) .nil))) .nil)) .nil))) (.cons (.ret (.var 2)) .nil))))
noncomputable def uZ:MSs:=(.cons (.ret (.call 14 (.cons (.var 0) (.cons (.attr (.var 0) 1 5) .nil)))) .nil)
noncomputable def oY:MSs:=(.cons (.asg (.one (.name 2)) (.list .nil)) (.cons (.asg (.one (.name 3)) (.list (.cons (.var 1) .nil))) (.cons (.while (.cmp .ne (.var 3) (.list .nil)) (.cons (.asg (.one (.name 4)) (.idx (.attr (.var 0) 1 0) (.lcall .pop (.var 3) .nil))) (.cons (.expr (.lcall .append (.var 2) (.cons (.attr (.var 4) 0 0) .nil))) (.cons (.expr (.lcall .extend (.var 3) (.cons (.rev (.attr (.var 4) 0 3)) .nil))) .nil)))) (.cons (.ret (.var 2)) .nil))))
noncomputable def jC:MSs:=(.cons (.asg (.one (.name 3)) (.attr (.idx (.attr (.var 0) 1 0) (.var 1)) 0 2)) (.cons (.asg (.one (.attr (.idx (.attr (.var 0) 1 0) (.var 2)) 0 2)) (.var 3)) (.cons (.ite (.cmp .eq (.var 3) (.cst (.int 0))) (.cons (.asg (.one (.attr (.var 0) 1 5)) (.var 2)) .nil) (.cons (.asg (.one (.name 4)) (.attr (.idx (.attr (.var 0) 1 0) (.var 3)) 0 3)) (.cons (.asg (.one (.sub (.var 4) (.lcall .index (.var 4) (.cons (.var 1) .nil)))) (.var 2)) .nil))) .nil)))
noncomputable def uW:MSs:=(.cons (.for [2] .seq (.call 16 (.cons (.var 0) (.cons (.var 1) .nil))) (.cst .none) (.cons (.expr (.lcall .dpop (.attr (.var 0) 1 0) (.cons (.var 2) .nil))) .nil)) .nil)
noncomputable def mQ:MSs:=(.cons (.asg (.one (.name 3)) .dict0) (.cons (.for [4] .seq (.rev (.call 16 (.cons (.var 0) (.cons (.var 1) .nil)))) (.cst .none) (.cons (.asg (.one (.name 5)) (.idx (.attr (.var 0) 1 0) (.var 4))) (.cons (.ite (.cmp .eq (.attr (.var 5) 0 1) (.cst (.int 0))) (.cons (.asg (.one (.sub (.var 3) (.var 4))) (.mcall 1 11 (.var 0) (.cons (.var 2) .nil))) .nil) (.cons (.ite (.cmp .eq (.call 12 (.cons (.attr (.var 5) 0 1) .nil)) (.var 2)) (.cons (.asg (.one (.sub (.var 3) (.var 4))) (.bcall .sum (.cons (.comp [6] .seq (.attr (.var 5) 0 3) (.cst .none) (.cst (.bool true)) (.idx (.var 3) (.var 6))) .nil))) .nil) (.cons (.asg (.one (.sub (.var 3) (.var 4))) (.bcall .max (.cons (.comp [6] .seq (.attr (.var 5) 0 3) (.cst .none) (.cst (.bool true)) (.idx (.var 3) (.var 6))) .nil))) .nil)) .nil)) .nil))) (.cons (.ret (.idx (.var 3) (.var 1))) .nil)))
noncomputable def oQ:MSs:=(.cons (.asg (.one (.name 3)) .dict0) (.cons (.for [4] .seq (.rev (.call 16 (.cons (.var 0) (.cons (.var 1) .nil)))) (.cst .none) (.cons (.asg (.one (.name 5)) (.idx (.attr (.var 0) 1 0) (.var 4))) (.cons (.ite (.cmp .eq (.attr (.var 5) 0 1) (.cst (.int 0))) (.cons (.asg (.one (.sub (.var 3) (.var 4))) (.cst (.int 1))) .nil) (.cons (.ite (.cmp .eq (.call 12 (.cons (.attr (.var 5) 0 1) .nil)) (.var 2)) (.cons (.asg (.one (.sub (.var 3) (.var 4))) (.bcall .sum (.cons (.comp [6] .seq (.attr (.var 5) 0 3) (.cst .none) (.cst (.bool true)) (.idx (.var 3) (.var 6))) .nil))) .nil) (.cons (.asg (.one (.sub (.var 3) (.var 4))) (.bcall .max (.cons (.comp [6] .seq (.attr (.var 5) 0 3) (.cst .none) (.cst (.bool true)) (.idx (.var 3) (.var 6))) .nil))) .nil)) .nil)) .nil))) (.cons (.ret (.idx (.var 3) (.var 1))) .nil)))
noncomputable def v8:MSs:=(.cons (.asg (.tup [(.name 3),(.name 4)]) (.tup (.cons (.bin .sub (.var 0) (.bcall .sum (.cons (.var 2) .nil))) (.cons (.bcall .sum (.cons (.var 1) .nil)) .nil)))) (.cons (.ite (.cmp .eq (.var 4) (.cst (.int 0))) (.cons (.asg (.one (.name 1)) (.bin .mul (.list (.cons (.cst (.int 1)) .nil)) (.bcall .len (.cons (.var 2) .nil)))) (.cons (.asg (.one (.name 4)) (.bcall .len (.cons (.var 2) .nil))) .nil)) .nil) (.cons (.asg (.one (.name 5)) (.comp [6,7] .zip (.var 1) (.var 2) (.cst (.bool true)) (.bin .add (.var 7) (.bin .fdiv (.bin .mul (.var 3) (.var 6)) (.var 4))))) (.cons (.asg (.one (.name 8)) (.bin .sub (.var 0) (.bcall .sum (.cons (.var 5) .nil)))) (.cons (.ret (.comp [9,10] .enum (.var 5) (.cst .none) (.cst (.bool true)) (.bin .add (.var 10) (.ife (.cmp .lt (.var 9) (.var 8)) (.cst (.int 1)) (.cst (.int 0)))))) .nil)))))
noncomputable def kq:MSs:=(.cons (.asg (.one (.name 3)) (.list .nil)) (.cons (.while (.cst (.bool true)) (.cons (.asg (.one (.name 4)) (.comp [9] .range (.bcall .len (.cons (.var 1) .nil)) (.cst .none) (.cmp .notin (.var 9) (.var 3)) (.var 9))) (.cons (.asg (.one (.name 5)) (.bin .sub (.var 0) (.bcall .sum (.cons (.comp [9] .seq (.var 3) (.cst .none) (.cst (.bool true)) (.idx (.var 2) (.var 9))) .nil)))) (.cons (.asg (.one (.name 6)) (.call 21 (.cons (.var 5) (.cons (.comp [9] .seq (.var 4) (.cst .none) (.cst (.bool true)) (.idx (.var 1) (.var 9))) (.cons (.bin .mul (.list (.cons (.cst (.int 0)) .nil)) (.bcall .len (.cons (.var 4) .nil))) .nil))))) (.cons (.asg (.one (.name 7)) (.comp [9,10] .zip (.var 4) (.var 6) (.cmp .lt (.var 10) (.idx (.var 2) (.var 9))) (.var 9))) (.cons (.ite (.cmp .eq (.var 7) (.list .nil)) (.cons (.asg (.one (.name 8)) (.bcall .list (.cons (.var 2) .nil))) (.cons (.for [9,10] .zip (.var 4) (.var 6) (.cons (.asg (.one (.sub (.var 8) (.var 9))) (.var 10)) .nil)) (.cons (.ret (.var 8)) .nil))) .nil) (.cons (.expr (.lcall .extend (.var 3) (.cons (.var 7) .nil))) .nil))))))) .nil))
noncomputable def jE:MSs:=(.cons (.asg (.one (.name 4)) (.list (.cons (.tup (.cons (.var 1) (.cons (.var 3) .nil))) .nil))) (.cons (.while (.cmp .ne (.var 4) (.list .nil)) (.cons (.asg (.tup [(.name 6),(.name 7)]) (.lcall .pop (.var 4) .nil)) (.cons (.asg (.one (.name 5)) (.idx (.attr (.var 0) 1 0) (.var 6))) (.cons (.ite (.cmp .ne (.attr (.var 5) 0 1) (.cst (.int 0))) (.cons (.ite (.cmp .eq (.call 12 (.cons (.attr (.var 5) 0 1) .nil)) (.var 2)) (.cons (.asg (.one (.name 8)) (.comp [10] .seq (.attr (.var 5) 0 3) (.cst .none) (.cst (.bool true)) (.call 19 (.cons (.var 0) (.cons (.var 10) (.cons (.var 2) .nil)))))) (.cons (.asg (.one (.name 9)) (.comp [10,12] .zip (.attr (.var 5) 0 3) (.var 8) (.cst (.bool true)) (.bin .sub (.mcall 0 2 (.idx (.attr (.var 0) 1 0) (.var 10)) (.cons (.var 2) .nil)) (.var 12)))) (.cons (.for [10,11] .zip (.attr (.var 5) 0 3) (.call 21 (.cons (.var 7) (.cons (.var 9) (.cons (.var 8) .nil)))) (.cons (.expr (.lcall .append (.var 4) (.cons (.tup (.cons (.var 10) (.cons (.var 11) .nil))) .nil))) .nil)) .nil))) (.cons (.for [10] .seq (.attr (.var 5) 0 3) (.cst .none) (.cons (.expr (.lcall .append (.var 4) (.cons (.tup (.cons (.var 10) (.cons (.var 7) .nil))) .nil))) .nil)) .nil)) .nil) .nil) (.cons (.expr (.mcall 0 3 (.var 5) (.cons (.var 2) (.cons (.var 7) .nil)))) .nil))))) .nil))
noncomputable def mR:MSs:=(.cons (.asg (.one (.name 1)) (.list (.cons (.tup (.cons (.attr (.var 0) 1 5) (.cons (.cst (.int 0)) (.cons (.cst (.int 0)) .nil)))) .nil))) (.cons (.while (.cmp .ne (.var 1) (.list .nil)) (.cons (.asg (.tup [(.name 4),(.name 5),(.name 6)]) (.lcall .pop (.var 1) .nil)) (.cons (.asg (.one (.name 2)) (.idx (.attr (.var 0) 1 0) (.var 4))) (.cons (.asg (.tup [(.attr (.var 2) 0 4),(.attr (.var 2) 0 5)]) (.tup (.cons (.var 5) (.cons (.var 6) .nil)))) (.cons (.for [3] .seq (.attr (.var 2) 0 3) (.cst .none) (.cons (.expr (.lcall .append (.var 1) (.cons (.tup (.cons (.var 3) (.cons (.var 5) (.cons (.var 6) .nil)))) .nil))) (.cons (.ite (.cmp .eq (.call 12 (.cons (.attr (.var 2) 0 1) .nil)) (.cst (.int 0))) (.cons (.asg (.one (.name 5)) (.bin .add (.var 5) (.attr (.idx (.attr (.var 0) 1 0) (.var 3)) 0 6))) .nil) (.cons (.asg (.one (.name 6)) (.bin .add (.var 6) (.attr (.idx (.attr (.var 0) 1 0) (.var 3)) 0 7))) .nil)) .nil))) .nil))))) .nil))
noncomputable def si:MSs:=(.cons (.asg (.one (.name 3)) (.mcall 1 8 (.var 0) (.cons (.var 1) .nil))) (.cons (.while (.cmp .ne (.attr (.var 3) 0 2) (.cst (.int 0))) (.cons (.asg (.one (.name 4)) (.idx (.attr (.var 0) 1 0) (.attr (.var 3) 0 2))) (.cons (.ite (.cmp .eq (.call 12 (.cons (.attr (.var 4) 0 1) .nil)) (.var 2)) (.cons (.ret (.attr (.var 3) 0 0)) .nil) .nil) (.cons (.asg (.one (.name 3)) (.var 4)) .nil)))) (.cons (.ret (.cst (.int 0))) .nil)))
noncomputable def uX:MSs:=(.cons (.asg (.one (.name 2)) (.idx (.attr (.var 0) 1 0) (.var 1))) (.cons (.asg (.one (.name 3)) (.attr (.idx (.attr (.var 0) 1 0) (.attr (.var 2) 0 2)) 0 3)) (.cons (.asg (.one (.name 4)) (.lcall .index (.var 3) (.cons (.var 1) .nil))) (.cons (.ret (.bin .add (.drop (.var 3) (.bin .add (.var 4) (.cst (.int 1)))) (.rev (.take (.var 3) (.var 4))))) .nil))))
noncomputable def q9:MSs:=(.cons (.ret (.bcall .sum (.cons (.comp [3] .seq (.call 26 (.cons (.var 0) (.cons (.var 1) .nil))) (.cst .none) (.cst (.bool true)) (.bin .sub (.mcall 0 2 (.idx (.attr (.var 0) 1 0) (.var 3)) (.cons (.var 2) .nil)) (.call 19 (.cons (.var 0) (.cons (.var 3) (.cons (.var 2) .nil)))))) .nil))) .nil)
noncomputable def v7:MSs:=(.cons (.asg (.one (.name 4)) (.call 25 (.cons (.var 0) (.cons (.var 1) (.cons (.var 2) .nil))))) (.cons (.ite (.cmp .eq (.var 4) (.cst (.int 0))) (.cons .raise .nil) .nil) (.cons (.asg (.one (.name 5)) (.idx (.attr (.var 0) 1 0) (.var 4))) (.cons (.ite (.orl (.cons (.cmp .gt (.var 3) (.call 27 (.cons (.var 0) (.cons (.var 4) (.cons (.var 2) .nil))))) (.cons (.cmp .lt (.bin .add (.mcall 0 2 (.var 5) (.cons (.var 2) .nil)) (.var 3)) (.call 19 (.cons (.var 0) (.cons (.var 4) (.cons (.var 2) .nil))))) .nil))) (.cons .raise .nil) .nil) (.cons (.asg (.one (.name 6)) (.var 3)) (.cons (.for [7] .seq (.call 26 (.cons (.var 0) (.cons (.var 4) .nil))) (.cst .none) (.cons (.asg (.one (.name 8)) (.mcall 0 2 (.idx (.attr (.var 0) 1 0) (.var 7)) (.cons (.var 2) .nil))) (.cons (.asg (.one (.name 9)) (.ife (.cmp .gt (.var 6) (.cst (.int 0))) (.bcall .min (.cons (.var 6) (.cons (.bin .sub (.var 8) (.call 19 (.cons (.var 0) (.cons (.var 7) (.cons (.var 2) .nil))))) .nil))) (.var 6))) (.cons (.expr (.call 23 (.cons (.var 0) (.cons (.var 7) (.cons (.var 2) (.cons (.bin .sub (.var 8) (.var 9)) .nil)))))) (.cons (.asg (.one (.name 6)) (.bin .sub (.var 6) (.var 9))) .nil))))) (.cons (.expr (.call 23 (.cons (.var 0) (.cons (.var 4) (.cons (.var 2) (.cons (.bin .add (.mcall 0 2 (.var 5) (.cons (.var 2) .nil)) (.var 3)) .nil)))))) (.cons (.expr (.call 24 (.cons (.var 0) .nil))) .nil))))))))
noncomputable def sg:MSs:=(.cons (.expr (.mcall 1 8 (.var 0) (.cons (.var 1) .nil))) (.cons (.for [2] .seq (.call 16 (.cons (.var 0) (.cons (.var 1) .nil))) (.cst .none) (.cons (.asg (.one (.name 3)) (.idx (.attr (.var 0) 1 0) (.var 2))) (.cons (.ite (.cmp .ne (.attr (.var 3) 0 1) (.cst (.int 0))) (.cons (.asg (.one (.name 4)) (.call 12 (.cons (.attr (.var 3) 0 1) .nil))) (.cons (.asg (.one (.name 5)) (.comp [7] .seq (.attr (.var 3) 0 3) (.cst .none) (.cst (.bool true)) (.call 20 (.cons (.var 0) (.cons (.var 7) (.cons (.var 4) .nil)))))) (.cons (.asg (.one (.name 6)) (.comp [7] .seq (.attr (.var 3) 0 3) (.cst .none) (.cst (.bool true)) (.call 19 (.cons (.var 0) (.cons (.var 7) (.cons (.var 4) .nil)))))) (.cons (.for [7,8] .zip (.attr (.var 3) 0 3) (.call 22 (.cons (.mcall 0 2 (.var 3) (.cons (.var 4) .nil)) (.cons (.var 5) (.cons (.var 6) .nil)))) (.cons (.expr (.call 23 (.cons (.var 0) (.cons (.var 7) (.cons (.var 4) (.cons (.var 8) .nil)))))) .nil)) .nil)))) .nil) .nil))) (.cons (.expr (.call 24 (.cons (.var 0) .nil))) .nil)))
noncomputable def ku:MSs:=(.cons (.ite (.orl (.cons (.cmp .lt (.var 1) (.call 19 (.cons (.var 0) (.cons (.attr (.var 0) 1 5) (.cons (.cst (.int 0)) .nil))))) (.cons (.cmp .lt (.var 2) (.call 19 (.cons (.var 0) (.cons (.attr (.var 0) 1 5) (.cons (.cst (.int 1)) .nil))))) .nil))) (.cons .raise .nil) .nil) (.cons (.expr (.call 23 (.cons (.var 0) (.cons (.attr (.var 0) 1 5) (.cons (.cst (.int 0)) (.cons (.var 1) .nil)))))) (.cons (.expr (.call 23 (.cons (.var 0) (.cons (.attr (.var 0) 1 5) (.cons (.cst (.int 1)) (.cons (.var 2) .nil)))))) (.cons (.expr (.call 24 (.cons (.var 0) .nil))) .nil))))
noncomputable def kA:MSs:=(.cons (.asg (.one (.name 2)) (.idx (.attr (.var 0) 1 0) (.var 1))) (.cons (.ite (.cmp .eq (.attr (.var 2) 0 1) (.cst (.int 0))) (.cons (.ite (.cmp .ne (.attr (.var 2) 0 3) (.list .nil)) (.cons (.ret (.cst .str)) .nil) .nil) (.cons (.ite (.orl (.cons (.cmp .lt (.attr (.var 2) 0 6) (.attr (.var 0) 1 3)) (.cons (.cmp .lt (.attr (.var 2) 0 7) (.attr (.var 0) 1 4)) .nil))) (.cons (.ret (.cst .str)) .nil) .nil) (.cons (.ret (.cst .none)) .nil))) .nil) (.cons (.ite (.cmp .lt (.bcall .len (.cons (.attr (.var 2) 0 3) .nil)) (.cst (.int 2))) (.cons (.ret (.cst .str)) .nil) .nil) (.cons (.asg (.tup [(.name 3),(.name 4)]) (.tup (.cons (.call 12 (.cons (.attr (.var 2) 0 1) .nil)) (.cons (.mcall 0 4 (.var 2) (.cons (.call 12 (.cons (.attr (.var 2) 0 1) .nil)) .nil)) .nil)))) (.cons (.for [5] .seq (.attr (.var 2) 0 3) (.cst .none) (.cons (.asg (.one (.name 6)) (.lcall .get (.attr (.var 0) 1 0) (.cons (.var 5) (.cons (.cst .none) .nil)))) (.cons (.ite (.orl (.cons (.isNone (.var 6)) (.cons (.cmp .ne (.attr (.var 6) 0 2) (.var 1)) (.cons (.cmp .eq (.attr (.var 6) 0 1) (.attr (.var 2) 0 1)) .nil)))) (.cons (.ret (.cst .str)) .nil) .nil) (.cons (.ite (.orl (.cons (.cmp .ne (.mcall 0 4 (.var 6) (.cons (.var 3) .nil)) (.var 4)) (.cons (.cmp .ne (.mcall 0 4 (.var 6) (.cons (.bin .sub (.cst (.int 1)) (.var 3)) .nil)) (.mcall 0 4 (.var 2) (.cons (.bin .sub (.cst (.int 1)) (.var 3)) .nil))) .nil))) (.cons (.ret (.cst .str)) .nil) .nil) (.cons (.ite (.cmp .ne (.mcall 0 2 (.var 6) (.cons (.bin .sub (.cst (.int 1)) (.var 3)) .nil)) (.mcall 0 2 (.var 2) (.cons (.bin .sub (.cst (.int 1)) (.var 3)) .nil))) (.cons (.ret (.cst .str)) .nil) .nil) (.cons (.asg (.one (.name 4)) (.bin .add (.var 4) (.mcall 0 2 (.var 6) (.cons (.var 3) .nil)))) .nil)))))) (.cons (.ret (.ife (.cmp .eq (.var 4) (.bin .add (.mcall 0 4 (.var 2) (.cons (.var 3) .nil)) (.mcall 0 2 (.var 2) (.cons (.var 3) .nil)))) (.cst .none) (.cst .str))) .nil))))))
noncomputable def mS:MSs:=(.cons (.asg (.one (.name 1)) (.lcall .get (.attr (.var 0) 1 0) (.cons (.attr (.var 0) 1 5) (.cons (.cst .none) .nil)))) (.cons (.ite (.orl (.cons (.isNone (.var 1)) (.cons (.cmp .ne (.attr (.var 1) 0 2) (.cst (.int 0))) (.cons (.cmp .ne (.attr (.var 1) 0 4) (.cst (.int 0))) (.cons (.cmp .ne (.attr (.var 1) 0 5) (.cst (.int 0))) .nil))))) (.cons (.ret (.tup (.cons (.attr (.var 0) 1 5) (.cons (.cst .str) .nil)))) .nil) .nil) (.cons (.asg (.one (.name 2)) (.call 16 (.cons (.var 0) (.cons (.attr (.var 0) 1 5) .nil)))) (.cons (.for [3] .seq (.var 2) (.cst .none) (.cons (.asg (.one (.name 4)) (.call 31 (.cons (.var 0) (.cons (.var 3) .nil)))) (.cons (.ite (.notNone (.var 4)) (.cons (.ret (.tup (.cons (.var 3) (.cons (.var 4) .nil)))) .nil) .nil) .nil))) (.cons (.ite (.cmp .ne (.bcall .sorted (.cons (.var 2) .nil)) (.bcall .sorted (.cons (.attr (.var 0) 1 0) .nil))) (.cons (.ret (.tup (.cons (.cst (.int 0)) (.cons (.cst .str) .nil)))) .nil) .nil) (.cons (.ret (.ife (.cmp .isin (.attr (.var 0) 1 6) (.call 14 (.cons (.var 0) (.cons (.attr (.var 0) 1 5) .nil)))) (.cst .none) (.tup (.cons (.attr (.var 0) 1 6) (.cons (.cst .str) .nil))))) .nil))))))
noncomputable def lV:MSs:=(.cons (.asg (.one (.name 4)) (.mcall 0 2 (.mcall 1 8 (.var 0) (.cons (.var 1) .nil)) (.cons (.var 3) .nil))) (.cons (.ite (.isNone (.var 2)) (.cons (.asg (.one (.name 5)) (.bin .fdiv (.var 4) (.cst (.int 2)))) .nil) (.cons (.asg (.one (.name 5)) (.ife (.cmp .gt (.var 2) (.cst (.int 0))) (.bin .sub (.var 4) (.var 2)) (.bin .sub (.cst (.int 0)) (.var 2)))) .nil)) (.cons (.asg (.one (.name 6)) (.bin .sub (.var 4) (.var 5))) (.cons (.ite (.orl (.cons (.cmp .lt (.var 6) (.call 19 (.cons (.var 0) (.cons (.var 1) (.cons (.var 3) .nil))))) (.cons (.cmp .lt (.var 5) (.mcall 1 11 (.var 0) (.cons (.var 3) .nil))) .nil))) (.cons .raise .nil) .nil) (.cons (.ret (.tup (.cons (.var 6) (.cons (.var 5) .nil)))) .nil)))))
noncomputable def qa:MSs:=(.cons (.asg (.one (.name 3)) (.idx (.attr (.var 0) 1 0) (.var 1))) (.cons (.ite (.andl (.cons (.cmp .ne (.attr (.var 3) 0 2) (.cst (.int 0))) (.cons (.cmp .eq (.call 12 (.cons (.attr (.idx (.attr (.var 0) 1 0) (.attr (.var 3) 0 2)) 0 1) .nil)) (.var 2)) .nil))) (.cons (.ret (.attr (.var 3) 0 2)) .nil) .nil) (.cons (.asg (.one (.name 4)) (.mcall 1 7 (.var 0) (.cons (.call 13 (.cons (.var 2) .nil)) (.cons (.attr (.var 3) 0 2) .nil)))) (.cons (.asg (.tup [(.attr (.var 4) 0 6),(.attr (.var 4) 0 7),(.attr (.var 4) 0 4),(.attr (.var 4) 0 5)]) (.tup (.cons (.attr (.var 3) 0 6) (.cons (.attr (.var 3) 0 7) (.cons (.attr (.var 3) 0 4) (.cons (.attr (.var 3) 0 5) .nil)))))) (.cons (.expr (.call 17 (.cons (.var 0) (.cons (.var 1) (.cons (.attr (.var 4) 0 0) .nil))))) (.cons (.asg (.one (.attr (.var 3) 0 2)) (.attr (.var 4) 0 0)) (.cons (.asg (.one (.attr (.var 4) 0 3)) (.list (.cons (.var 1) .nil))) (.cons (.ret (.attr (.var 4) 0 0)) .nil))))))))
noncomputable def yB:MSs:=(.cons (.asg (.tup [(.name 5),(.name 6)]) (.call 33 (.cons (.var 0) (.cons (.var 1) (.cons (.var 2) (.cons (.var 3) .nil)))))) (.cons (.asg (.one (.name 7)) (.call 34 (.cons (.var 0) (.cons (.var 1) (.cons (.var 3) .nil))))) (.cons (.asg (.one (.name 8)) (.idx (.attr (.var 0) 1 0) (.idx (.call 14 (.cons (.var 0) (.cons (.var 1) .nil))) (.cst (.int 0))))) (.cons (.asg (.one (.name 9)) (.mcall 1 7 (.var 0) (.cons (.cst (.int 0)) (.cons (.var 7) .nil)))) (.cons (.asg (.tup [(.attr (.var 9) 0 6),(.attr (.var 9) 0 7)]) (.tup (.cons (.attr (.var 8) 0 6) (.cons (.attr (.var 8) 0 7) .nil)))) (.cons (.expr (.mcall 0 3 (.var 9) (.cons (.var 3) (.cons (.var 6) .nil)))) (.cons (.expr (.mcall 0 3 (.var 9) (.cons (.bin .sub (.cst (.int 1)) (.var 3)) (.cons (.mcall 0 2 (.idx (.attr (.var 0) 1 0) (.var 1)) (.cons (.bin .sub (.cst (.int 1)) (.var 3)) .nil)) .nil)))) (.cons (.expr (.mcall 0 6 (.var 9) (.cons (.mcall 0 5 (.var 8) .nil) .nil))) (.cons (.asg (.one (.attr (.var 9) 0 14)) (.bcall .list (.cons (.attr (.var 8) 0 14) .nil))) (.cons (.asg (.one (.name 10)) (.attr (.idx (.attr (.var 0) 1 0) (.var 7)) 0 3)) (.cons (.asg (.one (.name 11)) (.lcall .index (.var 10) (.cons (.var 1) .nil))) (.cons (.expr (.lcall .insert (.var 10) (.cons (.ife (.var 4) (.var 11) (.bin .add (.var 11) (.cst (.int 1)))) (.cons (.attr (.var 9) 0 0) .nil)))) (.cons (.expr (.call 23 (.cons (.var 0) (.cons (.var 1) (.cons (.var 3) (.cons (.var 5) .nil)))))) (.cons (.expr (.call 36 (.cons (.var 0) (.cons (.var 7) .nil)))) (.cons (.expr (.call 24 (.cons (.var 0) .nil))) (.cons (.ret (.attr (.var 9) 0 0)) .nil))))))))))))))))
noncomputable def uY:MSs:=(.cons (.asg (.one (.name 2)) (.idx (.attr (.var 0) 1 0) (.var 1))) (.cons (.asg (.one (.name 3)) (.list .nil)) (.cons (.for [4] .seq (.attr (.var 2) 0 3) (.cst .none) (.cons (.asg (.one (.name 5)) (.idx (.attr (.var 0) 1 0) (.var 4))) (.cons (.ite (.cmp .eq (.attr (.var 5) 0 1) (.attr (.var 2) 0 1)) (.cons (.expr (.lcall .extend (.var 3) (.cons (.attr (.var 5) 0 3) .nil))) (.cons (.expr (.lcall .dpop (.attr (.var 0) 1 0) (.cons (.var 4) .nil))) .nil)) (.cons (.expr (.lcall .append (.var 3) (.cons (.var 4) .nil))) .nil)) .nil))) (.cons (.for [4] .seq (.var 3) (.cst .none) (.cons (.asg (.one (.attr (.idx (.attr (.var 0) 1 0) (.var 4)) 0 2)) (.var 1)) .nil)) (.cons (.asg (.one (.attr (.var 2) 0 3)) (.var 3)) .nil)))))
noncomputable def v5:MSs:=(.cons (.asg (.one (.name 2)) (.idx (.attr (.var 0) 1 0) (.var 1))) (.cons (.ite (.cmp .ne (.bcall .len (.cons (.attr (.var 2) 0 3) .nil)) (.cst (.int 1))) (.cons .retn .nil) .nil) (.cons (.asg (.one (.name 3)) (.idx (.attr (.var 2) 0 3) (.cst (.int 0)))) (.cons (.expr (.call 17 (.cons (.var 0) (.cons (.var 1) (.cons (.var 3) .nil))))) (.cons (.asg (.one (.attr (.var 2) 0 3)) (.list .nil)) (.cons (.expr (.lcall .dpop (.attr (.var 0) 1 0) (.cons (.var 1) .nil))) (.cons (.ite (.cmp .ne (.attr (.idx (.attr (.var 0) 1 0) (.var 3)) 0 2) (.cst (.int 0))) (.cons (.expr (.call 36 (.cons (.var 0) (.cons (.attr (.idx (.attr (.var 0) 1 0) (.var 3)) 0 2) .nil)))) .nil) .nil) .nil)))))))
noncomputable def lU:MSs:=(.cons (.asg (.one (.name 2)) (.idx (.var 1) (.cst (.int 0)))) (.cons (.for [3] .seq (.var 1) (.cst .none) (.cons (.ite (.cmp .gt (.attr (.idx (.attr (.var 0) 1 0) (.var 3)) 0 13) (.attr (.idx (.attr (.var 0) 1 0) (.var 2)) 0 13)) (.cons (.asg (.one (.name 2)) (.var 3)) .nil) .nil) .nil)) (.cons (.ret (.var 2)) .nil)))
noncomputable def jB:MSs:=(.cons (.asg (.one (.name 2)) (.mcall 1 8 (.var 0) (.cons (.var 1) .nil))) (.cons (.ite (.cmp .eq (.attr (.var 2) 0 2) (.cst (.int 0))) (.cons .raise .nil) .nil) (.cons (.asg (.one (.name 3)) (.idx (.attr (.var 0) 1 0) (.attr (.var 2) 0 2))) (.cons (.asg (.tup [(.name 4),(.name 5)]) (.tup (.cons (.call 12 (.cons (.attr (.var 3) 0 1) .nil)) (.cons (.lcall .index (.attr (.var 3) 0 3) (.cons (.var 1) .nil)) .nil)))) (.cons (.asg (.one (.name 6)) (.ife (.cmp .gt (.var 5) (.cst (.int 0))) (.idx (.attr (.var 3) 0 3) (.bin .sub (.var 5) (.cst (.int 1)))) (.idx (.attr (.var 3) 0 3) (.cst (.int 1))))) (.cons (.asg (.one (.name 7)) (.bin .add (.mcall 0 2 (.idx (.attr (.var 0) 1 0) (.var 6)) (.cons (.var 4) .nil)) (.mcall 0 2 (.var 2) (.cons (.var 4) .nil)))) (.cons (.asg (.one (.name 8)) (.cmp .isin (.attr (.var 0) 1 6) (.call 14 (.cons (.var 0) (.cons (.var 1) .nil))))) (.cons (.expr (.lcall .remove (.attr (.var 3) 0 3) (.cons (.var 1) .nil))) (.cons (.expr (.call 18 (.cons (.var 0) (.cons (.var 1) .nil)))) (.cons (.expr (.call 23 (.cons (.var 0) (.cons (.var 6) (.cons (.var 4) (.cons (.var 7) .nil)))))) (.cons (.expr (.call 37 (.cons (.var 0) (.cons (.attr (.var 3) 0 0) .nil)))) (.cons (.expr (.call 24 (.cons (.var 0) .nil))) (.cons (.ite (.var 8) (.cons (.asg (.one (.attr (.var 0) 1 6)) (.call 38 (.cons (.var 0) (.cons (.call 14 (.cons (.var 0) (.cons (.attr (.var 0) 1 5) .nil))) .nil)))) .nil) .nil) .nil)))))))))))))
noncomputable def jA:MSs:=(.cons (.asg (.one (.name 2)) (.mcall 1 9 (.var 0) (.cons (.var 1) .nil))) (.cons (.asg (.one (.name 3)) (.idx (.attr (.var 0) 1 0) (.attr (.var 0) 1 5))) (.cons (.asg (.tup [(.name 4),(.name 5)]) (.tup (.cons (.attr (.var 3) 0 6) (.cons (.attr (.var 3) 0 7) .nil)))) (.cons (.for [6] .seq (.call 16 (.cons (.var 0) (.cons (.attr (.var 0) 1 5) .nil))) (.cst .none) (.cons (.ite (.cmp .ne (.var 6) (.var 1)) (.cons (.expr (.lcall .dpop (.attr (.var 0) 1 0) (.cons (.var 6) .nil))) .nil) .nil) .nil)) (.cons (.asg (.one (.attr (.var 2) 0 2)) (.cst (.int 0))) (.cons (.asg (.tup [(.attr (.var 2) 0 4),(.attr (.var 2) 0 5),(.attr (.var 2) 0 6),(.attr (.var 2) 0 7)]) (.tup (.cons (.cst (.int 0)) (.cons (.cst (.int 0)) (.cons (.var 4) (.cons (.var 5) .nil)))))) (.cons (.asg (.one (.attr (.var 0) 1 5)) (.var 1)) (.cons (.ite (.cmp .notin (.attr (.var 0) 1 6) (.attr (.var 0) 1 0)) (.cons (.asg (.one (.attr (.var 0) 1 6)) (.var 1)) .nil) .nil) .nil))))))))
noncomputable def sj:MSs:=(.cons (.asg (.one (.name 2)) .dict0) (.cons (.for [3] .seq (.rev (.call 16 (.cons (.var 0) (.cons (.var 1) .nil)))) (.cst .none) (.cons (.asg (.one (.name 4)) (.idx (.attr (.var 0) 1 0) (.var 3))) (.cons (.ite (.cmp .eq (.attr (.var 4) 0 1) (.cst (.int 0))) (.cons (.asg (.one (.sub (.var 2) (.var 3))) (.tup (.cons (.var 3) (.cons (.attr (.var 4) 0 6) (.cons (.attr (.var 4) 0 7) (.cons (.mcall 0 5 (.var 4) .nil) (.cons (.attr (.var 4) 0 12) (.cons (.attr (.var 4) 0 13) (.cons (.bcall .tuple (.cons (.attr (.var 4) 0 14) .nil)) (.cons (.bcall .tuple (.cons (.attr (.var 4) 0 15) .nil)) .nil)))))))))) .nil) (.cons (.asg (.one (.name 5)) (.bcall .tuple (.cons (.comp [6] .seq (.attr (.var 4) 0 3) (.cst .none) (.cst (.bool true)) (.idx (.var 2) (.var 6))) .nil))) (.cons (.asg (.one (.sub (.var 2) (.var 3))) (.tup (.cons (.var 3) (.cons (.attr (.var 4) 0 1) (.cons (.attr (.var 4) 0 6) (.cons (.attr (.var 4) 0 7) (.cons (.var 5) .nil))))))) .nil))) .nil))) (.cons (.ret (.idx (.var 2) (.var 1))) .nil)))
noncomputable def jz:MSs:=(.cons (.asg (.one (.name 1)) (.idx (.attr (.var 0) 1 0) (.attr (.var 0) 1 5))) (.cons (.ret (.tup (.cons (.tup (.cons (.attr (.var 1) 0 6) (.cons (.attr (.var 1) 0 7) .nil))) (.cons (.call 41 (.cons (.var 0) (.cons (.attr (.var 0) 1 5) .nil))) (.cons (.attr (.var 0) 1 6) .nil))))) .nil))
noncomputable def qc:MSs:=(.cons (.asg (.one (.sub (.var 0) (.cst (.int 1)))) (.bin .add (.idx (.var 0) (.cst (.int 1))) (.cst (.int 1)))) (.cons (.ite (.cmp .le (.idx (.var 0) (.cst (.int 1))) (.bcall .len (.cons (.idx (.var 0) (.cst (.int 0))) .nil))) (.cons (.ret (.bin .mod (.idx (.idx (.var 0) (.cst (.int 0))) (.bin .sub (.idx (.var 0) (.cst (.int 1))) (.cst (.int 1)))) (.var 1))) .nil) .nil) (.cons (.ret (.bin .mod (.bin .fdiv (.bin .add (.bin .add (.bin .mul (.bin .mul (.idx (.var 0) (.cst (.int 1))) (.idx (.var 0) (.cst (.int 1)))) (.cst (.int 37))) (.bin .mul (.cst (.int 23)) (.idx (.var 0) (.cst (.int 1))))) (.bin .mul (.cst (.int 7)) (.bcall .len (.cons (.idx (.var 0) (.cst (.int 0))) .nil)))) (.cst (.int 5))) (.var 1))) .nil)))
noncomputable def mP:MSs:=(.cons (.asg (.one (.name 3)) .dict0) (.cons (.for [4] .seq (.call 15 (.cons (.var 0) .nil)) (.cst .none) (.cons (.asg (.one (.name 5)) (.idx (.attr (.var 0) 1 0) (.var 4))) (.cons (.ite (.orl (.cons (.cmp .lt (.attr (.var 5) 0 6) (.attr (.var 0) 1 3)) (.cons (.cmp .lt (.attr (.var 5) 0 7) (.attr (.var 0) 1 4)) .nil))) (.cons (.ret (.cst (.bool false))) .nil) .nil) (.cons (.ite (.orl (.cons (.cmp .lt (.attr (.var 5) 0 4) (.cst (.int 0))) (.cons (.cmp .lt (.attr (.var 5) 0 5) (.cst (.int 0))) (.cons (.cmp .gt (.bin .add (.attr (.var 5) 0 4) (.attr (.var 5) 0 6)) (.var 1)) (.cons (.cmp .gt (.bin .add (.attr (.var 5) 0 5) (.attr (.var 5) 0 7)) (.var 2)) .nil))))) (.cons (.ret (.cst (.bool false))) .nil) .nil) (.cons (.for [6] .keys (.var 3) (.cst .none) (.cons (.asg (.tup [(.name 7),(.name 8),(.name 9),(.name 10)]) (.idx (.var 3) (.var 6))) (.cons (.ite (.andl (.cons (.cmp .lt (.attr (.var 5) 0 4) (.var 9)) (.cons (.cmp .lt (.var 7) (.bin .add (.attr (.var 5) 0 4) (.attr (.var 5) 0 6))) (.cons (.cmp .lt (.attr (.var 5) 0 5) (.var 10)) (.cons (.cmp .lt (.var 8) (.bin .add (.attr (.var 5) 0 5) (.attr (.var 5) 0 7))) .nil))))) (.cons (.ret (.cst (.bool false))) .nil) .nil) .nil))) (.cons (.asg (.one (.sub (.var 3) (.var 4))) (.tup (.cons (.attr (.var 5) 0 4) (.cons (.attr (.var 5) 0 5) (.cons (.bin .add (.attr (.var 5) 0 4) (.attr (.var 5) 0 6)) (.cons (.bin .add (.attr (.var 5) 0 5) (.attr (.var 5) 0 7)) .nil)))))) .nil)))))) (.cons (.ret (.cmp .eq (.bcall .sum (.cons (.comp [11] .vals (.var 3) (.cst .none) (.cst (.bool true)) (.bin .mul (.bin .sub (.idx (.var 11) (.cst (.int 2))) (.idx (.var 11) (.cst (.int 0)))) (.bin .sub (.idx (.var 11) (.cst (.int 3))) (.idx (.var 11) (.cst (.int 1)))))) .nil)) (.bin .mul (.var 1) (.var 2)))) .nil)))
noncomputable def qb:MSs:=(.cons (.asg (.tup [(.name 3),(.name 4)]) (.tup (.cons (.bcall .sorted (.cons (.attr (.var 1) 1 0) .nil)) (.cons (.bcall .len (.cons (.call 15 (.cons (.var 1) .nil)) .nil)) .nil)))) (.cons (.asg (.tup [(.name 5),(.name 6)]) (.tup (.cons (.call 43 (.cons (.var 0) (.cons (.cst (.int 8)) .nil))) (.cons (.idx (.var 3) (.call 43 (.cons (.var 0) (.cons (.bcall .len (.cons (.var 3) .nil)) .nil)))) .nil)))) (.cons (.asg (.tup [(.name 7),(.name 8)]) (.tup (.cons (.idx (.list (.cons (.cst (.int 1)) (.cons (.cst (.int 0)) .nil))) (.call 43 (.cons (.var 0) (.cons (.cst (.int 2)) .nil)))) (.cons (.bin .sub (.call 43 (.cons (.var 0) (.cons (.cst (.int 30)) .nil))) (.cst (.int 12))) .nil)))) (.cons (.ite (.cmp .lt (.var 5) (.cst (.int 3))) (.cons (.expr (.call 35 (.cons (.var 1) (.cons (.var 6) (.cons (.ife (.cmp .gt (.var 8) (.cst (.int 10))) (.cst .none) (.var 8)) (.cons (.var 7) (.cons (.cmp .eq (.call 43 (.cons (.var 0) (.cons (.cst (.int 2)) .nil))) (.cst (.int 1))) .nil))))))) (.cons (.ret (.bin .add (.var 4) (.cst (.int 1)))) .nil)) .nil) (.cons (.ite (.cmp .eq (.var 5) (.cst (.int 3))) (.cons (.asg (.one (.name 9)) (.bcall .len (.cons (.call 14 (.cons (.var 1) (.cons (.var 6) .nil))) .nil))) (.cons (.expr (.call 39 (.cons (.var 1) (.cons (.var 6) .nil)))) (.cons (.ret (.bin .sub (.var 4) (.var 9))) .nil))) .nil) (.cons (.ite (.cmp .eq (.var 5) (.cst (.int 4))) (.cons (.expr (.call 28 (.cons (.var 1) (.cons (.var 6) (.cons (.var 7) (.cons (.var 8) .nil)))))) .nil) (.cons (.ite (.cmp .eq (.var 5) (.cst (.int 5))) (.cons (.expr (.call 29 (.cons (.var 1) (.cons (.var 6) .nil)))) .nil) (.cons (.ite (.cmp .eq (.var 5) (.cst (.int 6))) (.cons (.expr (.call 30 (.cons (.var 1) (.cons (.bin .add (.idx (.var 2) (.cst (.int 0))) (.var 8)) (.cons (.bin .add (.idx (.var 2) (.cst (.int 1))) (.var 7)) .nil))))) (.cons (.asg (.tup [(.sub (.var 2) (.cst (.int 0))),(.sub (.var 2) (.cst (.int 1)))]) (.tup (.cons (.bin .add (.idx (.var 2) (.cst (.int 0))) (.var 8)) (.cons (.bin .add (.idx (.var 2) (.cst (.int 1))) (.var 7)) .nil)))) .nil)) (.cons (.ite (.cmp .gt (.var 8) (.cst (.int 14))) (.cons (.expr (.call 40 (.cons (.var 1) (.cons (.var 6) .nil)))) (.cons (.ret (.cst (.int 1))) .nil)) .nil) .nil)) .nil)) .nil)) (.cons (.ret (.var 4)) .nil)))))))
noncomputable def yA:MSs:=(.cons (.asg (.one (.name 1)) (.list (.cons (.comp [2] .seq (.take (.var 0) (.cst (.int 63))) (.cst .none) (.cst (.bool true)) (.bcall .abs (.cons (.var 2) .nil))) (.cons (.cst (.int 0)) .nil)))) (.cons (.asg (.one (.name 3)) (.list (.cons (.bin .add (.cst (.int 12)) (.call 43 (.cons (.var 1) (.cons (.cst (.int 60)) .nil)))) (.cons (.bin .add (.cst (.int 6)) (.call 43 (.cons (.var 1) (.cons (.cst (.int 40)) .nil)))) .nil)))) (.cons (.asg (.one (.name 4)) (.new 1 (.cons (.idx (.var 3) (.cst (.int 0))) (.cons (.idx (.var 3) (.cst (.int 1))) (.cons (.cst (.int 1)) (.cons (.cst (.int 3)) (.cons (.cst (.int 2)) .nil))))))) (.cons (.for [5] .range (.bin .add (.cst (.int 3)) (.call 43 (.cons (.var 1) (.cons (.cst (.int 6)) .nil)))) (.cst .none) (.cons (.asg (.tup [(.name 6),(.name 7),(.name 8)]) (.tup (.cons (.call 42 (.cons (.var 4) .nil)) (.cons (.bcall .len (.cons (.call 15 (.cons (.var 4) .nil)) .nil)) (.cons (.bcall .list (.cons (.var 3) .nil)) .nil))))) (.cons (.try (.cons (.asg (.one (.name 7)) (.call 45 (.cons (.var 1) (.cons (.var 4) (.cons (.var 3) .nil))))) .nil) (.cons (.ite (.orl (.cons (.cmp .ne (.call 42 (.cons (.var 4) .nil)) (.var 6)) (.cons (.cmp .ne (.var 3) (.var 8)) .nil))) (.cons (.ret (.cst (.bool false))) .nil) .nil) .nil)) (.cons (.ite (.orl (.cons (.not (.call 44 (.cons (.var 4) (.cons (.idx (.var 3) (.cst (.int 0))) (.cons (.idx (.var 3) (.cst (.int 1))) .nil))))) (.cons (.notNone (.call 32 (.cons (.var 4) .nil))) .nil))) (.cons (.ret (.cst (.bool false))) .nil) .nil) (.cons (.ite (.orl (.cons (.cmp .ne (.bcall .len (.cons (.call 15 (.cons (.var 4) .nil)) .nil)) (.var 7)) (.cons (.cmp .notin (.attr (.var 4) 1 6) (.call 15 (.cons (.var 4) .nil))) .nil))) (.cons (.ret (.cst (.bool false))) .nil) .nil) .nil))))) (.cons (.ret (.cst (.bool true))) .nil)))))
noncomputable def Q7:List t5:=[⟨4,oO⟩,⟨6,jw⟩,⟨2,w_size⟩,⟨3,yg⟩,⟨2,HL⟩,⟨1,zI⟩,⟨2,EK⟩,⟨3,u9⟩,⟨2,EB⟩,⟨2,EA⟩,⟨2,zy⟩,⟨2,ua⟩,⟨1,FA⟩,⟨1,td⟩,⟨2,km⟩,⟨1,uZ⟩,⟨2,oY⟩,⟨3,jC⟩,⟨2,uW⟩,⟨3,mQ⟩,⟨3,oQ⟩,⟨3,v8⟩,⟨3,kq⟩,⟨4,jE⟩,⟨1,mR⟩,⟨3,si⟩,⟨2,uX⟩,⟨3,q9⟩,⟨4,v7⟩,⟨2,sg⟩,⟨3,ku⟩,⟨2,kA⟩,⟨1,mS⟩,⟨4,lV⟩,⟨3,qa⟩,⟨5,yB⟩,⟨2,uY⟩,⟨2,v5⟩,⟨2,lU⟩,⟨2,jB⟩,⟨2,jA⟩,⟨2,sj⟩,⟨1,jz⟩,⟨2,qc⟩,⟨3,mP⟩,⟨3,qb⟩]
noncomputable def Fn(f:Nat):Option t5:=Q7[f]?
section
open PySem PySem.W PyProof.Rows PySem.Calls
noncomputable def c9:Value->Option Val
 |.none=>some .none
 |.bool b=>some (.bool b)
 |.int i _=>some (.int i)
 |.str _ _=>some .str
 |.ref a=>some (.ref a)
 |_=>none
noncomputable def Vs(cs:List Value)(vs:List Val):Prop:=cs.map c9=vs.map some
structure Pg where
 prog:Program
 w:World
 K:Frag
 loose:List Str
 mg:Str->Option Value
 mb:Str->Option Value
 C:Nat->Addr
 CE:Addr
 at_:Nat->List Str
 Ft:Nat->Option t5
 fa:Nat->Addr
 vn:Nat->List Str
 gl:List (Str×Value)
 bl:List (Str×Value)
 mt:Nat->Str->Option Nat
structure Cx where
 P:Pg
 A:Around
 env:Env
 outer:List Env
 h₀:Heap
 L:Addr
 root:Heap
 os:OsState
 fz:Bool
 top:Bool
deriving instance Nonempty for Params,Drawn,World,Shared,Around,Pg,Cx
noncomputable def fP:List Str->List DictEntry->List Val->Prop
 |_,[],[]=>True
 |x::xs,e::es,v::vs=>(∃ t,e.key=.str x t)/\c9 e.val=some v/\fP xs es vs
 |_,_,_=>False
noncomputable def rz(xs:List Value)(n:Nat):Obj:={ cls:=.type "list",data:=.seq xs.toArray n }
noncomputable def P2(xs:List Value)(n:Nat):Obj:={ cls:=.type "tuple",data:=.seq xs.toArray n }
noncomputable def OR(P:Pg)(root:Heap)(own:List Addr)(H:MH)(h:Heap)(a:Addr):d6->Prop
 |.list vs=>a∈own/\∃ xs n,h.get? a=some (rz xs n)/\Vs xs vs
 |.ro vs=>a∉own/\∃ xs:List Value,root.IsList a xs.toArray/\Vs xs vs
 |.tup vs=>a∈own/\∃ xs n,h.get? a=some (P2 xs n)/\Vs xs vs
 |.dict es=>a∈own/\∃ kvs:List (Int×Value),h.DictOf (intKind P.prog P.w) a kvs/\kvs.map (λp=>(p.1,c9 p.2))=es.map (λp=>(p.1,some p.2))
 |.inst c l=>a∈own/\∃ dx es n,dx∈own/\H dx=none/\h.get? a=some (instObj (P.C c) dx)/\h.get? dx=some (dictOf es n)/\fP (P.at_ c) es l
structure Rep (P:Pg) (root:Heap) (H:MH) (own:List Addr) (h:Heap):Prop where
 obj:∀ a o,H a=some o->OR P root own H h a o
 inj:∀ a b c l c' l' C C' dx,H a=some (.inst c l)->H b=some (.inst c' l')->h.get? a=some (instObj C dx)->h.get? b=some (instObj C' dx)->a=b
 here:∀ b∈own,(h.get? b).isSome=true/\sysModules<b
noncomputable def FL(h:Heap)(L:Addr):Prop:=∃ o,h.get? L=some o/\∀ vs,o.data≠.fields vs
structure HS (c:Cx) (H:MH) (own:List Addr) (s:Shared):Prop where
 rep:Rep c.P c.root H own s.heap
 stay:c.h₀.StaysIn s.heap
 rootIn:c.root.StaysIn c.h₀
 low:∃ o,c.h₀.get? cStatics=some o
 lives:FL s.heap c.L
 apart:∀ b∈own,c.h₀.get? b=none/\b≠c.L
 gens:s.gens = #[]
 os:s.os=c.os
structure Step (z:Bool) (own own':List Addr) (h h':Heap):Prop where
 pres:∀ b o,h.get? b=some o->(b∉own\/z=true)->h'.get? b=some o
 fresh:∀ b∈own',b∈own\/h.get? b=none
 sub:∀ b∈own,b∈own'
theorem Step.refl{z:Bool}{own:List Addr}{h:Heap}:Step z own own h h:=⟨λ_ _ e _=>e,λ_ m=>.inl m,λ_ m=>m⟩
theorem Step.trans{z:Bool}{o1 o2 o3:List Addr}{h1 h2 h3:Heap}(x:Step z o1 o2 h1 h2)(y:Step z o2 o3 h2 h3):Step z o1 o3 h1 h3:=by
 show ⟨λb o e n=>?_,λb m=>?_,λb m=>y.sub b (x.sub b m)⟩
 .have e2:=x.pres b o e n;show y.pres b o e2 (n.elim (λn=>.inl λm=>?_) .inr);rcases x.fresh b m with m|q
  .show n m
  .rw[e] at q;show fB q
 .rcases y.fresh b m with m|q
  .show x.fresh b m
  .by_cases m1:b∈o1
   .show .inl m1
   .cases e:h1.get? b with
    |none=>show .inr rfl
    |some o=>rw[x.pres b o e (.inl m1)] at q;show fB q
noncomputable def rel(o:Option Value)(r:Option Val):Prop:=o.map c9=r.map some
structure NS (L:Addr) (h₀:Heap) (vars:List Str) (env:Env) (ρ:Sto) (own:List Addr) (h:Heap):Prop where
 loc:∃ m,h.Ns env.locals m/\∀ (i:Nat) x,vars[i]?=some x->env.kindOf x=some .local->rel (m x) (ρ i)
 cel:∀ (i:Nat) x,vars[i]?=some x->env.kindOf x=some .cell->∃ a v,env.cells.lookup x=some a/\h.IsCell a v/\rel v (ρ i)
 out:env.locals∉own
 cut:∀ x a,env.cells.lookup x=some a->a∉own/\a≠env.locals/\a≠L/\h₀.get? a=none/\(h.get? a).isSome=true
 inj:∀ x y a,env.cells.lookup x=some a->env.cells.lookup y=some a->x=y
 new:h₀.get? env.locals=none
theorem IsCell.at{h h':Heap}{a:Addr}{v:Option Value}(x:h.IsCell a v)(e:∀ o,h.get? a=some o->h'.get? a=some o):h'.IsCell a v:=by
 (show bj x λo ho r=>?_;clear x);show ⟨o,e o ho,r⟩
theorem Step.out{z:Bool}{own own':List Addr}{h h':Heap}(S:Step z own own' h h'){a:Addr}(n:a∉own)(e:(h.get? a).isSome=true):a∉own':=λq=>by
 rcases S.fresh _ q with q|q
 .show n q
 .rw[q] at e;show ft e
theorem Ns.isSome{h:Heap}{a:Addr}{m:Str->Option Value}(n:h.Ns a m):(h.get? a).isSome=true:=by
 (show DF n λo es ep e _=>?_;clear n);rw[e];rfl
theorem Ns.at{h h':Heap}{a:Addr}{m:Str->Option Value}(n:h.Ns a m)(e:∀ o,h.get? a=some o->h'.get? a=some o):h'.Ns a m:=by
 (show DF n λo es ep q r=>?_;clear n);show ⟨o,es,ep,e o q,r⟩
theorem NS.step{L:Addr}{h₀:Heap}{vars:List Str}{env:Env}{ρ:Sto}{z:Bool}{own own':List Addr}{h h':Heap}(N:NS L h₀ vars env ρ own h)(S:Step z own own' h h'):NS L h₀ vars env ρ own' h':=by
 obtain ⟨⟨m,n1,n2⟩,cel,out,cut,inj,new⟩:=N;show ⟨⟨m,Ns.at n1 λo e=>S.pres _ _ e (.inl out),n2⟩,λi x h1 h2=>?_,S.out out (Ns.isSome n1),λx a e=>?_,inj,new⟩
 .show dR (cel i x h1 h2) λa v e1 e2 e3=>?_;show ⟨a,v,e1,IsCell.at e2 λo e=>S.pres _ _ e (.inl (cut _ _ e1).1),e3⟩
 .show iV (cut x a e) λc1 c2 c3 c4 c5=>?_;show oE (aZ.mp c5) λo ho=>?_;show ⟨S.out c1 c5,c2,c3,c4,by rw[S.pres _ _ ho (.inl c1)];rfl⟩
noncomputable def TX(C:Addr)(B:Heap)(x:Addr)(h:Heap)(fl:Value):Prop :=
 ∃ oe vs,h.get? x=some oe/\oe.cls=.ref C/\oe.data=.fields vs/\vs[2]?=some .none/\
  (vs[1]?=some .none\/∃ T oT ts,vs[1]?=some (.ref T)/\B.get? T=none/\T≠x/\h.get? T=some oT/\oT.data=.fields ts/\ts[3]?=some fl)
noncomputable def DK(h h':Heap):Prop:=∀ b o es ep,h.get? b=some o->o.data=.dict es ep->∃ o',h'.get? b=some o'/\o'.data=.dict es ep
structure Exc (c:Cx) (vars:List Str) (ρ:Sto) (H:MH) (e:Value) (s:Shared):Prop where
 ex:∃ x B own,e=.ref x/\c.root.StaysIn B/\B.StaysIn s.heap/\B.get? x=none/\s.heap.FunFrames B (c.env::c.outer)/\TX c.P.CE B x s.heap .none/\
  Rep c.P c.root H own B/\(∀ b∈own,c.h₀.get? b=none)/\∀ b o,c.h₀.get? b=some o->b∉(c.env::c.outer).filterMap (·.frame)->B.get? b=some o
 loc:∃ m,s.heap.Ns c.L m/\∀ (i:Nat) x,vars[i]?=some x->c.env.kindOf x=some .local->rel (m x) (ρ i)
 dk:DK c.h₀ s.heap
 gens:s.gens = #[]
 os:s.os=c.os
noncomputable abbrev Cx.M (c:Cx):Model:=model c.P.prog c.P.w
structure d5 (c:Cx) (env:Env):Prop where
 kind:env.scope.kind=.function
 globals:env.globals=mainGlobals
 builtins:env.builtins=builtinsNs
 frame:env.frame=some c.L
structure cN (c:Cx) (n:Nat):Prop where
 X:c.P.K.In c.h₀
 g:c.h₀.Ns mainGlobals c.P.mg
 b:c.h₀.Ns builtinsNs c.P.mb
 nolimit:c.h₀.NoLimit
 builtins:∀ x:Str,x≠"__name__"->c.P.mb x=bootBuiltins x
 env:d5 c c.env
 eloc:c.env.locals=c.L
 new:c.h₀.get? c.L=none
 rootIn:c.root.StaysIn c.h₀
 ff:c.h₀.FunFrames c.root c.outer
 frames:c.A.frames=some (c.env::c.outer)
 depth:c.A.depth+3*n<=900
 units:c.A.units+20*n<=9000
noncomputable def gb(c:Cx):Bool->Prop
 |false=>c.A.handled=none
 |true=>∃ x ob vs,c.A.handled=some (.ref x)/\c.h₀.get? x=some ob/\ob.data=.fields vs/\vs[2]?=some .none
noncomputable abbrev ba (c:Cx) (own:List Addr) (h:Heap) (Q:PQ) (cv:Value) (s':Shared):Prop :=
 ∃ v H' own',c9 cv=some v/\HS c H' own' s'/\Step c.fz own own' h s'.heap/\Q v H'
noncomputable abbrev du (c:Cx) (vars:List Str) (ρ:Sto) (E:MH->Prop) (e:Value) (s':Shared):Prop:=∃ H',Exc c vars ρ H' e s'/\E H'
noncomputable def Vr(c:Cx)(vars:List Str)(env:Env)(ρ:Sto)(H:MH)(t:Sem Value)(W:PQ->(MH->Prop)->Prop):Prop :=
 ∀ own s Q E,(env=c.env\/E=λ_=>False)->HS c H own s->NS c.L c.h₀ vars env ρ own s.heap->W Q E->wpAny c.M c.A t (ba c own s.heap Q) (du c vars ρ E) s
theorem ba.step{c:Cx}{o1 o2:List Addr}{h1 h2:Heap}{Q:PQ}{cv:Value}{s':Shared}(S:Step c.fz o1 o2 h1 h2)(p:ba c o2 h2 Q cv s'):ba c o1 h1 Q cv s':=by
 (show cS p λv H' own' a b d e=>?_;clear p);show ⟨v,H',own',a,b,S.trans d,e⟩
theorem Vr.bind{c:Cx}{vars:List Str}{env:Env}{ρ:Sto}{H:MH}{t:Sem Value}{W:PQ->(MH->Prop)->Prop}(T:Vr c vars env ρ H t W){own:List Addr}{s:Shared}{E:MH->Prop}{Q:PQ}
  {Qc:Value->Shared->Prop} (hE:env=c.env\/E=λ_=>False) (hs:HS c H own s) (ns:NS c.L c.h₀ vars env ρ own s.heap) (w:W Q E)
  (k:∀ cv v H' own' s',c9 cv=some v->HS c H' own' s'->NS c.L c.h₀ vars env ρ own' s'.heap->Step c.fz own own' s.heap s'.heap->Q v H'->Qc cv s') :
  wpAny c.M c.A t Qc (du c vars ρ E) s :=
 aJ (T own s Q E hE hs ns w) (λcv s' p=>cS p λv H' own' a b d e=>k cv v H' own' s' a b (ns.step d) d e) λ_ _ x=>x
theorem Q4{x y:Value}{P:Prop}(h:x=y)(k:dg x.ctorIdx y.ctorIdx=false):P:=absurd (congrArg Value.ctorIdx h) (fS k)
theorem qS{x:Value}{v:Val}{P:Value->Val->Prop}(h:c9 x=some v)(a:P .none .none)(b:∀ b,P (.bool b) (.bool b))(c:∀ i t,P (.int i t) (.int i))(d:∀ s t,P (.str s t) .str)(e:∀ p,P (.ref p) (.ref p)):P x v:=by
 cases x with
 |none=>show aN h▸a
 |bool=>show aN h▸b _
 |int=>show aN h▸c _ _
 |str=>show aN h▸d _ _
 |ref=>show aN h▸e _
 |_=>show cz h
theorem ly{x:Value}(h:c9 x=some .none):x=.none:=qS (P:=λx v=>v=.none->x=.none) h (λ_=>rfl) (λ_=>Val.noConfusion) (λ_ _=>Val.noConfusion) (λ_ _=>Val.noConfusion) (λ_=>Val.noConfusion) rfl
theorem kW{x:Value}{i:Int}(h:c9 x=some (.int i)):∃ t,x=.int i t:=qS (P:=λx v=>v=.int i->∃ t,x=.int i t) h Val.noConfusion (λ_=>Val.noConfusion) (λ_ t e=>⟨t,congrArg (λi=>Value.int i t) (Val.int.inj e)⟩) (λ_ _=>Val.noConfusion) (λ_=>Val.noConfusion) rfl
theorem lx{x:Value}{b:Bool}(h:c9 x=some (.bool b)):x=.bool b:=qS (P:=λx v=>v=.bool b->x=.bool b) h Val.noConfusion (λ_ e=>congrArg Value.bool (Val.bool.inj e)) (λ_ _=>Val.noConfusion) (λ_ _=>Val.noConfusion) (λ_=>Val.noConfusion) rfl
theorem fM{x:Value}{a:Nat}(h:c9 x=some (.ref a)):x=.ref a:=qS (P:=λx v=>v=.ref a->x=.ref a) h Val.noConfusion (λ_=>Val.noConfusion) (λ_ _=>Val.noConfusion) (λ_ _=>Val.noConfusion) (λ_ e=>congrArg cm (Val.ref.inj e)) rfl
theorem Vs.nil:Vs [] []:=rfl
theorem Vs.cons{x:Value}{v:Val}{xs:List Value}{vs:List Val}(h:c9 x=some v)(t:Vs xs vs):Vs (x::xs) (v::vs):=by
 unfold Vs at *;simp[h,t]
theorem Vs.length{xs:List Value}{vs:List Val}(h:Vs xs vs):xs.length=vs.length:=by
 have:=congrArg cg h;simpa using this
theorem Vs.get{xs:List Value}{vs:List Val}(h:Vs xs vs){i:Nat}{v:Val}(e:vs[i]?=some v):∃ x,xs[i]?=some x/\c9 x=some v:=by
 have q:=congrArg (λl=>l[i]?) h;simp only[au,e,jc] at q;show aV.mp q
theorem Vs.append{xs ys:List Value}{vs ws:List Val}(h:Vs xs vs)(k:Vs ys ws):Vs (xs++ys) (vs++ws):=by
 unfold Vs at *;simp[h,k]
theorem Vs.reverse{xs:List Value}{vs:List Val}(h:Vs xs vs):Vs xs.reverse vs.reverse:=by
 unfold Vs at *;simp[h]
theorem Vs.drop{xs:List Value}{vs:List Val}(h:Vs xs vs)(n:Nat):Vs (xs.drop n) (vs.drop n):=by
 unfold Vs at *;simp[h]
theorem Vs.take{xs:List Value}{vs:List Val}(h:Vs xs vs)(n:Nat):Vs (xs.take n) (vs.take n):=by
 unfold Vs at *;simp[h]
theorem Vs.set{xs:List Value}{vs:List Val}(h:Vs xs vs)(n:Nat){x:Value}{v:Val}(e:c9 x=some v):Vs (xs.set n x) (vs.set n v):=by
 unfold Vs at *;rw[nG,nG,h,e]
theorem Vs.replicate{x:Value}{v:Val}(e:c9 x=some v)(n:Nat):Vs (bf n x) (bf n v):=by
 unfold Vs at *;simp[e]
theorem Vs.of_cons{xs:List Value}{v:Val}{vs:List Val}(h:Vs xs (v::vs)):∃ x r,xs=x::r/\c9 x=some v/\Vs r vs:=by
 cases xs with
 |nil=>simp[Vs] at h
 |cons x r=>simp[Vs] at h;show ⟨x,r,rfl,h.1,h.2⟩
theorem Vs.of_nil{xs:List Value}(h:Vs xs []):xs=[]:=by
 cases xs with
 |nil=>rfl
 |cons x r=>simp[Vs] at h
section
variable {P:Pg} {root:Heap} {H:MH} {own:List Addr} {h h':Heap} {a:Addr}
theorem OR.ext{o:d6}(ext:∀ b ob,h.get? b=some ob->h'.get? b=some ob)(x:OR P root own H h a o):OR P root own H h' a o:=by
 cases o with
 |list vs=>(show bU x λm xs n e v=>?_;clear x);show ⟨m,xs,n,ext _ _ e,v⟩
 |ro vs=>show x
 |tup vs=>(show bU x λm xs n e v=>?_;clear x);show ⟨m,xs,n,ext _ _ e,v⟩
 |dict es=>
  (show fm x λm kvs aG v=>?_;clear x;obtain ⟨ob,rv,ep,e,r⟩:=aG);show ⟨m,kvs,⟨ob,rv,ep,ext _ _ e,r⟩,v⟩
 |inst c l=>(show dt x λm dx es n e1 e2 e3 e4 e5=>?_;clear x);show ⟨m,dx,es,n,e1,e2,ext _ _ e3,ext _ _ e4,e5⟩
theorem OR.at{o:d6}(Ff:root.StaysIn h)(x:OR P root own H h a o):∃ ob,h.get? a=some ob:=by
 cases o with
 |list vs=>(show bU x λm xs n e v=>?_;clear x);show ⟨_,e⟩
 |ro vs=>(show fm x λm xs aG v=>?_;clear x;obtain ⟨o,e,r⟩:=aG);show ⟨_,Ff _ _ e⟩
 |tup vs=>(show bU x λm xs n e v=>?_;clear x);show ⟨_,e⟩
 |dict es=>(show fm x λm kvs aG v=>?_;clear x;obtain ⟨ob,rv,ep,e,r⟩:=aG);show ⟨_,e⟩
 |inst c l=>(show dt x λm dx es n e1 e2 e3 e4 e5=>?_;clear x);show ⟨_,e3⟩
theorem Rep.ext(R:Rep P root H own h)(ext:∀ b ob,h.get? b=some ob->h'.get? b=some ob):Rep P root H own h':=by
 show ⟨λa o e=>(R.obj a o e).ext ext,λa b c l c' l' C C' dx ha hb e1 e2=>?_,λb m=>?_⟩
 .show hV (R.obj a _ ha) λ_ VK _ _ _ _ q1 _=>?_;show hV (R.obj b _ hb) λ_ VL _ _ _ _ q2 _=>?_;have z1:=ext _ _ q1;rw[e1] at z1;have z2:=ext _ _ q2;rw[e2] at z2;have y1:dx=VK:=by injection z1 with z1;injection z1 with _ z1;injection z1
  have y2:dx=VL:=by injection z2 with z2;injection z2 with _ z2;injection z2
  clear z1 z2;subst y1;subst y2;show R.inj a b c l c' l' _ _ _ ha hb q1 q2
 .show oA (R.here b m) λe lo=>?_;show oE (aZ.mp e) λo ho=>?_;show ⟨by rw[ext _ _ ho];rfl,lo⟩
theorem Rep.none_of(Ff:root.StaysIn h)(R:Rep P root H own h)(e:h.get? a=none):H a=none:=by
 cases q:H a with
 |none=>rfl
 |some o=>show oE ((R.obj a o q).at Ff) λob ho=>?_;rw[e] at ho;show cz ho
theorem OR.more{o:d6}{own':List Addr}(sub:∀ b∈own,b∈own')(ex:∀ b,b∈own'->b∈own\/root.get? b=none)(x:OR P root own H h a o):OR P root own' H h a o:=by
 cases o with
 |list vs=>(show oA x λm r=>?_;clear x);show ⟨sub _ m,r⟩
 |ro vs=>
  (show fm x λm xs aG v=>?_;clear x;obtain ⟨o,e,r⟩:=aG);show ⟨λq=>?_,xs,⟨o,e,r⟩,v⟩;rcases ex _ q with q|q
  .show m q
  .rw[e] at q;show fB q
 |tup vs=>(show oA x λm r=>?_;clear x);show ⟨sub _ m,r⟩
 |dict es=>(show oA x λm r=>?_;clear x);show ⟨sub _ m,r⟩
 |inst c l=>(show Lh x λm dx es n e1 r=>?_;clear x);show ⟨sub _ m,dx,es,n,sub _ e1,r⟩
theorem Rep.more{own':List Addr}(R:Rep P root H own h)(sub:∀ b∈own,b∈own')(ex:∀ b,b∈own'->b∈own\/root.get? b=none)(hh:∀ b∈own',(h.get? b).isSome=true/\sysModules<b):Rep P root H own' h :=
 ⟨λa o e=>(R.obj a o e).more sub ex,R.inj,hh⟩
theorem OR.updH{o oa:d6}{b:Addr}(hb:∀ c l dx C,o=.inst c l->h.get? b=some (instObj C dx)->dx≠a)(x:OR P root own H h b o):OR P root own (upd H a oa) h b o:=by
 cases o with
 |list vs=>show x
 |ro vs=>show x
 |tup vs=>show x
 |dict es=>show x
 |inst c l=>
  (show hV x λm dx es n e1 e2 e3 r=>?_;clear x);show ⟨m,dx,es,n,e1,?_,e3,r⟩;change (if dx=a then some oa else H dx)=none;rw[if_neg (hb c l dx _ rfl e3)];show e2
theorem Rep.new{o:d6}{own':List Addr}(Ff:root.StaysIn h)(R:Rep P root H own h)(hn:h.get? a=none)(ext:∀ b ob,h.get? b=some ob->h'.get? b=some ob)
  (ni:∀ c l,o≠.inst c l) (he:own'=a::own) (lo:sysModules<a) (ho:OR P root (a::own) (upd H a o) h' a o) (hr:root.get? a=none) (hh:(h'.get? a).isSome=true) :
  Rep P root (upd H a o) (a::own) h':=by
 have Hn:H a=none:=R.none_of Ff hn;have R1:=R.ext ext;have sub:∀ b∈own,b∈a::own:=λb m=>wA _ m;show ⟨λb ob e=>?_,λb1 b2 c l c' l' C C' dx e1 e2 g1 g2=>?_,λb m=>?_⟩
 .by_cases q:b=a
  .clear hn he lo hr hh Hn sub;subst q;have:o=ob:=by simpa [upd] using e
   clear e;subst this;show ho
  .have e':H b=some ob:=by simpa [upd,q] using e
   show OR.updH (λc l dx C eo eg=>?_) ((R1.obj b ob e').more sub λb m=>(ag.mp m).elim (λz=>.inr (z▸hr)) .inl);clear ho e q;rintro rfl;subst eo;show dt (R.obj b _ e') λ_ Jw es n x1 x2 x3 x4 _=>?_;have:=ext _ _ x3;rw[eg] at this;have y:dx=Jw:=by injection this with z;injection z with _ z;injection z
   clear x1 x2 x3 this;subst y;rw[hn] at x4;show cz x4
 .have k1:H b1=some (.inst c l):=by
   by_cases q:b1=a
   .show absurd (by simpa [upd,q] using e1) (ni c l)
   .simpa [upd,q] using e1
  have k2:H b2=some (.inst c' l'):=by
   by_cases q:b2=a
   .show absurd (by simpa [upd,q] using e2) (ni c' l')
   .simpa [upd,q] using e2
  show R1.inj b1 b2 c l c' l' C C' dx k1 k2 g1 g2
 .rcases ag.mp m with rfl|m
  .show ⟨hh,lo⟩
  .show R1.here b m
end
theorem HS.none_of{c:Cx}{H:MH}{own:List Addr}{s:Shared}(hs:HS c H own s){a:Addr}(e:s.heap.get? a=none):H a=none :=
 hs.rep.none_of (λb o q=>hs.stay b o (hs.rootIn b o q)) e
theorem HS.lowAt{c:Cx}{H:MH}{own:List Addr}{s:Shared}(hs:HS c H own s):sysModules<s.heap.objs.size:=by
 show oE hs.low λo e=>?_;show uG (show sysModules<cStatics by decide) (bE (hs.stay _ _ e))
theorem HS.ext{c:Cx}{H:MH}{own:List Addr}{s s':Shared}(hs:HS c H own s)(ext:∀ b ob,s.heap.get? b=some ob->s'.heap.get? b=some ob)(hg:s'.gens=s.gens:=by rfl)(ho:s'.os=s.os:=by rfl):HS c H own s' :=
 ⟨hs.rep.ext ext,λb o e=>ext _ _ (hs.stay b o e),hs.rootIn,hs.low,by show bj hs.lives λo e f=>?_;show ⟨o,ext _ _ e,f⟩,hs.apart,hg.trans hs.gens,ho.trans hs.os⟩
theorem Step.ext{z:Bool}{own:List Addr}{h h':Heap}(ext:∀ b ob,h.get? b=some ob->h'.get? b=some ob):Step z own own h h':=⟨λb o e _=>ext b o e,λ_ m=>.inl m,λ_ m=>m⟩
theorem dG{h:Heap}{a:Addr}(e:h.objs.size<=a):h.get? a=none:=by
 cases q:h.get? a with
 |none=>rfl
 |some o=>show absurd (bE q) (zW.mpr e)
theorem HS.new{c:Cx}{H:MH}{own:List Addr}{s s':Shared}{a:Addr}{o:d6}(hs:HS c H own s)(hn:s.heap.get? a=none)(lo:sysModules<a)(ext:∀ b ob,s.heap.get? b=some ob->s'.heap.get? b=some ob)
  (ni:∀ c l,o≠.inst c l) (ho:OR c.P c.root (a::own) (upd H a o) s'.heap a o) (hh:(s'.heap.get? a).isSome=true) (hg:s'.gens=s.gens:=by rfl) (pB:s'.os=s.os:=by rfl) :
  H a=none/\HS c (upd H a o) (a::own) s'/\Step c.fz own (a::own) s.heap s'.heap:=by
 have Ff:c.root.StaysIn s.heap:=λb o q=>hs.stay b o (hs.rootIn b o q);have n0:c.h₀.get? a=none:=by
  cases q:c.h₀.get? a with
  |none=>rfl
  |some o=>have:=hs.stay _ _ q;rw[hn] at this;show cz this
 have nr:c.root.get? a=none:=by
  cases q:c.root.get? a with
  |none=>rfl
  |some o=>have:=Ff _ _ q;rw[hn] at this;show cz this
 have E:=hs.ext ext hg pB;show ⟨hs.none_of hn,⟨Rep.new Ff hs.rep hn ext ni rfl lo ho nr hh,E.stay,E.rootIn,E.low,E.lives,λb m=>?_,E.gens,E.os⟩,⟨λb o e _=>ext b o e,λb m=>?_,λb m=>wA _ m⟩⟩
 .clear lo ho hh nr;rcases ag.mp m with rfl|m
  .show ⟨n0,?_⟩;clear n0 m;rintro rfl;show bj hs.lives λ_ this _=>?_;rw[hn] at this;show cz this
  .show hs.apart b m
 .clear n0;rcases ag.mp m with rfl|m
  .show .inr hn
  .show .inl m
theorem ba.new{c:Cx}{H:MH}{own:List Addr}{s s':Shared}{a:Addr}{o:d6}{Q:PQ}(hs:HS c H own s)(w:alloc o H Q)(hn:s.heap.get? a=none)(lo:sysModules<a)(ext:∀ b ob,s.heap.get? b=some ob->s'.heap.get? b=some ob)
  (ni:∀ c l,o≠.inst c l) (ho:OR c.P c.root (a::own) (upd H a o) s'.heap a o) (hh:(s'.heap.get? a).isSome=true) (hg:s'.gens=s.gens:=by rfl) (pB:s'.os=s.os:=by rfl) :
  ba c own s.heap Q (.ref a) s':=by
 show mf (hs.new hn lo ext ni ho hh hg pB) λx1 x2 x3=>?_;show ⟨.ref a,_,_,rfl,x2,x3,w a x1⟩
theorem ba.list{c:Cx}{H:MH}{own:List Addr}{s s':Shared}{xs:List Value}{vs:List Val}{Q:PQ}(hs:HS c H own s)(w:alloc (.list vs) H Q)(v:Vs xs vs)(he:s'.heap=s.heap.push (rz xs 0))(hg:s'.gens=s.gens:=by rfl)(pB:s'.os=s.os:=by rfl) :
  ba c own s.heap Q (.ref s.heap.objs.size) s':=by
 have hq:s'.heap.get? s.heap.objs.size=some (rz xs 0):=by rw[he];show aS _ rfl
 show ba.new hs w (dG (aT _)) hs.lowAt (λb ob e=>by rw[he];show aC _ e) (λ_ _=>by simp) ⟨.head _,xs,0,hq,v⟩ (by rw[hq];rfl) hg pB
theorem ba.tup{c:Cx}{H:MH}{own:List Addr}{s s':Shared}{xs:List Value}{vs:List Val}{Q:PQ}(hs:HS c H own s)(w:alloc (.tup vs) H Q)(v:Vs xs vs)(he:s'.heap=s.heap.push (P2 xs 0))(hg:s'.gens=s.gens:=by rfl)(pB:s'.os=s.os:=by rfl) :
  ba c own s.heap Q (.ref s.heap.objs.size) s':=by
 have hq:s'.heap.get? s.heap.objs.size=some (P2 xs 0):=by rw[he];show aS _ rfl
 show ba.new hs w (dG (aT _)) hs.lowAt (λb ob e=>by rw[he];show aC _ e) (λ_ _=>by simp) ⟨.head _,xs,0,hq,v⟩ (by rw[hq];rfl) hg pB
theorem ba.same{c:Cx}{H:MH}{own:List Addr}{s s':Shared}{v:Val}{cv:Value}{Q:PQ}(hs:HS c H own s)(w:Q v H)(hv:c9 cv=some v)(he:s'.heap=s.heap:=by rfl)(hg:s'.gens=s.gens:=by rfl)(pB:s'.os=s.os:=by rfl) :
  ba c own s.heap Q cv s' :=
 ⟨v,H,own,hv,hs.ext (λb ob e=>by rw[he];show e) hg pB,by rw[he];show .refl,w⟩
noncomputable def Ll:Bop->Operator
 |.add=>.Add | .sub=>.Sub | .mul=>.Mult | .fdiv=>.FloorDiv | .mod=>.Mod
noncomputable def uR:Cop->CmpOp
 |.eq=>.Eq | .ne=>.NotEq | .lt=>.Lt | .le=>.LtE | .gt=>.Gt | .ge=>.GtE | .isin=>.In | .notin=>.NotIn
section
variable {a:Val} {x:Value} {k:Int->Prop} {kr:Nat->Prop} {z:Prop} {C:Value->Prop} {vs:List Val} {cs:List Value} {L:List Value->Prop}
@[elab_as_elim] theorem Dc(w:(iv a).elim z k)(hx:c9 x=some a)(f:∀ i t,k i->C (.int i t))(g:z->C x):C x:=Fz w (λi e w=>by
 have e:=GC e
 clear g
 subst e
 (show oE (kW hx) λt aG=>?_;clear hx;subst aG)
 show f i t w) g
@[elab_as_elim] theorem fh(w:(iv a).elim False k)(hx:c9 x=some a)(f:∀ i t,k i->C (.int i t)):C x:=Dc w hx f pO
@[elab_as_elim] theorem fJ(w:(rf a).elim False kr)(hx:c9 x=some a)(f:∀ p,kr p->C (.ref p)):C x:=hJ w λi e w=>by
 rw[fM (hx.trans (congrArg some (xY e)))];show f i w
@[elab_as_elim] theorem i6{k:Val->Prop}(w:(one vs).elim False k)(v:Vs cs vs)(f:∀ x a,c9 x=some a->k a->L [x]):L cs:=by
 cases vs with
 |nil=>show w.elim
 |cons a r=>cases r with
  |nil=>(show dR v.of_cons λx r aG hx hr=>?_;clear v;subst aG);(have q:=hr.of_nil);clear hr;subst q;show f x a hx w
  |cons=>show w.elim
@[elab_as_elim] theorem zF{k:Val×Val->Prop}(w:(two vs).elim False k)(v:Vs cs vs)(f:∀ x y a b,c9 x=some a->c9 y=some b->k (a,b)->L [x,y]):L cs:=by
 cases vs with
 |nil=>show w.elim
 |cons a r=>
  (show dR v.of_cons λx cs aG hx hr=>?_;clear v;subst aG);cases r with
  |nil=>show w.elim
  |cons b r=>cases r with
   |nil=>(show dR hr.of_cons λy r aG hy tv=>?_;clear hr;subst aG);(have q:=tv.of_nil);clear tv;subst q;show f x y a b hx hy w
   |cons=>show w.elim
end
theorem AS{x y:Int}(h:small x):IntMulOk x y:=by
 unfold small big at h;show IntMulOk.of_left (intBits_le_64 ?_ ?_)
 .show li 0x101ffb7300c71906bca9c065018d3a001 rfl h
 .show li 0x443fedcd1806bca9c065018d3a001 rfl h
theorem jl:lim<=sizeLine:=by unfold lim;rw[jH];show li 137340101632 rfl
section
variable {c:Cx} {H:MH} {own:List Addr} {s:Shared} {E':Value->Shared->Prop} {Q:PQ}
theorem HS.list{a:Addr}{vs:List Val}(hs:HS c H own s)(e:H a=some (.list vs)):a∈own/\∃ xs n,s.heap.get? a=some (rz xs n)/\Vs xs vs:=hs.rep.obj _ _ e
theorem gY{h:Heap}{a:Addr}{xs:List Value}{n:Nat}(e:h.get? a=some (rz xs n)):IsL h a xs.toArray n:=e
theorem bh{h:Heap}{a:Addr}{xs:List Value}{n:Nat}(e:h.get? a=some (rz xs n)):h.IsList a xs.toArray:=⟨_,e,rfl,n,rfl⟩
theorem md{a:Addr}(hs:HS c H own s)(m:a∈own):(a==sysModules)=false:=by
 have:=(hs.rep.here a m).2;show beq_eq_false_iff_ne.mpr λe=>absurd this (by rw[e];show mA _)
theorem foldl_rep(x:Value):∀ n:Nat,∀ acc:Array Value,List.foldl (λx1 x2=>x1++x2) acc (bf n #[x])=acc++(bf n x).toArray:=by
 intro n;induction n with
 |zero=>
  intro acc;show rfl
 |succ n ih=>
  intro acc;rw[gU,List.foldl_cons,ih];apply wK;simp[gU]
theorem KZ{p:Addr}{n k:Nat}{i:Int}{t:Tok}{x:Value}(hp:s.heap.get? p=some (rz [x] k))(hn:i<=lim)(h0:0<=i)(h:∀ s',s'.heap=s.heap.push (rz (bf i.toNat x) 0)->s'.gens=s.gens->s'.os=s.os->ba c own s.heap Q (.ref s.heap.objs.size) s') :
  wpAny c.M c.A (binaryOp .Mult (.ref p) (.int i t)) (ba c own s.heap Q) E' s:=by
 have hl:s.heap.get? p=some { cls:=.type "list",dict:=none,data:=.seq #[x] k,slots:=#[] }:=hp;unfold lim at hn;have tooLong:¬ gQ (#[x].size*i.toNat)=true:=by simp[gQ,sizeLine];show li 0x47fedcadc065c89100001 rfl hn
 have fits:¬ (!gj i)=true:=by simp[gj];show li 0x101110ffb76ebcce8065018dd20ca01065c89100001 rfl hn h0
 show wpAny_binaryOp_repeat_ref (T := "list") (U := "int") (rfl) ⟨_,hl,rfl⟩ (λs'=>typeIs_int s' i t) noFill_list_mul F.fills_int_mul F.slot_int_rmul repeat_list F.slot_int_index.lookup ?_;show fV F.slot_int_rmul (typeIs_int s i t) F.entry_int_rmul (F.args_int_rmul_2 _ _) (int___rmul___int_list i t p #[x] k) ⟨hl,rfl,⟨_,hl,rfl⟩,?_⟩;show fV F.slot_list_mul ⟨_,hl,rfl⟩ F.entry_list_mul (F.args_list_mul_2 _ _) (AutoListH.list___mul___list_int_3 p #[x] k i t fits (by simp;show li 0x47fedcb10065c89100001 rfl hn) tooLong) ⟨hl,?_⟩;show h _ ?_ rfl rfl;have:(#[x].isEmpty)=false:=rfl;simp only[this,rz];rw[foldl_rep];simp
theorem BJ{op:Operator}{o:Bop}{x y:Value}{a b:Val}(ho:Ll o=op)(hs:HS c H own s)(hx:c9 x=some a)(hy:c9 y=some b)(w:binop o a b H Q) :
  wpAny c.M c.A (binaryOp op x y) (ba c own s.heap Q) E' s:=by
 subst ho;induction o with
 |add=>
  change wpAny _ _ (binaryOp .Add x y) _ _ _;show Dc w hx (λi t w=>?_) λw=>?_
  .show fh w hy λj u w=>?_;with_reducible show PyProof.Rows.add_int (ba.same hs w rfl)
  .show fJ w hx λp w=>?_;show fJ w hy λq w=>?_;show mY w λvs ep w=>?_;show mY w λws eq w=>?_;show bU (hs.list ep) λm1 xs n e1 v1=>?_;show bU (hs.list eq) λm2 ys n2 e2 v2=>?_;show P.add_list (gY e1) (gY e2) ?_ (by simp only[bL,v1.length,v2.length];show aR w.1 jl);show ba.list hs w.2 (v1.append v2) (by simp[rz])
 |sub=>
  change wpAny _ _ (binaryOp .Sub x y) _ _ _;show fh w hx λi t w=>?_;show fh w hy λj u w=>?_;with_reducible show PyProof.Rows.sub_int (ba.same hs w rfl)
 |mul=>
  change wpAny _ _ (binaryOp .Mult x y) _ _ _;show fh w hy λj u w=>?_;show Dc w hx (λi t w=>?_) λw=>?_
  .with_reducible show PyProof.Rows.mul_int (ba.same hs w.2.2 rfl) (AS w.1)
  .show fJ w hx λp w=>?_;show mY w λvs ep w=>?_;show bU (hs.list ep) λm1 xs n e1 v1=>?_;revert e1;show i6 w v1 λx a hv w e1=>?_;show KZ (n:=0) e1 w.1.2 w.1.1 λs' h1 h2 h3=>ba.list hs w.2 (Vs.replicate hv _) h1 h2 h3
 |fdiv=>
  change wpAny _ _ (binaryOp .FloorDiv x y) _ _ _;show fh w hx λi t w=>?_;show fh w hy λj u w=>?_;with_reducible show PyProof.Rows.floordiv_int w.1 (ba.same hs w.2.2 rfl) (.inl (PyProof.noPylong_small (uG w.2.1 (by lia))))
 |mod=>
  change wpAny _ _ (binaryOp .Mod x y) _ _ _;show fh w hx λi t w=>?_;show fh w hy λj u w=>?_;with_reducible show PyProof.Rows.mod_int w.1 (ba.same hs w.2 rfl)
theorem Vs.intsAre{xs:List Value}{vs:List Val}{l:List Int}(v:Vs xs vs)(e:gC vs=some l):IntsAre xs l:=by
 induction vs generalizing xs l with
 |nil=>have:=v.of_nil;clear v;subst this;cases e;show .nil
 |cons a r ih=>
  (show dR v.of_cons λx ys aG hx hr=>?_;clear v;subst aG);show bj (gx (show ((iv a).bind λi=>(gC r).bind λl=>some (i::l))=some l from e)) λi e1 e=>?_;show bj (gx e) λk q e=>?_;cases e;rw[GC e1] at hx;(show oE (kW hx) λt aG=>?_;clear hx;subst aG);show .cons _ _ (ih hr q)
theorem sf{p q:Nat}{vs ws:List Val}{R:Bool->Prop}(hu:c.A.units<=9000)(hs:HS c H own s)(ep:H p=some (.list vs))(eq:H q=some (.list ws))(w:og vs ws R){Qc:Value->Shared->Prop} :
  ((∀ b,R b->Qc (.bool b) s)->wpAny c.M c.A (compareOp .Eq (.ref p) (.ref q)) Qc E' s)/\((∀ b,R b->Qc (.bool (!b)) s)->wpAny c.M c.A (compareOp .NotEq (.ref p) (.ref q)) Qc E' s):=by
 show bU (hs.list ep) λm1 xs n e1 v1=>?_;show bU (hs.list eq) λm2 ys n2 e2 v2=>?_;have hc:=cLine_is;unfold og at w;split at w
 .rename_i hl
  .show hJ w λl h1 w=>?_;show hJ w λk h2 w=>?_;show ⟨λk=>PySem.W.ke_eq_ints (bh e1) (bh e2) (v1.intsAre h1) (v2.intsAre h2) (li 0x4407feddba41e0600753907a168120 rfl hu hc) (k _ w),λk=>PySem.W.ke_ne_ints (bh e1) (bh e2) (v1.intsAre h1) (v2.intsAre h2) (li 0x4407feddba41e0600753907a168120 rfl hu hc) (k _ w)⟩
 .rename_i hl;have cV:(xs.toArray.size !=ys.toArray.size)=true:=by
   rw[bL,bL,v1.length,v2.length];show bne_iff_ne.mpr hl
  show ⟨λk=>P.eq_list_lengths (gY e1) (gY e2) cV (li 0x1101ffb76e9060753907a168120 rfl hu hc) (k _ w),λk=>(Bo (bh e1) (bh e2) cV (li 0x1101ffb76e9060753907a168120 rfl hu hc)) _ _ _ _ (k _ w)⟩
theorem Deq.readsAll{h:Heap}{n:Nat}:∀ {as bs:List Val} {xs ys:List Value},Vs xs as->Vs ys bs->as.length=bs.length->
  (∀ (i:Nat) a b,as[i]?=some a->bs[i]?=some b->∀ {x y:Value},c9 x=some a->c9 y=some b->∃ d k m,Reads h x d k/\Reads h y d m/\d.canLay0=true/\d.depth<=n)->
  ∃ ds k m,ReadsAll h xs ds k/\ReadsAll h ys ds m/\wR ds=true/\oJ ds<=n:=by
 intro as;induction as with
 |nil=>
  intro bs xs ys v w hl _;have:=v.of_nil;clear v;subst this;cases bs with
  |nil=>have:=w.of_nil;clear w;subst this;show ⟨[],[],[],.nil,.nil,rfl,cB _⟩
  |cons=>cases hl
 |cons a as ih=>
  intro bs xs ys v w hl f;cases bs with
  |nil=>cases hl
  |cons b bs=>
   (show dR v.of_cons λx xs aG hx v'=>?_;clear v;subst aG);(show dR w.of_cons λy ys aG hy w'=>?_;clear w;subst aG);show cS (f 0 a b rfl rfl hx hy) λd k m r1 r2 r3 r4=>?_;show cS (ih v' w' (eM hl) λi a b ha hb=>f (i+1) a b ha hb) λds k' m' s1 s2 s3 s4=>?_;show ⟨d::ds,_,_,.cons r1 s1,.cons r2 s2,by rw[wR,r3,s3];rfl,by rw[oJ];show li 0x101001101010ffb76edd00c3ecd7a8087d0042ebd4143e80a074030ba018140 rfl r4 s4 (mxf d.depth (oJ ds))⟩
theorem Deq.reads{h:Heap}{root:Heap}{P:Pg}(R:Rep P root H own h){n:Nat}{a b:Val}(D:Deq H n a b):∀ {x y:Value},c9 x=some a->c9 y=some b->∃ d as bs,Reads h x d as/\Reads h y d bs/\d.canLay0=true/\d.depth<=n:=by
 induction D with
 |none=>intro x y hx hy;have:=ly hx;have:=ly hy;clear hx hy;subst_vars;show ⟨_,_,_,.none,.none,rfl,cB _⟩
 |bool=>intro x y hx hy;have:=lx hx;have:=lx hy;clear hx hy;subst_vars;show ⟨_,_,_,.bool _,.bool _,rfl,cB _⟩
 |int=>intro x y hx hy;(show oE (kW hx) λt aG=>?_;clear hx;subst aG);(show oE (kW hy) λu aG=>?_;clear hy;subst aG);show ⟨_,_,_,.int _ _,.int _ _,rfl,cB _⟩
 |tup e1 e2 hl _ ih=>
  intro x y hx hy;have:=fM hx;have:=fM hy;clear hx hy;subst_vars;show bU (R.obj _ _ e1) λm1 us n1 g1 v1=>?_;show bU (R.obj _ _ e2) λm2 ws n2 g2 v2=>?_;show cS (Deq.readsAll v1 v2 hl λi a b ha hb=>ih i a b ha hb) λds k m s1 s2 s3 s4=>?_;show ⟨.tuple ds,_,_,.tuple g1 rfl rfl s1,.tuple g2 rfl rfl s2,s3,by rw[PyData.depth];show li 0x11ffb7460420f02103a018120 rfl s4⟩
theorem mH{xs:List Value}{l:List Int}(I:IntsAre xs l)(k:Int):(xs.toArray.any λy=>match y with | .int i _=>i==k|_=>false)=l.contains k:=by
 rw[<-zO];change xs.any _=_;induction I with
 |nil=>rfl
 |cons n t _ ih=>rw[rP,ih,ym,Bool.beq_comm]
theorem IntsAre.mem{xs:List Value}{l:List Int}(I:IntsAre xs l):∀ y∈xs,∃ i t,y=.int i t:=by
 induction I with
 |nil=>intro y hy;show iF hy
 |cons n t _ ih=>intro y hy;show (ag.mp hy).elim (λz=>⟨_,_,z⟩) (ih y)
theorem iu{xs:List Value}{l:List Int}(I:IntsAre xs l)(k:Int)(t:Tok):∀ y,y∈xs.toArray->MeetsSeq.EqGives y (.int k t) (match y with | .int i _=>i==k|_=>false):=λy hy=>by
 (show wJ (IntsAre.mem I y (by simpa using hy)) λi u aG=>?_;clear hy;subst aG);show MeetsSeq.EqGives.int i k u t
theorem fg{kvs:List (Int×Value)}{es:List (Int×Val)}(e:kvs.map (λp=>(p.1,c9 p.2))=es.map (λp=>(p.1,some p.2)))(k:Int):(valueAt kvs k).isSome=(jy es).contains k/\(valueAt kvs k).map c9=(dget es k).map some:=by
 induction es generalizing kvs with
 |nil=>cases kvs with
  |nil=>show ⟨rfl,rfl⟩
  |cons=>cases e
 |cons p r ih=>
  cases kvs with
  |nil=>cases e
  |cons q t=>
   simp only[aq,iI,il] at e;(show oA e λaG e3=>?_;clear e;obtain ⟨e1,e2⟩:=aG);show oA (ih e3) λi1 i2=>?_;clear ih;obtain ⟨pk,pv⟩:=p;obtain ⟨qk,qv⟩:=q;simp only at e1 e2;subst e1;unfold valueAt at *
   by_cases h:qk=k
   .clear i1 i2;subst h;simp[jy,dget,e2]
   .have h':¬ k=qk:=λz=>h z.symm;simp only[gR,h,decide_false,dget,if_false];show ⟨?_,i2⟩;rw[i1];simp[jy,h']
theorem BR{op:CmpOp}{o:Cop}{x y:Value}{a b:Val}{R:Bool->Prop}{Qc:Value->Shared->Prop}(hu:c.A.units<=9000)(ho:uR o=op)(hs:HS c H own s)(hx:c9 x=some a)(hy:c9 y=some b)(w:gy o a b H R)
  (k:∀ b s',R b->s'.heap=s.heap->s'.gens=s.gens->s'.os=s.os->Qc (.bool b) s') :
  wpAny c.M c.A (compareOp op x y) Qc E' s:=by
 subst ho;induction o with
 |lt=>
  change wpAny _ _ (compareOp .Lt x y) _ _ _;show fh w hx λi t w=>?_;show fh w hy λj u w=>?_;with_reducible show PyProof.Rows.lt_int (k _ s w rfl rfl rfl)
 |le=>
  change wpAny _ _ (compareOp .LtE x y) _ _ _;show fh w hx λi t w=>?_;show fh w hy λj u w=>?_;with_reducible show PyProof.Rows.le_int (k _ s w rfl rfl rfl)
 |gt=>
  change wpAny _ _ (compareOp .Gt x y) _ _ _;show fh w hx λi t w=>?_;show fh w hy λj u w=>?_;with_reducible show PyProof.Rows.gt_int (k _ s w rfl rfl rfl)
 |ge=>
  change wpAny _ _ (compareOp .GtE x y) _ _ _;show fh w hx λi t w=>?_;show fh w hy λj u w=>?_;with_reducible show PyProof.Rows.ge_int (k _ s w rfl rfl rfl)
 |eq=>
  change wpAny _ _ (compareOp .Eq x y) _ _ _;show Dc w hx (λi t w=>?_) λw=>?_
  .show fh w hy λj u w=>?_;(with_reducible show PyProof.Rows.eq_int (k _ s ?_ rfl rfl rfl));show w
  .show fJ w hx λp w=>?_;show fJ w hy λq w=>?_;show mY w λxs e1 w=>?_;show mY w λys e2 w=>?_;show (sf hu hs e1 e2 w.2.2).1 λb h=>k _ _ h rfl rfl rfl
 |ne=>
  change wpAny _ _ (compareOp .NotEq x y) _ _ _;show Dc w hx (λi t w=>?_) λw=>?_
  .show fh w hy λj u w=>?_;(with_reducible show PyProof.Rows.ne_int (k _ s ?_ rfl rfl rfl));show w
  .show fJ w hx λp w=>?_;show fJ w hy λq w=>?_;show rA w (λxs e1 w=>?_) λw=>?_
   .show mY w λys e2 w=>?_;show (sf hu hs e1 e2 w.2.2).2 λb h=>k _ _ h rfl rfl rfl
   .show Hz w λ_ _ w=>?_;show Hz w λ_ _ w=>?_;show cS (w.1.reads hs.rep (x:=.ref p) (y:=.ref q) rfl rfl) λd as bs r1 r2 lay dep=>?_;have hc:=cLine_is;show PySem.SeqAt.compareNe_reads r1 r2 lay lay (li 0x4040404440404047feddbb76e90b80381d9af5030fa0183d7a8187d00c1ea721743d07a168140 rfl hu dep hc (sH d.depth d.depth)) ?_;rw[PySem.SeqAt.eqv_refl _ lay];show k _ _ w.2 rfl rfl rfl
 |isin=>
  change wpAny _ _ (compareOp .In x y) _ _ _;show fh w hx λi t w=>?_;show fJ w hy λq w=>?_;show rA w (λys e2 w=>?_) λw=>?_
  .show bU (hs.list e2) λm1 xs n e1 v1=>?_;show hJ w.2 λl hl w=>?_;have I:=v1.intsAre hl;with_reducible show PySem.SeqRoads2.in_list _ (iu I i t) (gY e1) (k _ _ (by rw[mH I];show w) rfl rfl rfl)
  .show uT w λes e2 w=>?_;show fm (hs.rep.obj _ _ e2) λm kvs hd he=>?_;show wpAny_in_of (knd:=intKind c.P.prog c.P.w) (k:=i) (by simp[intKind,gw]) (md hs m) hd.mapOf (k _ _ ?_ rfl rfl rfl);rw[(fg he i).1];show w
 |notin=>
  change wpAny _ _ (compareOp .NotIn x y) _ _ _;show fh w hx λi t w=>?_;show fJ w hy λq w=>?_;show rA w (λys e2 w=>?_) λw=>?_
  .show bU (hs.list e2) λm1 xs n e1 v1=>?_;show hJ w.2 λl hl w=>?_;have I:=v1.intsAre hl;with_reducible show PySem.SeqRoads2.notIn_list _ (iu I i t) (gY e1) (k _ _ (by rw[mH I];show w) rfl rfl rfl)
  .show uT w λes e2 w=>?_;show fm (hs.rep.obj _ _ e2) λm kvs hd he=>?_;show wpAny_notIn_of (knd:=intKind c.P.prog c.P.w) (k:=i) (by simp[intKind,gw]) (md hs m) hd.mapOf (k _ _ ?_ rfl rfl rfl);rw[(fg he i).1];show w
end
theorem rI(e:Expr){o i:Value}{P:Sem Value->Prop}(h:P (operate [i,o] (getItem o i)))(k:P (operate [o,i] (getItem o i))):P (subscripted e false o i):=by
 clear o i P _ h k;cases e with
 |Slice a b z=>cases z with
  |none=>show h
  |some=>show k
 |_=>show k
theorem pg(e:Expr)(o i:Value):∃ ops,subscripted e false o i=operate ops (getItem o i):=rI e (P:=λx=>∃ ops,x=operate ops (getItem o i)) ⟨_,rfl⟩ ⟨_,rfl⟩
theorem zB{prog:Program}{w:World}{A:Around}{E:Value->Shared->Prop}{s:Shared}{value slice:Expr}{o i:Value}{T id:String}{Q:Value->Shared->Prop}
  (hT:s.TypeIs o T) (hl:typeLookup (.type T) (jO "__getitem__")=pure (some (.builtin id))) (h:wpAny (model prog w) A (getItem o i) Q E s):wpAny (model prog w) A (subscriptTail value slice o i) Q E s:=by
 show oE (pg slice o i) λops e=>?_;show tail_any hT hl h e
section
variable {c:Cx} {H:MH} {own:List Addr} {s:Shared} {E':Value->Shared->Prop} {Q:PQ}
theorem GB{value slice:Expr}{x y:Value}{a b:Val}(hs:HS c H own s)(hx:c9 x=some a)(hy:c9 y=some b)(w:item a b H Q) :
  wpAny c.M c.A (subscriptTail value slice x y) (ba c own s.heap Q) E' s:=by
 clear c H own s E' Q value slice x y a b _ hs hx hy w;show fJ w hx λp w=>?_;show fh w hy λi t w=>?_;show rA w (λvs ep w=>?_) λw=>?_
 .show bU (hs.list ep) λm xs n e1 v1=>?_;show mf w λh0 hl w=>?_;show hJ w λv hv w=>?_;show bj (v1.get hv) λz hz cC=>?_;unfold lim at hl;show zB (bh e1).typeIs slot_list_getitem.lookup (wpAny_getItem_list (bh e1) h0 (li 0x47fedcce8066c89100001 rfl hl) (by simpa using hz) (ba.same hs w cC))
 .show P' w (λvs ep w=>?_) λw=>?_
  .show bU (hs.rep.obj _ _ ep) λm xs n e1 v1=>?_;show mf w λh0 hl w=>?_;show hJ w λv hv w=>?_;show bj (v1.get hv) λz hz cC=>?_;unfold lim at hl;have ht:IsT s.heap p xs.toArray n:=e1;have iL:i.toNat<xs.length:=(ao.mp hz).1;show zB ⟨_,e1,rfl⟩ F.slot_tuple_getitem.lookup (P.getItem_tuple ht (li 0x47fedca031ba419402001 rfl h0) (li 0x47fedcce8066c89100001 rfl hl) (seqIndex_of h0 (by simp;show li 0x1001111001ffb76e6060366bd4800e540035e7000728041a418121 rfl iL (pL i))) (by simpa using hz) (ba.same hs w cC))
  .show uT w λes ep w=>?_;show fm (hs.rep.obj _ _ ep) λm kvs hd he=>?_;show hJ w λv hv w=>?_;have f:=(fg he i).2;rw[hv] at f;show bj (aV.mp f) λz hz cC=>?_;show zB hd.mapOf.typeIs slot_dict_getitem.lookup (wpAny_getItem_of (knd:=intKind c.P.prog c.P.w) (k:=i) (by simp[intKind,gw]) hd.mapOf hz (ba.same hs w cC))
theorem nk{value:Expr}{lo hi:Option Int}{st:Option Int}{slice:Expr}{p:Nat}{vl vu vk:Value}{xs zs:List Value}{vs:List Val}{s':Shared}(hs:HS c H own s)(e1:s.heap.IsList p xs.toArray)(hz:xs.length<=2*lim)
  (he:s'.heap=s.heap.push { cls:=.type "slice",data:=.fields #[vl,vu,vk] }) (hg:s'.gens=s.gens) (ho:s'.os=s.os) (pl:IsPart vl lo) (pu:IsPart vu hi) (pk:IsPart vk st) (h0:st≠some 0) (e:(slicePick xs.toArray lo hi st)=zs.toArray)
  (v:Vs zs vs) (w:alloc (.list vs) H Q):wpAny c.M c.A (subscriptTail value slice (.ref p) (.ref s.heap.objs.size)) (ba c own s.heap Q) E' s':=by
 have ext:∀ b ob,s.heap.get? b=some ob->s'.heap.get? b=some ob:=λb ob z=>by rw[he];show aC _ z
 have hl:s'.heap.IsList p xs.toArray:=let ⟨o,q,r⟩:=e1;⟨o,ext _ _ q,r⟩
 show zB hl.typeIs slot_list_getitem.lookup (wpAny_getItem_list_slice hl (by rw[he];show Heap.IsSliceOf.new _ _ _ _) pl pu pk h0 ?_ (by rw[bL,jH];unfold lim at hz;show li 0x47fedd0dc0e8c29118110 rfl hz));rw[e];have ip:HS c H own s':=hs.ext ext hg ho;show ba.step (Step.ext ext) (ba.list ip w v rfl)
theorem Rep.mod{P:Pg}{root h h':Heap}{a:Addr}{o o':d6}(Ff:root.StaysIn h)(R:Rep P root H own h)(ha:H a=some o)(m:a∈own)(ni:∀ c l,o≠.inst c l)(Pt:∀ c l,o'≠.inst c l)
  (keep:∀ b,b≠a->h'.get? b=h.get? b) (hh:(h'.get? a).isSome=true) (ho:OR P root own (upd H a o') h' a o'):Rep P root (upd H a o') own h':=by
 clear H own P root h h' a o o' _ Ff R ha m ni Pt keep hh ho;have nd:∀ b c l C dx,H b=some (.inst c l)->h.get? b=some (instObj C dx)->dx≠a:=λb c l C dx hb e=>by
  clear m keep hh ho;rintro rfl;show dt (R.obj b _ hb) λ_ Jw es n x1 x2 x3 x4 _=>?_;rw[e] at x3;have y:dx=Jw:=by injection x3 with z;injection z with _ z;injection z
  clear x1 x3 x4;subst y;rw[ha] at x2;show fB x2
 show ⟨λb ob e=>?_,λb1 b2 c l c' l' C C' dx e1 e2 g1 g2=>?_,λb mb=>?_⟩
 .by_cases q:b=a
  .clear ha nd;subst q;have:o'=ob:=by simpa [upd] using e
   clear e;subst this;show ho
  .have e':H b=some ob:=by simpa [upd,q] using e
   have R0:=R.obj b ob e';have:OR P root own H h' b ob:=by
    clear e;cases ob with
    |list vs=>(show bU R0 λm xs n g v=>?_;clear R0);show ⟨m,xs,n,(keep b q).trans g,v⟩
    |ro vs=>show R0
    |tup vs=>(show bU R0 λm xs n g v=>?_;clear R0);show ⟨m,xs,n,(keep b q).trans g,v⟩
    |dict es=>(show fm R0 λm kvs aG v=>?_;clear R0;obtain ⟨ob,rv,ep,g,r⟩:=aG);show ⟨m,kvs,⟨ob,rv,ep,(keep b q).trans g,r⟩,v⟩
    |inst c l=>
     (show dt R0 λm dx es n x1 x2 x3 x4 x5=>?_;clear R0);show ⟨m,dx,es,n,x1,x2,(keep b q).trans x3,(keep dx (nd b c l _ dx e' x3)).trans x4,x5⟩
   show OR.updH (λc l dx C eo eg=>?_) this;clear R0 this;subst eo;show nd b c l C dx e' ((keep b q)▸eg)
 .have k1:b1≠a/\H b1=some (.inst c l):=by
   by_cases q:b1=a
   .show absurd (by simpa [upd,q] using e1) (Pt c l)
   .show ⟨q,by simpa [upd,q] using e1⟩
  have k2:b2≠a/\H b2=some (.inst c' l'):=by
   by_cases q:b2=a
   .show absurd (by simpa [upd,q] using e2) (Pt c' l')
   .show ⟨q,by simpa [upd,q] using e2⟩
  show R.inj b1 b2 c l c' l' C C' dx k1.2 k2.2 ((keep b1 k1.1)▸g1) ((keep b2 k2.1)▸g2)
 .by_cases q:b=a
  .subst q;show ⟨hh,(R.here b mb).2⟩
  .rw[keep b q];show R.here b mb
theorem HS.mod{s':Shared}{a:Addr}{o o':d6}(fz:c.fz=false)(hs:HS c H own s)(ha:H a=some o)(m:a∈own)(ni:∀ c l,o≠.inst c l)(Pt:∀ c l,o'≠.inst c l)
  (keep:∀ b,b≠a->s'.heap.get? b=s.heap.get? b) (hh:(s'.heap.get? a).isSome=true) (ho:OR c.P c.root own (upd H a o') s'.heap a o') (hg:s'.gens=s.gens:=by rfl) (pB:s'.os=s.os:=by rfl) :
  HS c (upd H a o') own s'/\Step c.fz own own s.heap s'.heap:=by
 have n0:=(hs.apart a m).1;show ⟨⟨hs.rep.mod (λb o q=>hs.stay b o (hs.rootIn b o q)) ha m ni Pt keep hh ho,λb ob e=>?_,hs.rootIn,hs.low,?_,hs.apart,hg.trans hs.gens,pB.trans hs.os⟩,⟨λb ob e n=>?_,λb m=>.inl m,λb m=>m⟩⟩
 .rw[keep b λz=>by rw[z,n0] at e;show cz e];show hs.stay b ob e
 .show bj hs.lives λo e f=>?_;show ⟨o,(keep _ λz=>(hs.apart a m).2 z.symm).trans e,f⟩
 .rw[keep b λz=>(n.elim (· (z▸m)) λq=>by rw[fz] at q;show ft q)];show e
noncomputable abbrev HT (c:Cx) (own:List Addr) (h:Heap) (Q:MH->Prop) (s':Shared):Prop:=∃ H' own',HS c H' own' s'/\Step c.fz own own' h s'.heap/\Q H'
theorem C9{kvs:List (Int×Value)}{es:List (Int×Val)}(e:kvs.map (λp=>(p.1,c9 p.2))=es.map (λp=>(p.1,some p.2)))(k:Int){v:Val}{x:Value}(hv:c9 x=some v)(hn:(kvs.map (·.1)).Nodup) :
  (stored kvs k x).map (λp=>(p.1,c9 p.2))=(dput es k v).map (λp=>(p.1,some p.2)):=by
 induction es generalizing kvs with
 |nil=>clear hn;cases kvs with
  |nil=>simp[stored,dput,hv]
  |cons=>cases e
 |cons p r ih=>
  cases kvs with
  |nil=>cases e
  |cons q t=>
   simp only[aq,iI,il] at e;(show oA e λaG e3=>?_;clear e;obtain ⟨e1,e2⟩:=aG);obtain ⟨pk,pv⟩:=p;obtain ⟨qk,qv⟩:=q;simp only at e1 e2;subst e1;have Iq:=aQ.mp hn;have i:=ih (kvs:=t) e3 Iq.2;by_cases h:qk=k
   .clear ih i;subst h;have:(stored ((qk,qv)::t) qk x)=(qk,x)::t:=by
     unfold stored;rw[if_pos (by simp),aq,if_pos rfl,map_store_of_not_mem t qk x Iq.1]
    rw[this];simp[dput,hv,e3]
   .unfold stored at *
    simp only[rP,h,decide_false,Bool.false_or,aq,if_false,dput];by_cases h2:(t.any λkv=>decide (kv.1=k))=true
    .rw[if_pos h2] at i ⊢;simp only[aq,e2,i]
    .rw[if_neg h2] at i ⊢;simp only[dW,aq,e2,i]
theorem rF{prog:Program}{w:World}{A:Around}{l:Addr}{items:Array Value}{n:Nat}{k:Int}{t:Tok}{v:Value}{Q:Unit->Shared->Prop}(hl:IsL s.heap l items n)
  (h0:0<=k) (hn:k<items.size) (J':k<2 ^ 63) (hQ:Q () { s with heap:=s.heap.update l (jN (·.setIfInBounds k.toNat v)) }):wpAny (model prog w) A (setItem (.ref l) (.int k t) v) Q E' s:=by
 clear s E' prog w A l items n k t v Q _ hl h0 hn J' hQ;have hT:s.TypeIs (.ref l) "list":=⟨_,hl,rfl⟩
 have Ij:=fitsIndex_of h0 J';clear J';unfold setItem;try with_reducible show cZ ?_
 first|show ah (aK ?_)|skip
 show ah (wpAny_sequenceKey hT (rfl) ?_);show ah ?_;show zJ (name:=jO "__setitem__") hT slot_list_setitem ?_;show rJ slot_list_setitem hT entry_list_setitem ?_ (args_list_setitem _ _ _);change wpAny _ _ (Builtin.List.listSubscript? (.int k t) >>= _) _ _ s;show ah (wpAny_listSubscript_int Ij ?_);clear Ij;(show oE (fE h0) λj aG=>?_;clear h0;subst aG);have hj:j<items.size:=li 0x11ffb7483039818120 rfl hn;change wpAny _ _ ((seqItemAt l j >>= λr=>pure (r.map (j,·))) >>= _) _ _ s;show ah (ah (wpAny_seqItemAt hl rfl (aK ?_)));rw[cM hj];change wpAny _ _ (setSeqItemAt l j v >>= _) _ _ s;show ah (wpAny_setSeqItemAt hl rfl ?_);first
  |show ah (aK (aK ⟨.none,rfl,aK hQ⟩))
  |show aK ⟨.none,rfl,aK hQ⟩
theorem HS.modL{a:Addr}{xs ys:List Value}{vs ws:List Val}{n:Nat}{f:Array Value->Array Value}{h':Heap}{tk:Nat}(fz:c.fz=false)(hs:HS c H own s)(ha:H a=some (.list vs))(m:a∈own)(e:s.heap.get? a=some (rz xs n))(hf:f xs.toArray=ys.toArray)(v:Vs ys ws)
  (he:h'=s.heap.update a (jN f)) :
  HS c (upd H a (.list ws)) own { s with heap:=h',toks:=tk }/\Step c.fz own own s.heap h':=by
 have u:=IsL.update (gY e) f;rw[hf,<-he] at u;have u':∃ n',h'.get? a=some (rz ys n'):=⟨_,u⟩
 obtain ⟨n',u'⟩:=u';show HS.mod fz (s':={ s with heap:=h',toks:=tk }) (o':=.list ws) hs ha m (λ_ _=>by simp) (λ_ _=>by simp) (λb hb=>by rw[he];show cp _ _ (fW hb)) (by change (h'.get? a).isSome=true;rw[u'];rfl) ⟨m,ys,n',u',v⟩
theorem y3{x y z:Value}{a b v:Val}{R:MH->Prop}(fz:c.fz=false)(hs:HS c H own s)(hx:c9 x=some a)(hy:c9 y=some b)(hz:c9 z=some v)(w:lp a b v H R) :
  wpAny c.M c.A (setItem x y z) (λ_ s'=>HT c own s.heap R s') E' s:=by
 clear c H own s E' x y z a b v R _ fz hs hx hy hz w;show fJ w hx λp w=>?_;show fh w hy λi t w=>?_;show rA w (λvs ep w=>?_) λw=>?_
 .show bU (hs.list ep) λm xs n e1 v1=>?_;show gM w λh0 hl xy w=>?_;unfold lim at xy;have qi:xs.length=vs.length:=v1.length;show rF (gY e1) h0 (by simp;show li 0x1110ffb76e6020330301a818121 rfl qi hl) (li 0x111ffb76e6740330101a120111 rfl xy hl) ?_;show oA (HS.modL fz hs (ys:=xs.set i.toNat z) (f:=(·.setIfInBounds i.toNat z)) (tk:=s.toks) ep m e1 (by simp) (v1.set i.toNat hz) rfl) λq1 q2=>?_;show ⟨_,_,q1,q2,w⟩
 .show uT w λes ep w=>?_;show fm (hs.rep.obj _ _ ep) λm kvs hd he=>?_;have hkl:kvs.length=es.length:=by simpa using congrArg cg he
  show wpAny_setItem_pairs (knd:=intKind c.P.prog c.P.w) (k:=i) (by simp[intKind,gw]) hd (λh' iB Az=>?_) (by rw[hkl];show aR w.1 jl);show oA (HS.mod fz hs (s':={ s with heap:=h',toks:=s.toks+1 }) (o':=.dict (dput es i v)) ep m (λ_ _=>by simp) (λ_ _=>by simp) (λb hb=>Az.2 b hb) (by (show DF iB λo rv VN g _=>?_;clear iB);change (h'.get? p).isSome=true;rw[g];rfl) ⟨m,_,iB,C9 he i hz (by (show AI hd λ_ _ _ _ _ _ _ _ hn=>?_;clear hd);show hn)⟩) λq1 q2=>?_;show ⟨_,_,q1,q2,w.2⟩
end
noncomputable def attrOk(K:Frag)(C:Addr)(name:Str):Bool :=
 plainGet K C name&&hasDictIn K C&&(findIn K (.ref C) name==some none)&&plainOver K C&&(takerIn K C name==some none)&&(findIn K (.ref C) "__setattr__" == some (some (.builtin "object.__setattr__")))
theorem fP.nil:∀ names:List Str,fP names [] []
 |[]=>trivial
 |_::_=>trivial
theorem fP.ind{M:List Str->List DictEntry->List Val->Prop}(h0:∀ n,M n [] [])(h1:∀ n names e es w l,(∃ t,e.key=.str n t)->c9 e.val=some w->fP names es l->M names es l->M (n::names) (e::es) (w::l)){names:List Str}:∀ {es l},fP names es l->M names es l:=by
 induction names with
 |nil=>
  intro es l f;cases es with
  |nil=>cases l with
   |nil=>show h0 _
   |cons=>show f.elim
  |cons=>cases l<;>show f.elim
 |cons n names ih=>
  intro es l f;cases es with
  |nil=>cases l with
   |nil=>show h0 _
   |cons=>show f.elim
  |cons e es=>cases l with
   |nil=>show f.elim
   |cons w l=>show h1 n names e es w l f.1 f.2.1 f.2.2 (ih f.2.2)
theorem fP.get{names:List Str}{es:List DictEntry}{l:List Val}(f:fP names es l):names.Nodup->∀ {k:Nat} {x:Str} {v:Val},names[k]?=some x->l[k]?=some v->∃ cv,getL x es=some (some cv)/\c9 cv=some v:=by
 show fP.ind (M:=λnames es l=>names.Nodup->∀ {k:Nat} {x:Str} {v:Val},names[k]?=some x->l[k]?=some v->∃ cv,getL x es=some (some cv)/\c9 cv=some v) (λ_ _ k x v h1 h2=>cz h2) (λn names e es w l aG hv f ih nd k x v h1 h2=>?_) f;show oE aG λt ht=>?_;clear aG f;show oA (aQ.mp nd) λV5 V6=>?_;clear nd;cases k with
 |zero=>
  cases h1;cases h2;show ⟨e.val,by unfold getL;rw[gR,ht];simp[ke],hv⟩
 |succ k=>
  show bj (ih V6 h1 h2) λcv g gv=>?_;show ⟨cv,?_,gv⟩;have cV:¬ n=x:=λz=>V5 (z▸aw h1);have Kn:e.key.isStr x=false:=by rw[ht];simp[ke,cV]
  unfold getL at *
  rw[gR,Kn];simp only;revert g;cases es.find? (λx_1=>x_1.key.isStr x) with
  |some y=>show id
  |none=>
   intro g;simp at g
theorem fP.len{names:List Str}{es:List DictEntry}{l:List Val}(f:fP names es l):es.length=l.length/\l.length<=names.length :=
 fP.ind (M:=λn e l=>e.length=l.length/\l.length<=n.length) (λ_=>⟨rfl,cB _⟩) (λ_ _ _ _ _ _ _ _ _ ih=>⟨congrArg Nat.succ ih.1,Nat.succ_le_succ ih.2⟩) f
theorem fP.noRef{names:List Str}{es:List DictEntry}{l:List Val}(f:fP names es l):es.any (·.refKey)=false :=
 fP.ind (M:=λ_ e _=>e.any (·.refKey)=false) (λ_=>rfl) (λn _ e es _ _ aG _ _ ih=>by
  show oE aG λt ht=>?_
  rw[rP,ih]
  simp[DictEntry.refKey,ht]) f
theorem fP.miss:∀ {names:List Str} {es:List DictEntry} {l:List Val},fP names es l->∀ {x:Str},(∀ k,k<l.length->names[k]?≠some x)->getL x es=some none:=by
 intro names es l f x h;have h1:es.find? (λe=>e.key.isStr x)=none:=by
  induction names generalizing es l with
  |nil=>clear h;cases es with
   |nil=>rfl
   |cons=>cases l<;>show f.elim
  |cons n names ih=>
   cases es with
   |nil=>rfl
   |cons e es=>
    cases l with
    |nil=>show f.elim
    |cons w l=>
     (show mf f λaG _ f=>?_;obtain ⟨t,ht⟩:=aG);have h0:=h 0 (by simp);have cV:¬ n=x:=by simpa using h0
     have Kn:e.key.isStr x=false:=by rw[ht];simp[ke,cV]
     rw[gR,Kn];show ih f λk hk=>by simpa using h (k+1) (by simpa using hk)
 unfold getL;rw[h1,f.noRef];rfl
theorem fP.put{names:List Str}{es:List DictEntry}{l:List Val}{x:Str}{v:Val}{cv:Value}{hsh:Int}{t:Tok}(hv:c9 cv=some v)(f:fP names es l):names.Nodup->∀ {k:Nat},names[k]?=some x->k<=l.length->
  fP names (putL x hsh (.str x t) cv es) (if k<l.length then l.set k v else l++[v]):=by
 show fP.ind (M:=λnames es l=>names.Nodup->∀ {k:Nat},names[k]?=some x->k<=l.length->fP names (putL x hsh (.str x t) cv es) (if k<l.length then l.set k v else l++[v])) (λnames _ k h1 h2=>?_) (λn names e es w l aG hw f ih nd k h1 h2=>?_) f
 .cases k with
  |succ=>cases h2
  |zero=>cases names with
   |nil=>show cz h1
   |cons n names=>cases h1;show ⟨⟨t,rfl⟩,hv,fP.nil _⟩
 .show oE aG λu ht=>?_;clear aG;show oA (aQ.mp nd) λV5 V6=>?_;clear nd;cases k with
  |zero=>
   cases h1;simp only[putL,ht,ke,beq_self_eq_true,if_true];show ⟨⟨u,rfl⟩,hv,f⟩
  |succ k=>
   have cV:¬ n=x:=λz=>V5 (z▸aw h1);have Kn:e.key.isStr x=false:=by rw[ht];simp[ke,cV]
   have ih:=ih V6 h1 (Nat.le_of_succ_le_succ h2);simp only[putL,Kn];have:(if k+1<(w::l).length then (w::l).set (k+1) v else w::l++[v])=w::(if k<l.length then l.set k v else l++[v]):=by
    by_cases q:k<l.length
    .rw[if_pos q,if_pos (Nat.succ_lt_succ q)];rfl
    .rw[if_neg q,if_neg λz=>q (Nat.lt_of_succ_lt_succ z)];rfl
   rw[this];show ⟨⟨u,ht⟩,hw,ih⟩
section
variable {c:Cx} {H:MH} {own:List Addr} {s:Shared} {E':Value->Shared->Prop} {Q:PQ}
theorem tE{P:Pg}{root h:Heap}{a:Addr}{ci:Nat}{l:List Val}(R:Rep P root H own h)(e:H a=some (.inst ci l)):∃ dx es n,a∈own/\dx∈own/\H dx=none/\h.get? dx=some (dictOf es n)/\h.get? a=some (instObj (P.C ci) dx)/\fP (P.at_ ci) es l/\
  PySem.W.InstAt h a (instObj (P.C ci) dx) (P.C ci) (some (dictOf es n)):=by
 show dt (R.obj _ _ e) λm dx es n x1 x2 x3 x4 x5=>?_;show ⟨dx,es,n,m,x1,x2,x4,x3,x5,⟨x3,rfl,rfl,x4⟩⟩
theorem ix{C C' dx Jw:Addr}(e:some (instObj C dx)=some (instObj C' Jw)):dx=Jw:=by injection e with z;injection z with _ z;injection z
theorem HS.modI{s':Shared}{p dx ci:Nat}{l l':List Val}{rv:List DictEntry}{n':Nat}(fz:c.fz=false)(hs:HS c H own s)(ep:H p=some (.inst ci l))(keep:∀ b,b≠dx->s'.heap.get? b=s.heap.get? b)(g2:s.heap.get? p=some (instObj (c.P.C ci) dx))
  (D':s'.heap.get? dx=some (dictOf rv n')) (f':fP (c.P.at_ ci) rv l') (m:p∈own) (m2:dx∈own) (dA:H dx=none) (hg:s'.gens=s.gens:=by rfl) (pB:s'.os=s.os:=by rfl) :
  HS c (upd H p (.inst ci l')) own s'/\Step c.fz own own s.heap s'.heap:=by
 clear c H own s s' p dx ci l l' rv n' _ fz hs ep keep g2 D' f' m m2 dA hg pB;have n0:=(hs.apart dx m2).1;have R:=hs.rep;have pd:p≠dx:=by clear keep g2 D' m2 n0;rintro rfl;rw[ep] at dA;show fB dA
 have ne1:∀ b o,H b=some o->b≠dx:=λb o e z=>by rw[z,dA] at e;show cz e
 have ne2:∀ b c' k C d,H b=some (.inst c' k)->s.heap.get? b=some (instObj C d)->b≠p->d≠dx:=λb c' k C d e g z q=>by
  clear dA pd ne1;subst q;show z (R.inj b p c' k ci l C _ d e ep g g2)
 have ne3:∀ b c' k C d,H b=some (.inst c' k)->s.heap.get? b=some (instObj C d)->d≠p:=λb c' k C d e g q=>by
  show dt (R.obj b _ e) λ_ d' es n x1 x2 x3 x4 _=>?_;have:=ix (g.symm.trans x3);clear x1 x3 x4;subst this;rw[q,ep] at x2;show fB x2
 show ⟨⟨⟨λb ob e=>?_,λb1 b2 c1 l1 c2 l2 C C' d e1 e2 q1 q2=>?_,λb mb=>?_⟩,λb ob e=>?_,hs.rootIn,hs.low,?_,hs.apart,hg.trans hs.gens,pB.trans hs.os⟩,⟨λb ob e n=>?_,λb m=>.inl m,λb m=>m⟩⟩
 .by_cases q:b=p
  .clear ep ne2 ne3;subst q;have:d6.inst ci l'=ob:=by simpa [upd] using e
   clear e;subst this;show ⟨m,dx,rv,n',m2,?_,(keep _ pd).trans g2,D',f'⟩;change (if dx=b then _ else H dx)=none;rw[if_neg (fW pd)];show dA
  .have e':H b=some ob:=by simpa [upd,q] using e
   have R0:=R.obj b ob e';have kb:=keep b (ne1 b ob e');have:OR c.P c.root own H s'.heap b ob:=by
    clear e;induction ob with
    |list vs=>(show bU R0 λm xs n g v=>?_;clear R0);show ⟨m,xs,n,kb.trans g,v⟩
    |ro vs=>show R0
    |tup vs=>(show bU R0 λm xs n g v=>?_;clear R0);show ⟨m,xs,n,kb.trans g,v⟩
    |dict es=>(show fm R0 λm kvs aG v=>?_;clear R0;obtain ⟨ob,rv,ep,g,r⟩:=aG);show ⟨m,kvs,⟨ob,rv,ep,kb.trans g,r⟩,v⟩
    |inst c' k=>
     (show dt R0 λm d es n x1 x2 x3 x4 x5=>?_;clear R0);show ⟨m,d,es,n,x1,x2,kb.trans x3,(keep d (ne2 b c' k _ d e' x3 q)).trans x4,x5⟩
   show OR.updH (λc' k d C eo eg=>?_) this;clear R0 this;subst eo;show ne3 b c' k C d e' (kb▸eg)
 .have f1:∀ b c1 l1,upd H p (.inst ci l') b=some (.inst c1 l1)->∃ c0 l0,H b=some (.inst c0 l0):=λb c1 l1 e=>by
   by_cases q:b=p
   .show ⟨_,_,q▸ep⟩
   .show ⟨c1,l1,by simpa [upd,q] using e⟩
  show wJ (f1 _ _ _ e1) λa1 a2 h1=>?_;show wJ (f1 _ _ _ e2) λa3 a4 h2=>?_;show R.inj b1 b2 a1 a2 a3 a4 C C' d h1 h2 ((keep b1 (ne1 _ _ h1))▸q1) ((keep b2 (ne1 _ _ h2))▸q2)
 .by_cases q:b=dx
  .subst q;show ⟨by rw[D'];rfl,(R.here b mb).2⟩
  .rw[keep b q];show R.here b mb
 .rw[keep b λz=>by rw[z,n0] at e;show cz e];show hs.stay b ob e
 .show bj hs.lives λo e f=>?_;show ⟨o,(keep _ λz=>(hs.apart dx m2).2 z.symm).trans e,f⟩
 .rw[keep b λz=>(n.elim (· (z▸m2)) λq=>by rw[fz] at q;show ft q)];show e
theorem qf{x:Value}{v:Val}(h:c9 x=some v):handedIn x=true:=by induction x<;>first|rfl|show cz h
structure Jb (P:Pg):Prop where
 ok:∀ (c k:Nat) (x:Str),(P.at_ c)[k]?=some x->attrOk P.K (P.C c) x=true
 nodup:∀ c,(P.at_ c).Nodup
 small:∀ c,(P.at_ c).length<=100
theorem mI{K:Frag}{C:Addr}{x:Str}(h:attrOk K C x=true):plainGet K C x=true/\hasDictIn K C=true/\findIn K (.ref C) x=some none/\plainOver K C=true/\takerIn K C x=some none/\findIn K (.ref C) "__setattr__" = some (some (.builtin "object.__setattr__")):=by
 clear K C x _ h;unfold attrOk at h;simp only[ae,beq_iff_eq] at h;(show oA h λaG f=>?_;clear h;obtain ⟨⟨⟨⟨a,b⟩,c⟩,d⟩,e⟩:=aG);show ⟨a,b,c,d,e,f⟩
theorem xp{x:Value}{a:Val}{ci k:Nat}{name:Str}{ex:Bool}(hs:HS c H own s)(X:c.P.K.In c.h₀)(G:Jb c.P)(hn:(c.P.at_ ci)[k]?=some name)(hx:c9 x=some a)(w:getattr a ci k H Q) :
  wpAny c.M c.A (getAttr x name ex) (ba c own s.heap Q) E' s:=by
 show fJ w hx λp w=>?_;show CV w λJp l ep w=>?_;(show oA w λaG w2=>?_;clear w;obtain rfl:Jp=ci:=aG);show hJ w2 λv hv w=>?_;show mi (tE hs.rep ep) λdx es n m m2 _ g1 g2 f I=>?_;show kJ (mI (G.ok _ _ _ hn)) λp1 p2 p3 p4 p5 p6=>?_;show bj (f.get (G.nodup _) hn hv) λcv q1 q2=>?_;show get_value (X.keeps hs.stay) I (plainGet_of p1).1 (findObj_own p2 p3 rfl q1) (qf q2) (ba.same hs w q2)
theorem xZ{x z:Value}{a v:Val}{ci k:Nat}{name:Str}{R:MH->Prop}(fz:c.fz=false)(hs:HS c H own s)(X:c.P.K.In c.h₀)(G:Jb c.P)(hn:(c.P.at_ ci)[k]?=some name)(hx:c9 x=some a)(hz:c9 z=some v)(w:setattr a ci k v H R) :
  wpAny c.M c.A (setAttr x name z) (λ_ s'=>HT c own s.heap R s') E' s:=by
 clear c H own s E' x z a v ci k name R _ fz hs X G hn hx hz w;show fJ w hx λp w=>?_;show CV w λJp l ep w=>?_
 .·(show mf w λaG hk w2=>?_;clear w;obtain rfl:Jp=ci:=aG;clear w;rename _=>w);show mi (tE hs.rep ep) λdx es n m m2 dA g1 g2 f I=>?_;show kJ (mI (G.ok _ _ _ hn)) λp1 p2 p3 p4 p5 p6=>?_;have X':=X.keeps hs.stay;show set_plain X' I p6 (osa_open (s:={ s with toks:=s.toks+1 }) X' I p4 p5 λb=>?_);show bj (any_some (show (clsIn c.P.K (c.P.C Jp)).any (·.hasDict)=true from p2)) λcd hc iB=>?_;have qo:=G.small Jp;have f':=fP.put (hsh:=fF c.P.w.params name) (t:=s.toks+1) hz f (G.nodup _) hn hk;have hl':=f'.len;have e':wQ name (fF c.P.w.params name) (.str name (s.toks+1)) z (dictOf es n)=dictOf (putL name (fF c.P.w.params name) (.str name (s.toks+1)) z es) (putN name es n):=putName_dict _ _ _ _ _ _;have D':(s.heap.update dx (wQ name (fF c.P.w.params name) (.str name (s.toks+1)) z)).get? dx=some (dictOf (putL name (fF c.P.w.params name) (.str name (s.toks+1)) z es) (putN name es n)):=by
    rw[<-e'];show eF _ g1 (by rw[e'];rfl)
   dsimp only;show ah (aK (ah (ah (wpAny_loadPart g2 (ah ((looks_clsIn X' hc).at ?_))))));rw[iB];show aK (a:=some dx) (ah (aK (ah ?_)));unfold nsSet;show ah (ah (wpAny_askSetting (aK (ah (wpAny_mkText (ah (wpAny_loadPart g1 ?_)))))));dsimp only;have c0:(!es.toArray.any (·.key.isStr name)&&es.toArray.any (·.refKey))=false:=by
    have:es.toArray.any (·.refKey)=false:=by rw[<-zO];show f.noRef
    rw[this,Bool.and_false]
   rw[aRefKeyMayBeTheName_at,c0];show wpAny_updatePart g1 ?_;show ah (wpAny_lookBehind D' (pastItsLine_dict (by rw[bL,jH];show li 0x44047feddba30216e0f5e8021750507a170130 rfl qo hl')) ?_);show aK ?_;show oA (HS.modI fz hs (s':={ s with heap:=s.heap.update dx (wQ name (fF c.P.w.params name) (.str name (s.toks+1)) z),toks:=s.toks+1+1 }) ep (λb hb=>cp _ _ (fW hb)) g2 D' f' m m2 dA) λq1 q2=>?_;show ⟨_,_,q1,q2,w⟩
end
noncomputable def yw:Bi->Value
 |.len=>.builtin "len" | .sum=>.builtin "sum" | .max=>.builtin "max" | .min=>.builtin "min"
 |.list=>.type "list" | .tuple=>.type "tuple" | .sorted=>.builtin "sorted" | .abs=>.builtin "abs"
theorem IntsAre.toItems{xs:List Value}{l:List Int}(I:IntsAre xs l):∃ ts:Array (Int×Tok),xs.toArray=intItems ts/\ts.toList.map (·.1)=l:=by
 induction I with
 |nil=>show ⟨#[],by simp[intItems],rfl⟩
 |@cons n t vs ns _ ih=>
  (show bj ih λts h1 h2=>?_;clear ih);show ⟨(((n,t)::ts.toList).toArray),?_,by simp[h2]⟩;apply wK;have:=congrArg Array.toList h1;simp[intItems] at this ⊢;show this
theorem GA(l:List Int):aI l=l.sum:=by induction l with
 |nil=>rfl
 |cons x r ih=>simp[aI,ih]
theorem sum_bound(l:List Int):(∀ x∈l,small x)->-(big*l.length)<=l.sum/\l.sum<=big*l.length:=by
 induction l with
 |nil=>intro _;simp
 |cons x r ih=>
  intro h;have h1:=h x (.head _);have h2:=ih λy m=>h y (.tail _ m);unfold small at h1;simp only[List.sum_cons,aH,fu,Int.natCast_one,dy,lF];show li 0x4404040407feddbaf2e000130060597006058f00008835e5081b286c61106bca00165058c02004 rfl h1 h2
theorem Gw(l:List Int):∀ (x:Int),x<=imax x l/\(∀ y∈l,y<=imax x l)/\(imax x l=x\/imax x l∈l):=by
 induction l with
 |nil=>show λx=>⟨aY _,λ_ m=>(nomatch m),.inl rfl⟩
 |cons y r ih=>
  intro x;show mf (ih (max x y)) λh1 h2 h3=>?_;change x<=imax (max x y) r/\(∀ z∈y::r,z<=imax (max x y) r)/\(imax (max x y) r=x\/imax (max x y) r∈y::r)
  show ⟨li 0x1100111011ffb76e5041366bce10065081b5e70c03286099410004 rfl h1 (IK x y),λz m=>?_,?_⟩
  .clear h3;rcases ag.mp m with rfl|m
   .show li 0x1101111001ffb76e5041b66bce10065081b5e70c03286099410004 rfl h1 (IK x z)
   .show h2 z m
  .rcases h3 with h3|h3
   .by_cases q:x<=y
    .right;rw[h3,jb q];show .head _
    .show .inl ?_;rw[h3];show li 0x40400440000004400047feddb9c004d9af3800994002d79c104ca0806eca0802003 rfl q (IK x y)
   .right;show .tail _ h3
theorem kN:∀ (l k:List Int),l.Perm k->l.Pairwise (·<=·)->k.Pairwise (·<=·)->l=k:=by
 intro l k p h1 h2;show List.Perm.eq_of_pairwise (λa b _ _ h h'=>Int.le_antisymm h h') h1 h2 p
theorem insI_perm(x:Int)(l:List Int):(insI x l).Perm (x::l):=by
 induction l with
 |nil=>show .refl _
 |cons y r ih=>
  change (if x<=y then x::y::r else y::insI x r).Perm _;by_cases q:x<=y
  .rw[if_pos q]
  .rw[if_neg q];show (ih.cons y).trans (.swap x y r)
theorem vv(x:Int)(l:List Int):l.Pairwise (·<=·)->(insI x l).Pairwise (·<=·):=by
 induction l with
 |nil=>show λ_=>List.pairwise_singleton _ x
 |cons y r ih=>
  intro h;show oA (cR.mp h) λh1 h2=>?_;change (if x<=y then x::y::r else y::insI x r).Pairwise (·<=·);by_cases q:x<=y
  .rw[if_pos q];show cR.mpr ⟨λz m=>?_,h⟩;clear h;rcases ag.mp m with rfl|m
   .show q
   .show nU q (h1 z m)
  .rw[if_neg q];show cR.mpr ⟨λz m=>?_,ih h2⟩;rcases ag.mp ((insI_perm x r).mem_iff.mp m) with rfl|m
   .show li 0x47fedca0016eca0802002 rfl q
   .show h1 z m
theorem sortI_perm(l:List Int):(sortI l).Perm l:=by
 induction l with
 |nil=>show .refl _
 |cons x r ih=>show (insI_perm x _).trans (ih.cons x)
theorem nu(l:List Int):(sortI l).Pairwise (·<=·):=by
 induction l with
 |nil=>show .nil
 |cons x r ih=>show vv x _ ih
theorem Vs.of_ints{xs:List Value}{l:List Int}(I:IntsAre xs l):Vs xs (l.map .int):=by
 induction I with
 |nil=>rfl
 |cons n t _ ih=>show Vs.cons rfl ih
section
variable {c:Cx} {H:MH} {own:List Addr} {s:Shared} {E':Value->Shared->Prop} {Q:PQ}
theorem ba.grow{s':Shared}{v:Val}{cv:Value}(hs:HS c H own s)(w:Q v H)(hv:c9 cv=some v)(ext:∀ b ob,s.heap.get? b=some ob->s'.heap.get? b=some ob)(hg:s'.gens=s.gens:=by rfl)(pB:s'.os=s.os:=by rfl) :
  ba c own s.heap Q cv s' :=
 ⟨v,H,own,hv,hs.ext ext hg pB,Step.ext ext,w⟩
theorem ba.listAt{s':Shared}{a:Addr}{xs:List Value}{vs:List Val}{n:Nat}(hs:HS c H own s)(w:alloc (.list vs) H Q)(v:Vs xs vs)(ext:∀ b ob,s.heap.get? b=some ob->s'.heap.get? b=some ob)(hn:s.heap.get? a=none)(lo:sysModules<a)
  (hq:s'.heap.get? a=some (rz xs n)) (hg:s'.gens=s.gens:=by rfl) (pB:s'.os=s.os:=by rfl):ba c own s.heap Q (.ref a) s' :=
 ba.new hs w hn lo ext (λ_ _=>by simp) ⟨.head _,xs,n,hq,v⟩ (by rw[hq];rfl) hg pB
theorem ba.tupAt{s':Shared}{a:Addr}{xs:List Value}{vs:List Val}{n:Nat}(hs:HS c H own s)(w:alloc (.tup vs) H Q)(v:Vs xs vs)(ext:∀ b ob,s.heap.get? b=some ob->s'.heap.get? b=some ob)(hn:s.heap.get? a=none)(lo:sysModules<a)
  (hq:s'.heap.get? a=some (P2 xs n)) (hg:s'.gens=s.gens:=by rfl) (pB:s'.os=s.os:=by rfl):ba c own s.heap Q (.ref a) s' :=
 ba.new hs w hn lo ext (λ_ _=>by simp) ⟨.head _,xs,n,hq,v⟩ (by rw[hq];rfl) hg pB
theorem LG{p:Nat}{vs:List Val}{l:List Int}(hh:c.A.handled=none)(hs:HS c H own s)(ep:H p=some (.list vs))(hl:vs.length<=lim)(hi:gC vs=some l)(r9:∀ x∈l,small x)(w:Q (.int (aI l)) H) :
  wpAny c.M c.A (call (.builtin "sum") [.ref p]) (ba c own s.heap Q) E' s:=by
 show bU (hs.list ep) λm xs n e1 v1=>?_;have I:=v1.intsAre hi;show bj (IntsAre.toItems I) λts t1 t2=>?_;have qo:ts.size=l.length:=by rw[<-t2];show (J _).symm
 have Ge:l.length<=lim:=by
  have:xs.length=l.length:=I.length;rw[<-this,v1.length];show hl
 show sum_intList (xs:=ts) hh (by rw[<-t1];show bh e1) (λj hj=>?_) λh' tk t' ext=>?_
 .rw[preSum_eq,t2];have b1:=sum_bound (l.take (j+1)) λx hx=>r9 x (cj hx);have hx:numAt ts j∈l:=by
   rw[<-t2];unfold numAt;rw[cM hj];simp only[jc,Option.getD_some];show ay.mpr ⟨_,uo.mpr (Array.getElem_mem hj),rfl⟩
  have h1:=r9 _ hx;have h2:(l.take (j+1)).length<=l.length:=by simp;show li 0x40404047fedd00c2ecd7a8185d18108107af56042042e8078108130 rfl (sH (j+1) l.length)
  have h3:big*((l.take (j+1)).length:Int)<=big*(lim:Nat):=gH (uz.mpr (aR h2 Ge)) (by decide);have h4:=h1.1;have h5:=h1.2;have h6:big*(lim:Nat)=1000000000000000000:=rfl;have h7:big=1000000000000:=rfl;rw[h6] at h3;rw[h7] at h4 h5;generalize big*((l.take (j+1)).length:Int)=B at *
  unfold InLong;show li 0x111000110100100010100001ffb76eddbaf5e67413284c6e906bcce8065018dd20cb7016bca08265098c120ca9c065018d3a003 rfl h4 h5 b1 h3
 .rw[preSum_eq,t2,qo,bC,<-GA];show ba.grow hs w rfl ext
theorem KU{p:Nat}{vs:List Val}{x:Int}{l:List Int}(hh:c.A.handled=none)(hs:HS c H own s)(ep:H p=some (.list vs))(hi:gC vs=some (x::l))(w:Q (.int (imax x l)) H) :
  wpAny c.M c.A (call (.builtin "max") [.ref p]) (ba c own s.heap Q) E' s:=by
 show bU (hs.list ep) λm xs n e1 v1=>?_;have I:=v1.intsAre hi;show bj (IntsAre.toItems I) λts t1 t2=>?_;have qo:ts.size=(x::l).length:=by rw[<-t2];show (J _).symm
 show max_intList (xs:=ts) hh (by rw[<-t1];show bh e1) (by rw[qo];simp) λv h' tk hv ext=>?_;show oA (argBest_gt (numAt ts) (ts.size-1)) λb1 b2=>?_;generalize argBest (λi j=>decide (numAt ts i > numAt ts j)) (ts.size-1)=k at *
 (show oE (intItems_at hv) λt aG=>?_;clear hv;subst aG);have I6:∀ j,numAt ts j=(x::l).getD j 0:=λj=>by rw[numAt_eq,t2]
 have hk:k<(x::l).length:=by rw[<-qo];rw[qo] at b1 ⊢;simp at b1 ⊢;show li 0x47fedd38108303a018120 rfl b1
 have U0:numAt ts k∈(x::l):=by rw[I6];show getD_mem hk
 have MB:∀ y∈(x::l),y<=numAt ts k:=λy hy=>by
  obtain ⟨j,hj,rfl⟩:=List.getElem_of_mem hy;have:=b2 j (by rw[qo];simp at hj ⊢;show li 0x47fedd00c0e9c08418120 rfl hj);rw[I6 j,getD_at hj] at this;show this
 show mf (Gw l x) λg1 g2 g3=>?_;have:numAt ts k=imax x l:=by
  apply Int.le_antisymm
  .rcases ag.mp U0 with q|q
   .rw[q];show g1
   .show g2 _ q
  .rcases g3 with q|q
   .rw[q];show MB _ (.head _)
   .show MB _ (.tail _ q)
 rw[this];show ba.grow hs w rfl ext
theorem y8{p:Nat}{vs:List Val}{l:List Int}(hs:HS c H own s)(ep:H p=some (.list vs))(hl:vs.length<64)(hi:gC vs=some l)(w:alloc (.list ((sortI l).map .int)) H Q) :
  wpAny c.M c.A (call (.builtin "sorted") [.ref p]) (ba c own s.heap Q) E' s:=by
 show bU (hs.list ep) λm xs n e1 v1=>?_;have I:=v1.intsAre hi;show sorted_ints (bh e1) I (by rw[v1.length];show hl) λout rD a1 a2 a3=>?_;have:rD=sortI l:=kN _ _ (a2.trans (sortI_perm l).symm) a3 (nu l);clear a2 a3;subst this;show oE (sortedAll_at s.heap xs out) λe he=>?_;have ZO:(sortedAll s.heap xs out).get? (s.heap.objs.size+1)=some (rz out.toList e):=he;show ba.listAt (s':={ s with heap:=sortedAll s.heap xs out }) hs w (Vs.of_ints a1) (λb ob q=>sortedAll_old q) (dG (iJ _)) (iK hs.lowAt) ZO
theorem pf{h:Heap}{a:Addr}{vs:List Value}{out:Array Value}{h0:Heap}(ext:∀ b o,h0.get? b=some o->h.get? b=some o/\b≠a):∀ b o,h0.get? b=some o->(sortedHeap h a vs out).get? b=some o:=λb o e=>by
 show oA (ext b o e) λe1 e2=>?_;rw[sortedHeap_old e2 (bE e1)];show e1
theorem AF(kvs:List (Int×Value)):∀ (xs:List Value),xs.length=kvs.length->(∀ (j:Nat) v,xs[j]?=some v->∃ k x,kvs[j]?=some (k,x)/\gw k v=true)->IntsAre xs (kvs.map (·.1)):=by
 induction kvs with
 |nil=>
  intro xs h _;have:xs=[]:=List.length_eq_zero_iff.mp h;clear h;subst this;show .nil
 |cons p r ih=>
  intro xs h h3;cases xs with
  |nil=>cases h
  |cons x xs=>
  show jQ (h3 0 x rfl) λk y e1 e2=>?_;(show oE (yu e2) λt aG=>?_;clear e2;subst aG);obtain rfl:p=(k,y):=by simpa using e1
  show .cons k t (ih xs (by simpa using h) λj v e=>by simpa using h3 (j+1) v (by simpa using e))
theorem Ad{kvs:List (Int×Value)}{es:List (Int×Val)}(e:kvs.map (λp=>(p.1,c9 p.2))=es.map (λp=>(p.1,some p.2))):kvs.map (·.1)=jy es:=by
 have:=congrArg (l3 qV) e;rw[bo,bo] at this;show this
theorem y6{h':Heap}{tk:Nat}{acc:Array Value}{l:List Int}{A:Around}(hs:HS c H own s)(hk:∀ b o,s.heap.get? b=some o->h'.get? b=some o)(I:IntsAre acc.toList l)(hl:acc.size<64)
  (w:alloc (.list ((sortI l).map .int)) H Q):wpAny c.M A (call (.builtin "list.sort") [.ref h'.objs.size]) (λr s'=>ba c own s.heap Q (.ref h'.objs.size) s') E' ⟨h'.push { cls:=.type "list",data:=.seq acc.toList.toArray },s.gens,s.drawn,tk,s.os⟩:=by
 clear c H own s E' Q h' tk acc l A _ hs hk I hl w;have Ug:(h'.push { cls:=.type "list",data:=.seq acc.toList.toArray }).get? h'.objs.size=some (seqObj "list" acc.toList.toArray 0):=aS _ rfl;have hT:(⟨h'.push { cls:=.type "list",data:=.seq acc.toList.toArray },s.gens,s.drawn,tk,s.os⟩:Shared).TypeIs (.ref h'.objs.size) "list":=⟨_,Ug,rfl⟩
 show rJ slot_list_sort hT entry_list_sort (list_sort_tree Ug I (by rw[lB];show hl) λout rD a1 a2 a3=>⟨_,rfl,?_⟩) (args_list_sort _);have:rD=sortI l:=kN _ _ (a2.trans (sortI_perm _).symm) a3 (nu _);clear a2 a3;subst this;show oE (sortedHeap_at (out:=out) Ug) λe wG=>?_;have hn:s.heap.get? h'.objs.size=none:=by
  cases q:s.heap.get? h'.objs.size with
  |none=>rfl
  |some o=>show absurd (bE (hk _ _ q)) (mA _)
 have lo:sysModules<h'.objs.size:=by
  show oE hs.low λo q=>?_;show uG (show sysModules<cStatics by decide) (bE (hk _ _ (hs.stay _ _ q)))
 have vi:=pf (h0:=s.heap) (h:=h'.push { cls:=.type "list",data:=.seq acc.toList.toArray }) (a:=h'.objs.size) (vs:=acc.toList) (out:=out) λb o q=>⟨aC _ (hk b o q),λz=>by rw[z,hn] at q;show cz q⟩
 have ZP:(sortedHeap (h'.push { cls:=.type "list",data:=.seq acc.toList.toArray }) h'.objs.size acc.toList out).get? h'.objs.size=some (rz out.toList e):=wG;generalize (sortedHeap (h'.push { cls:=.type "list",data:=.seq acc.toList.toArray }) h'.objs.size acc.toList out)=hz at *
 show ba.listAt (s':=⟨hz,s.gens,s.drawn,_,s.os⟩) hs w (Vs.of_ints a1) vi hn lo ZP rfl rfl
set_option maxHeartbeats 1000000 in
theorem y7{p:Nat}{es:List (Int×Val)}(hh:c.A.handled=none)(hs:HS c H own s)(ep:H p=some (.dict es))(hl:es.length<64)(w:alloc (.list ((sortI (jy es)).map .int)) H Q) :
  wpAny c.M c.A (call (.builtin "sorted") [.ref p]) (ba c own s.heap Q) E' s:=by
 clear c H own s E' Q p es _ hh hs ep hl w;show fm (hs.rep.obj _ _ ep) λm kvs hd he=>?_;show oE hd.dictAt λYo SN=>?_;have hkl:kvs.length=es.length:=by simpa using congrArg cg he
 have hz:kvs.length<=sizeLine:=by rw[jH];show li 0x1011ffb76e86e0f50107a580120 rfl hl hkl
 show Calls.call_function_entry kind_sorted plain_sorted entry_sorted (args_sorted1 _) ?_;unfold Builtin.«sorted»;show ah (m:=checkCount "sorted" 1 1 _) (aK ?_);show ah (kdu_collect (A:=c.A.in1) (kdl_dict (knd:=intKind c.P.prog c.P.w) (kvs:=kvs) (ep:=Yo) (md hs m)) hh SN hz λh' tk acc hk vf=>?_);have kC:acc.toList.length=kvs.length:=by rw[lB];show vf.1
 show ah (wpAny_newList ?_ (by rw[kC];show hz));have I:IntsAre acc.toList (jy es):=by
  rw[<-Ad he];show AF kvs _ kC λj v e=>vf.2 j v (by rw[<-Array.getElem?_toList];show e)
 show ah (cZ (aJ (y6 (s:=s) hs hk I (by rw[<-lB,kC,hkl];show hl) w) (λr s' h=>?_) λ_ _ x=>x));show aK ⟨_,rfl,h⟩
end
noncomputable def yW:Lm->String
 |.append=>"list.append" | .pop=>"list.pop" | .extend=>"list.extend" | .index=>"list.index"
 |.insert=>"list.insert" | .remove=>"list.remove" | .get=>"dict.get" | .dpop=>"dict.pop"
noncomputable def BX:Lm->Bool
 |.get=>true | .dpop=>true|_=>false
theorem Ra{h:Heap}{a:Addr}{xs:List Value}{n:Nat}(e:h.get? a=some (P2 xs n)):IsT h a xs.toArray n:=e
theorem qq(x:Int)(l:List Int):x∈l->idxOf x l<l.length/\l[idxOf x l]?=some x/\(∀ m,m<idxOf x l->l[m]?≠some x)/\m4 x l=l.eraseIdx (idxOf x l):=by
 induction l with
 |nil=>intro h;show iF h
 |cons y r ih=>
  intro h;change (if y=x then 0 else idxOf x r+1)<(y::r).length/\(y::r)[if y=x then 0 else idxOf x r+1]?=some x/\(∀ m,m<(if y=x then 0 else idxOf x r+1)->(y::r)[m]?≠some x)/\(if y=x then r else y::m4 x r)=(y::r).eraseIdx (if y=x then 0 else idxOf x r+1);by_cases q:y=x
  .clear h;subst q;simp
  .simp only[q,if_false];have hr:x∈r:=by
    rcases ag.mp h with z|z
    .show absurd z.symm q
    .show z
   show gM (ih hr) λh1 h2 h3 h4=>?_;show ⟨by simpa using h1,by simpa using h2,λm hm=>?_,by rw[h4,List.eraseIdx_cons_succ]⟩;cases m with
   |zero=>simpa using q
   |succ m=>simpa using h3 m (li 0x11ffb748303a7021078108120 rfl hm)
theorem IntsAre.getElem{xs:List Value}{l:List Int}(I:IntsAre xs l):∀ (j:Nat) (v:Int),l[j]?=some v->∃ t,xs[j]?=some (.int v t):=by
 induction I with
 |nil=>intro j v h;simp at h
 |cons n t _ ih=>
  intro j v h;cases j with
  |zero=>simp at h;subst h;show ⟨t,rfl⟩
  |succ j=>simp at h;obtain ⟨u,hu⟩:=ih j v h;show ⟨u,by simpa using hu⟩
theorem IntsAre.eraseIdx{xs:List Value}{l:List Int}(I:IntsAre xs l)(j:Nat):IntsAre (xs.eraseIdx j) (l.eraseIdx j):=by
 induction I generalizing j with
 |nil=>simp;show .nil
 |cons n t hI ih=>
  cases j with
  |zero=>simpa using hI
  |succ j=>simpa using IntsAre.cons n t (ih j)
theorem MU{vs:List Val}{l:List Int}(e:gC vs=some l):vs=l.map .int:=by
 induction vs generalizing l with
 |nil=>cases e;rfl
 |cons a r ih=>
  show bj (gx (show ((iv a).bind λi=>(gC r).bind λl=>some (i::l))=some l from e)) λi e1 e=>?_;show bj (gx e) λk q e=>?_;cases e;rw[GC e1,ih q];rfl
theorem wg{kvs:List (Int×Value)}:∀ {es:List (Int×Val)},kvs.map (λp=>(p.1,c9 p.2))=es.map (λp=>(p.1,some p.2))->∀ i,(without kvs i).map (λp=>(p.1,c9 p.2))=(o8 es i).map (λp=>(p.1,some p.2)):=by
 induction kvs with
 |nil=>intro es h _;cases es with
  |nil=>rfl
  |cons=>cases h
 |cons b kvs ih=>
  intro es he i;cases es with
  |nil=>cases he
  |cons a es=>
  simp only[aq,iI,il] at he;obtain ⟨⟨h1,h2⟩,h3⟩:=he;have:=ih h3 i;unfold without o8 at *
  by_cases q:a.1=i
  .simp[h1,q];simpa using this
  .simp[h1,h2,q];simpa using this
section
variable {c:Cx} {H:MH} {own:List Addr} {s:Shared} {E':Value->Shared->Prop} {Q:PQ}
theorem N7{hd:Bool}{f:Bi}{cs:List Value}{vs:List Val}(hh:gb c hd)(hs:HS c H own s)(v:Vs cs vs)(w:bi hd f vs H Q) :
  wpAny c.M c.A (call (yw f) cs) (ba c own s.heap Q) E' s:=by
 clear c H own s E' Q hd f cs vs _ hh hs v w;induction f with
 |len=>
  show i6 w v λx a hx w=>?_;show fJ w hx λp w=>?_;show rA w (λws ep w=>?_) λw=>?_
  .show bU (hs.list ep) λm xs n e1 v1=>?_;have hl:=w.1;unfold lim at hl;show Calls.call_len_list (bh e1) (by rw[bL,v1.length];show li 0x11ffb733a03a120110 rfl hl) (ba.same hs w.2 (by rw[bL,v1.length];rfl))
  .show uT w λes ep w=>?_;show fm (hs.rep.obj _ _ ep) λm kvs iB he=>?_;have hkl:kvs.length=es.length:=by simpa using congrArg cg he
   have hl:=w.1;unfold lim at hl;show call_len_dict (md hs m) iB (by rw[hkl];show li 0x11ffb733a03a120110 rfl hl) (ba.same hs w.2 (by rw[hkl];rfl))
 |sum=>
  show i6 w v λx a hx w=>?_;show fJ w hx λp w=>?_;show mY w λws ep w=>?_;(show mf w λaG hl w2=>?_;clear w;subst aG);show hJ w2 λl hi w=>?_;show LG hh hs ep hl hi w.1 w.2
 |max=>
  show i6 w v λx a hx w=>?_;show fJ w hx λp w=>?_;show mY w λws ep w=>?_;(show mf w λaG hl w2=>?_;clear w;subst aG);show hJ w2 λl hi w=>?_;cases l with
  |nil=>show w.elim
  |cons y l=>show KU hh hs ep hi w
 |min=>
  show zF w v λx y a b hx hy w=>?_;show fh w hx λa t w=>?_;show fh w hy λb u w=>?_;(show oA w λaG w2=>?_;clear w;subst aG);show min_two_ints hh λh' tk ext=>ba.grow (v:=.int (min a b)) hs w2 ?_ ext;by_cases q:b<a
  .rw[if_pos q];change some (Val.int b)=_;rw[Int.min_eq_right (by show li 0x11ffb7282019810002 rfl q)]
  .rw[if_neg q];change some (Val.int a)=_;rw[Int.min_eq_left (by show li 0x47fedca0016ecc0802002 rfl q)]
 |list=>
  show i6 w v λx a hx w=>?_;show fJ w hx λp w=>?_;show mY w λws ep w=>?_;show bU (hs.list ep) λm xs n e1 v1=>?_;show call_list_seq p (T := "list") (.inl rfl) e1 rfl rfl (λh' c' ext hq=>?_) (by rw[bL,v1.length];show aR w.1 jl);show ba.listAt (s':={ s with heap:=h' }) hs w.2 v1 ext (dG (aT _)) hs.lowAt hq
 |tuple=>
  show i6 w v λx a hx w=>?_;show fJ w hx λp w=>?_;show mY w λws ep w=>?_;show bU (hs.list ep) λm xs n e1 v1=>?_;show call_tuple_list (bh e1) (λh' ext=>?_) (by rw[bL,v1.length];show aR w.1 jl);have ip:HS c H own { s with heap:=h' }:=hs.ext ext;show ba.step (Step.ext ext) (ba.tup (s':={ s with heap:=h'.push { cls:=.type "tuple",data:=.seq xs.toArray } }) ip w.2 v1 rfl)
 |sorted=>
  show i6 w v λx a hx w=>?_;show fJ w hx λp w=>?_;show rA w (λws ep w=>?_) λw=>?_
  ·(show mf w λaG hl w2=>?_;clear hh w;subst aG);show hJ w2 λl hi w=>?_;show y8 hs ep hl hi w
  .show uT w λes ep w=>?_;(show mf w λaG hl w2=>?_;clear w;subst aG);show y7 hh hs ep hl w2
 |abs=>
  show i6 w v λx a hx w=>?_;show fh w hx λa t w=>?_;show call_abs_int λu tk=>ba.same hs w rfl
theorem ba.modL{v:Val}{cv:Value}{a:Addr}{xs ys:List Value}{vs ws:List Val}{n:Nat}{f:Array Value->Array Value}{h':Heap}{tk:Nat}(fz:c.fz=false)(hs:HS c H own s)(ha:H a=some (.list vs))(m:a∈own)(e:s.heap.get? a=some (rz xs n))
  (w:Q v (upd H a (.list ws))) (hv:c9 cv=some v) (hf:f xs.toArray=ys.toArray) (IA:Vs ys ws) (he:h'=s.heap.update a (jN f)):ba c own s.heap Q cv { s with heap:=h',toks:=tk }:=by
 obtain ⟨q1,q2⟩:=HS.modL fz hs (tk:=tk) ha m e hf IA he;show ⟨v,_,_,hv,q1,q2,w⟩
theorem P7{f:Lm}{o:Value}{cs:List Value}{a:Val}{vs:List Val}(fz:c.fz=false)(hs:HS c H own s)(ho:c9 o=some a)(v:Vs cs vs)(w:lm f a vs H Q) :
  wpAny c.M c.A (call (.builtin (yW f)) (o::cs)) (ba c own s.heap Q) E' s:=by
 clear c H own s E' Q f o cs a vs _ fz hs ho v w;show fJ w ho λp w=>?_;show rA w (λws ep w=>?_) λw=>?_
 .show oA w λhl w=>?_;show bU (hs.list ep) λm xs n e1 v1=>?_;have hT:s.TypeIs (.ref p) "list":=⟨_,e1,rfl⟩
  have qo:xs.toArray.size<=sizeLine:=by rw[bL,v1.length];show aR hl jl
  have qi:=v1.length;induction f with
  |append=>
   show i6 w v λx z hx w=>?_;show fV nS hT Bg (zR _ _) (list_append p xs.toArray n x qo) ⟨e1,?_⟩;show ba.modL fz hs ep m e1 w rfl (ys:=xs++[x]) (by simp) (v1.append (Vs.cons hx .nil)) rfl
  |pop=>
   (show oA w λaG w2=>?_;clear w;subst aG);have:=v.of_nil;clear v;subst this;show hJ w2 λz hz w=>?_;rw[List.getLast?_eq_getElem?] at hz;obtain ⟨y,hy,ML⟩:=v1.get hz;show fV F.slot_list_pop hT F.entry_list_pop (F.args_list_pop_1 _) (MeetsSeq.list_pop_last p xs.toArray n y (by simpa [qi] using hy) qo) ⟨e1,?_⟩;show ba.modL fz hs ep m e1 w ML (ys:=xs.dropLast) ?_ ?_ rfl
   .simp[jV,List.eraseIdx_eq_take_drop_succ];show li 0x1101001ffb7460420c0ecd40702107af52007a108120 rfl (ef xs.length 1)
   .rw[jV,jV,qi];show v1.take _
  |extend=>
   show i6 w v λx a hx w=>?_;show fJ w hx λq w=>?_;show oA w λhpq w=>?_;show mY w λus eq w=>?_;obtain ⟨m2,ys,n2,e2,v2⟩:=hs.list eq;have WM:=v2.length;have h2:=w.1;unfold lim at hl h2;show fV F.slot_list_extend hT F.entry_list_extend (F.args_list_extend_2 _ _) (AutoSeq1.list_extend_list_list_0 p xs.toArray n q ys.toArray n2 ?_ qo ?_) ⟨e1,e2,?_⟩
   .simp[gQ,sizeLine];intro _;show li 0x4404047feddbb76e86f80283d0903ea0e1750107a120140 rfl hl qi WM h2
   .simp[jH];show li 0x4404047feddbb76e88780283d0903ea0e1750107a120140 rfl hl qi WM h2
   .show ba.modL fz hs ep m e1 w.2 rfl (ys:=xs++ys) (by simp) (v1.append v2) rfl
  |index=>
   show i6 w v λx a hx w=>?_;show fh w hx λi t w=>?_;show hJ w λl hi w=>?_;have I:=v1.intsAre hi;obtain ⟨h1,h2,h3,h4⟩:=qq i l w.1;have F5:xs.length=l.length:=I.length;obtain ⟨u,hu⟩:=IntsAre.getElem I _ _ h2;unfold lim at hl;show fV F.slot_list_index hT F.entry_list_index (F.args_list_index_2 _ _) (MeetsSeq.list_index p xs.toArray n (.int i t) _ (iu I i t) (idxOf i l) (by simp;show li 0x1101ffb76e90a075030ba418130 rfl h1 F5) (li 0x4404047feddbb76e6c485d05d41c1e90e1750107a120140 rfl hl qi h1 F5) ?_ λk hk1 tn=>?_) ⟨e1,ba.same hs w.2 rfl⟩
   .have:xs.toArray[idxOf i l]'(by simp;show li 0x1101ffb76e90a075030ba418130 rfl h1 F5)=.int i u:=by
     rw[<-jd,<-cM];simpa using hu
    rw[this];simp
   .have K9:k<l.length:=by simp at hk1;show li 0x111ffb76e906174810ba418130 rfl h1 tn
    obtain ⟨u',Gr⟩:=IntsAre.getElem I k l[k] (aU K9);have:xs.toArray[k]'hk1=.int l[k] u':=by
     rw[<-jd,<-cM];simpa using Gr
    rw[this];have:=h3 k tn;rw[aU K9] at this;simpa using this
  |insert=>
   show zF w v λx y a z hx hy w=>?_;show fh w hx λi t w=>?_;obtain ⟨h0,hi,w⟩:=w;unfold lim at hl;show fV F.slot_list_insert hT F.entry_list_insert (F.args_list_insert_3 _ _ _) (AutoListH.list_insert_list_int_val_1 p xs.toArray n i t y (by simp[gj];show li 0x44044043feddbb75e67403280c6e9065020328041a120111 rfl hl h0 hi) qo) ⟨e1,?_⟩;show ba.modL fz hs ep m e1 w rfl (ys:=xs.take i.toNat++y::xs.drop i.toNat) ?_ ((v1.take _).append (Vs.cons hy (v1.drop _))) rfl;have c1:¬ i<0:=li 0x47feddd99000419402001 rfl h0;have c2:min i.toNat xs.length=i.toNat:=li 0x10110000001000010000101000000011000000001011000000110001011010100000001100000000ffb76eddba8287d9af5010fa0281d7a8287d0042ecd7a9005ca8006bce002e5008328301a818141 rfl qi hi (pL i) (sH i.toNat xs.length);simp only[c1,if_false,bL,c2];apply wK;simp;show uj (by simp)
  |remove=>
   show i6 w v λx a hx w=>?_;show fh w hx λi t w=>?_;show hJ w λl hi w=>?_;have I:=v1.intsAre hi;obtain ⟨h1,h2,h3,h4⟩:=qq i l w.1;have F5:xs.length=l.length:=I.length;obtain ⟨u,hu⟩:=IntsAre.getElem I _ _ h2;show fV F.slot_list_remove hT F.entry_list_remove (F.args_list_remove_2 _ _) (MeetsSeq.list_remove p xs.toArray n (.int i t) _ (iu I i t) (idxOf i l) (by simp;show li 0x1101ffb76e90a075030ba418130 rfl h1 F5) ?_ (λk hk1 tn=>?_) qo) ⟨e1,?_⟩
   .have:xs.toArray[idxOf i l]'(by simp;show li 0x1101ffb76e90a075030ba418130 rfl h1 F5)=.int i u:=by
     rw[<-jd,<-cM];simpa using hu
    rw[this];simp
   .have K9:k<l.length:=by simp at hk1;show li 0x111ffb76e906174810ba418130 rfl h1 tn
    obtain ⟨u',Gr⟩:=IntsAre.getElem I k l[k] (aU K9);have:xs.toArray[k]'hk1=.int l[k] u':=by
     rw[<-jd,<-cM];simpa using Gr
    rw[this];have:=h3 k tn;rw[aU K9] at this;simpa using this
   .show ba.modL fz hs ep m e1 w.2 rfl (ys:=xs.eraseIdx (idxOf i l)) (by simp) ?_ rfl;rw[h4];show Vs.of_ints (IntsAre.eraseIdx I _)
  |get=>show w.elim
  |dpop=>show w.elim
 .show uT w λes ep w=>?_;show oA w λhl w=>?_;show fm (hs.rep.obj _ _ ep) λm kvs hd he=>?_;have hkl:kvs.length=es.length:=by simpa using congrArg cg he
  induction f with
  |get=>
   show zF w v λx y a b hx hy w=>?_;show fh w hx λi t w=>?_;show oA w λeb w=>?_;have:=ly (eb▸hy:c9 y=some .none);clear hy;subst this;show zY F.slot_dict_get hd.mapOf.typeIs F.entry_dict_get (F.args_dict_get_3 _ _ _) (meets_dict_get_default (knd:=intKind c.P.prog c.P.w) (k:=i) p (by simp[intKind,gw]) (md hs m) .none) ⟨_,hd.mapOf,?_⟩;have f:=(fg he i).2;have w:(dget es i).elim (Q .none H) λv=>Q v H:=w;cases hz:dget es i with
   |some z=>
    rw[hz] at f w;show bj (aV.mp f) λy US Gv=>?_;show ba.same hs w ?_;rw[US];show Gv
   |none=>
    rw[hz] at f w;have:valueAt kvs i=none:=by simpa using f
    show ba.same hs w ?_;rw[this];rfl
  |dpop=>
   show i6 w v λx a hx w=>?_;show fh w hx λi t w=>?_;have f:=(fg he i).2;show hJ w λz hz w=>?_;rw[hz] at f;show bj (aV.mp f) λy US Gv=>?_;show zY F.slot_dict_pop hd.mapOf.typeIs F.entry_dict_pop (F.args_dict_pop_2 _ _) (meets_dict_pop_there (knd:=intKind c.P.prog c.P.w) (k:=i) p (by simp[intKind,gw]) [] (.inl rfl) rfl) ⟨kvs,y,hd,by rw[hkl];show aR hl jl,US,λh' iB Az=>?_⟩;show oA (HS.mod fz hs (s':={ s with heap:=h',toks:=s.toks+1 }) (o':=.dict (o8 es i)) ep m (λ_ _=>by simp) (λ_ _=>by simp) (λb hb=>Az.2 b hb) (by obtain ⟨o,rv,VN,g,_⟩:=iB;change (h'.get? p).isSome=true;rw[g];rfl) ⟨m,_,iB,wg he i⟩) λq1 q2=>?_;show ⟨z,_,_,Gv,q1,q2,w⟩
  |_=>show w.elim
end
structure GOk (P:Pg):Prop where
 at_:Jb P
 gl:∀ x v,P.gl.lookup x=some v->P.mg x=some v
 bl:∀ x v,P.bl.lookup x=some v->P.mg x=none/\P.mb x=some v
 kf:∀ x f,P.gl.lookup x=some (.ref (P.fa f))->keepIn P.K (.ref (P.fa f))=true
 kc:∀ x c,P.gl.lookup x=some (.ref (P.C c))->keepIn P.K (.ref (P.C c))=true
 mt:∀ c x f,P.mt c x=some f->(P.at_ c).contains x=false/\keepIn P.K (.ref (P.fa f))=true/\findIn P.K (.ref (P.C c)) "__getattribute__" = some (some (.builtin "object.__getattribute__"))/\
  findIn P.K (.ref (P.C c)) "__getattr__" = some none/\findIn P.K (.ref (P.C c)) x=some (some (.ref (P.fa f)))/\typeIn P.K (.ref (P.fa f))=some (.type "function")
noncomputable abbrev WW:=MH->PQ->(MH->Prop)->Prop
noncomputable abbrev Vu:=MH->(List Val->MH->Prop)->(MH->Prop)->Prop
noncomputable abbrev Vt:=MH->(Bool->MH->Prop)->(MH->Prop)->Prop
section
variable (c:Cx) (vars:List Str) (env:Env) (ρ:Sto)
noncomputable def SE(t:Sem Value)(W:WW):Prop :=
 ∀ H own s Q E,(env=c.env\/E=λ_=>False)->HS c H own s->NS c.L c.h₀ vars env ρ own s.heap->W H Q E->wpAny c.M c.A t (ba c own s.heap Q) (du c vars ρ E) s
noncomputable abbrev t6 (own:List Addr) (h:Heap) (Q:List Val->MH->Prop) (cvs:List Value) (s':Shared):Prop :=
 ∃ vs H' own',Vs cvs vs/\HS c H' own' s'/\Step c.fz own own' h s'.heap/\Q vs H'
noncomputable def zX(t:Sem (List Value))(W:Vu):Prop :=
 ∀ H own s Q E,(env=c.env\/E=λ_=>False)->HS c H own s->NS c.L c.h₀ vars env ρ own s.heap->W H Q E->wpAny c.M c.A t (t6 c own s.heap Q) (du c vars ρ E) s
noncomputable abbrev rS (own:List Addr) (h:Heap) (Q:Bool->MH->Prop) (b:Bool) (s':Shared):Prop :=
 ∃ H' own',HS c H' own' s'/\Step c.fz own own' h s'.heap/\Q b H'
noncomputable def SB(t:Sem Bool)(W:Vt):Prop :=
 ∀ H own s Q E,(env=c.env\/E=λ_=>False)->HS c H own s->NS c.L c.h₀ vars env ρ own s.heap->W H Q E->wpAny c.M c.A t (rS c own s.heap Q) (du c vars ρ E) s
end
section
variable {c:Cx} {vars:List Str} {env:Env} {ρ:Sto} {own:List Addr} {s:Shared} {H:MH} {E:MH->Prop}
theorem SE.bind{t:Sem Value}{W:WW}(T:SE c vars env ρ t W){Q:PQ}{Qc:Value->Shared->Prop}(hE:env=c.env\/E=λ_=>False)(hs:HS c H own s)(ns:NS c.L c.h₀ vars env ρ own s.heap)(w:W H Q E)
  (k:∀ cv v H' own' s',c9 cv=some v->HS c H' own' s'->NS c.L c.h₀ vars env ρ own' s'.heap->Step c.fz own own' s.heap s'.heap->Q v H'->Qc cv s') :
  wpAny c.M c.A t Qc (du c vars ρ E) s :=
 aJ (T H own s Q E hE hs ns w) (λcv s' p=>cS p λv H' own' a b d e=>k cv v H' own' s' a b (ns.step d) d e) λ_ _ x=>x
theorem zX.bind{t:Sem (List Value)}{W:Vu}(T:zX c vars env ρ t W){Q:List Val->MH->Prop}{Qc:List Value->Shared->Prop}(hE:env=c.env\/E=λ_=>False)(hs:HS c H own s)(ns:NS c.L c.h₀ vars env ρ own s.heap)(w:W H Q E)
  (k:∀ cv v H' own' s',Vs cv v->HS c H' own' s'->NS c.L c.h₀ vars env ρ own' s'.heap->Step c.fz own own' s.heap s'.heap->Q v H'->Qc cv s') :
  wpAny c.M c.A t Qc (du c vars ρ E) s :=
 aJ (T H own s Q E hE hs ns w) (λcv s' p=>cS p λv H' own' a b d e=>k cv v H' own' s' a b (ns.step d) d e) λ_ _ x=>x
theorem SB.bind{t:Sem Bool}{W:Vt}(T:SB c vars env ρ t W){Q:Bool->MH->Prop}{Qc:Bool->Shared->Prop}(hE:env=c.env\/E=λ_=>False)(hs:HS c H own s)(ns:NS c.L c.h₀ vars env ρ own s.heap)(w:W H Q E)
  (k:∀ b H' own' s',HS c H' own' s'->NS c.L c.h₀ vars env ρ own' s'.heap->Step c.fz own own' s.heap s'.heap->Q b H'->Qc b s') :
  wpAny c.M c.A t Qc (du c vars ρ E) s :=
 aJ (T H own s Q E hE hs ns w) (λcv s' p=>dR p λH' own' b d e=>k cv H' own' s' b (ns.step d) d e) λ_ _ x=>x
theorem t6.step{o1 o2:List Addr}{h1 h2:Heap}{Q:List Val->MH->Prop}{cv:List Value}{s':Shared}(S:Step c.fz o1 o2 h1 h2)(p:t6 c o2 h2 Q cv s'):t6 c o1 h1 Q cv s':=by
 (show cS p λv H' own' a b d e=>?_;clear p);show ⟨v,H',own',a,b,S.trans d,e⟩
theorem rS.step{o1 o2:List Addr}{h1 h2:Heap}{Q:Bool->MH->Prop}{cv:Bool}{s':Shared}(S:Step c.fz o1 o2 h1 h2)(p:rS c o2 h2 Q cv s'):rS c o1 h1 Q cv s':=by
 (show dR p λH' own' b d e=>?_;clear p);show ⟨H',own',b,S.trans d,e⟩
theorem cF{t:Sem Value}{o1 o2:List Addr}{h1 h2:Heap}{Q:PQ}{E':Value->Shared->Prop}(S:Step c.fz o1 o2 h1 h2)(h:wpAny c.M c.A t (ba c o2 h2 Q) E' s):wpAny c.M c.A t (ba c o1 h1 Q) E' s :=
 aJ h (λ_ _ p=>p.step S) λ_ _ x=>x
theorem lN{x:Str}{l:List Str}:l.contains x=false->x∉l:=by simp
theorem uc{e:Expr}{v:Val}(h:∀ (Q:Value->Shared->Prop) s,(∀ cv tk,c9 cv=some v->Q cv { s with toks:=tk })->∀ E',wpAny c.M c.A (eval e env) Q E' s)(Φ:Bool->Phi)(hd:Bool):SE c vars env ρ (eval e env) (λH Q E=>wE Φ hd (.cst v) ρ H Q E) :=
 λH own s Q E hE hs ns w=>h _ s (λcv tk hv=>ba.same hs (w) hv) _
theorem LZ(he:d5 c env){i:Nat}{x:Str}{pos:Pos}(hx:vars[i]?=some x)(hk:env.kindOf x=some .local\/env.kindOf x=some .cell)(iB:(x==("__debug__" : Str))=false)(Φ:Bool->Phi)(hd:Bool) :
  SE c vars env ρ (eval (.Name x pos) env) (λH Q E=>wE Φ hd (.var i) ρ H Q E):=λH own s Q E hE hs ns w=>by
 have w:(ρ i).elim False λv=>Q v H:=w
 cases hv:ρ i with
 |none=>rw[hv] at w;show w.elim
 |some v=>
  rw[hv] at w
  show lP ?_ iB
  rcases hk with hk|hk
  .show bj ns.loc λm n1 n2=>?_
   have r:=n2 i x hx hk
   rw[hv] at r
   show bj (aV.mp r) λcv h1 h2=>?_
   show fi he.kind hk n1 h1 (ba.same hs w h2)
  .show dR (ns.cel i x hx hk) λa r h1 h2 h3=>?_
   rw[hv] at h3
   show bj (aV.mp h3) λcv h4 h5=>?_
   clear h3
   subst h4
   show wpAny_loadName_cell he.kind hk h1 h2 (ba.same hs w h5)
theorem pA{n:Nat}(G:cN c n)(GO:GOk c.P)(he:d5 c env){x:Str}{pos:Pos}{v:Value}(hk:env.kindOf x=some .globalImplicit)(iB:(x==("__debug__" : Str))=false)(hv:c.P.gl.lookup x=some v)(hs:HS c H own s){Q:Value->Shared->Prop}{E':Value->Shared->Prop}
  (h:Q v s):wpAny c.M c.A (eval (.Name x pos) env) Q E' s:=by
 show Name_function_global he.kind hk ?_ iB;show loadGlobal_global (mg:=c.P.mg) ?_ (GO.gl x v hv) h;rw[he.globals];show Ns.at G.g λo e=>hs.stay _ _ e
theorem mM{n:Nat}(G:cN c n)(GO:GOk c.P)(he:d5 c env){x:Str}{pos:Pos}{v:Value}(hk:env.kindOf x=some .globalImplicit)(iB:(x==("__debug__" : Str))=false)(hv:c.P.bl.lookup x=some v)(hs:HS c H own s){Q:Value->Shared->Prop}{E':Value->Shared->Prop}
  (h:Q v s):wpAny c.M c.A (eval (.Name x pos) env) Q E' s:=by
 show Name_function_global he.kind hk ?_ iB;show oA (GO.bl x v hv) λh1 h2=>?_;show loadGlobal_builtin (mg:=c.P.mg) (mb:=c.P.mb) ?_ h1 ?_ h2 h
 .rw[he.globals];show Ns.at G.g λo e=>hs.stay _ _ e
 .rw[he.builtins];show Ns.at G.b λo e=>hs.stay _ _ e
theorem Hw{n:Nat}(G:cN c n)(GO:GOk c.P)(he:d5 c env){x:Str}{pos:Pos}{i:Int}{t:Tok}(hk:env.kindOf x=some .globalImplicit)(iB:(x==("__debug__" : Str))=false)(hv:c.P.gl.lookup x=some (.int i t))(Φ:Bool->Phi)(hd:Bool) :
  SE c vars env ρ (eval (.Name x pos) env) (λH Q E=>wE Φ hd (.cst (.int i)) ρ H Q E):=λH own s Q E hE hs ns w=>
 pA G GO he hk iB hv hs (ba.same hs (w) rfl)
theorem LR{l r:Expr}{a b:ME}{o:Bop}{op:Operator}{pos:Pos}{Φ:Bool->Phi}{hd:Bool}(ho:Ll o=op)(Ta:SE c vars env ρ (eval l env) (λH Q E=>wE Φ hd a ρ H Q E))(Tb:SE c vars env ρ (eval r env) (λH Q E=>wE Φ hd b ρ H Q E)) :
  SE c vars env ρ (eval (.BinOp l op r pos) env) (λH Q E=>wE Φ hd (.bin o a b) ρ H Q E):=λH own s Q E hE hs ns w=>by
 show wpAny_BinOp (Ta.bind hE hs ns w λcv v H1 o1 s1 e1 cH dr ed w1=>?_)
 show Tb.bind hE cH dr w1 λMn v2 H2 o2 s2 e2 fc iM lO w2=>?_
 show cF (ed.trans lO) (BJ ho fc e1 e2 w2)
theorem BQ{n:Nat}(G:cN c n){l r:Expr}{a b:ME}{o:Cop}{op:CmpOp}{Φ:Bool->Phi}{hd:Bool}(ho:uR o=op)(Ta:SE c vars env ρ (eval l env) (λH Q E=>wE Φ hd a ρ H Q E))(Tb:SE c vars env ρ (eval r env) (λH Q E=>wE Φ hd b ρ H Q E))
  {Q:Bool->MH->Prop} (hE:env=c.env\/E=λ_=>False) (hs:HS c H own s) (ns:NS c.L c.h₀ vars env ρ own s.heap) (w:wE Φ hd a ρ H (λx H=>wE Φ hd b ρ H (λy H=>gy o x y H (λr=>Q r H)) E) E) {Qc:Value->Shared->Prop}
  (k:∀ b s',rS c own s.heap Q b s'->Qc (.bool b) s') :
  wpAny c.M c.A (eval l env) (λa cU=>wpAny c.M c.A (eval r env) (λb LK=>wpAny c.M c.A (compareOp op a b) Qc (du c vars ρ E) LK) (du c vars ρ E) cU) (du c vars ρ E) s:=by
 show Ta.bind hE hs ns w λcv v H1 o1 s1 e1 cH dr ed w1=>?_;show Tb.bind hE cH dr w1 λMn v2 H2 o2 s2 e2 fc iM lO w2=>?_;show BR (by have:=G.units;show li 0x11ffb742d03a16e0c20d40120 rfl this) ho fc e1 e2 w2 λb s' hb h1 h2 h3=>k b s' ⟨H2,o2,fc.ext (λb o e=>by rw[h1];show e) h2 h3,by rw[h1];show ed.trans lO,hb⟩
theorem LS{n:Nat}(G:cN c n){l r:Expr}{a b:ME}{o:Cop}{op:CmpOp}{pos:Pos}{Φ:Bool->Phi}{hd:Bool}(ho:uR o=op)(hm:behindInMarks op r=false)(Ta:SE c vars env ρ (eval l env) (λH Q E=>wE Φ hd a ρ H Q E))(Tb:SE c vars env ρ (eval r env) (λH Q E=>wE Φ hd b ρ H Q E)) :
  SE c vars env ρ (eval (.Compare l [op] [r] pos) env) (λH Q E=>wE Φ hd (.cmp o a b) ρ H Q E):=λH own s Q E hE hs ns w=>by
 show wi (BQ G ho Ta Tb (Q:=λr H=>Q (.bool r) H) hE hs ns w λb s' p=>dR p λH' own' p1 p2 p3=>⟨.bool b,H',own',rfl,p1,p2,p3⟩) hm
noncomputable def vB(Q:Bool->MH->Prop):PQ:=λv H=>bq v λb=>Q b H
theorem LN{n:Nat}(G:cN c n){l r:Expr}{a b:ME}{o:Cop}{op:CmpOp}{pos:Pos}{Φ:Bool->Phi}{hd:Bool}{whole:Sem Value}(ho:uR o=op)(hm:behindInMarks op r=false)(Ta:SE c vars env ρ (eval l env) (λH Q E=>wE Φ hd a ρ H Q E))(Tb:SE c vars env ρ (eval r env) (λH Q E=>wE Φ hd b ρ H Q E)) :
  SB c vars env ρ (isTrue (.Compare l [op] [r] pos) env whole) (λH Q E=>wE Φ hd (.cmp o a b) ρ H (vB Q) E):=λH own s Q E hE hs ns w=>by
 show mq (BQ G ho Ta Tb (Q:=Q) hE hs ns w λb s' p=>jK p) hm
theorem yY{cv:Value}{v:Val}(h:c9 cv=some v):(cv==.none)=v.isN :=
 qS (P:=λcv v=>(cv==.none)=v.isN) h rfl (λ_=>rfl) (λ_ _=>rfl) (λ_ _=>rfl) λ_=>rfl
theorem tG{l:Expr}{a:ME}{k:Nat}{p:Pos}{neg:Bool}{Φ:Bool->Phi}{hd:Bool}(Ta:SE c vars env ρ (eval l env) (λH Q E=>wE Φ hd a ρ H Q E))
  {Q:Bool->MH->Prop} (hE:env=c.env\/E=λ_=>False) (hs:HS c H own s) (ns:NS c.L c.h₀ vars env ρ own s.heap) (w:wE Φ hd a ρ H (λx H=>Q (bif neg then !x.isN else x.isN) H) E) {Qc:Value->Shared->Prop}
  (k':∀ b s',rS c own s.heap Q b s'->Qc (.bool b) s') :
  wpAny c.M c.A (eval l env) (λa cU=>wpAny c.M c.A (eval (.Constant .none k p) env) (λb LK=>wpAny c.M c.A (compareOp (bif neg then .IsNot else .Is) a b) Qc (du c vars ρ E) LK) (du c vars ρ E) cU) (du c vars ρ E) s:=by
 show Ta.bind hE hs ns w λcv v H1 o1 s1 e1 cH dr ed w1=>wpAny_Constant_none ?_;clear w;induction neg with
 |false=>show is_none (k' _ _ ⟨H1,o1,cH,ed,by rw[yY e1];show w1⟩)
 |true=>show isNot_none (k' _ _ ⟨H1,o1,cH,ed,by rw[yY e1];show w1⟩)
theorem Be{l:Expr}{a:ME}{k:Nat}{p pos:Pos}{Φ:Bool->Phi}{hd:Bool}(Ta:SE c vars env ρ (eval l env) (λH Q E=>wE Φ hd a ρ H Q E)) :
  SE c vars env ρ (eval (.Compare l [.Is] [.Constant .none k p] pos) env) (λH Q E=>wE Φ hd (.isNone a) ρ H Q E):=λH own s Q E hE hs ns w=>by
 show wi (tG (neg:=false) Ta (Q:=λr H=>Q (.bool r) H) hE hs ns w λb s' p=>dR p λH' own' p1 p2 p3=>⟨.bool b,H',own',rfl,p1,p2,p3⟩) rfl
theorem yf{l:Expr}{a:ME}{k:Nat}{p pos:Pos}{Φ:Bool->Phi}{hd:Bool}(Ta:SE c vars env ρ (eval l env) (λH Q E=>wE Φ hd a ρ H Q E)) :
  SE c vars env ρ (eval (.Compare l [.IsNot] [.Constant .none k p] pos) env) (λH Q E=>wE Φ hd (.notNone a) ρ H Q E):=λH own s Q E hE hs ns w=>by
 show wi (tG (neg:=true) Ta (Q:=λr H=>Q (.bool r) H) hE hs ns w λb s' p=>dR p λH' own' p1 p2 p3=>⟨.bool b,H',own',rfl,p1,p2,p3⟩) rfl
theorem Bd{l:Expr}{a:ME}{k:Nat}{p pos:Pos}{Φ:Bool->Phi}{hd:Bool}{whole:Sem Value}(Ta:SE c vars env ρ (eval l env) (λH Q E=>wE Φ hd a ρ H Q E)) :
  SB c vars env ρ (isTrue (.Compare l [.Is] [.Constant .none k p] pos) env whole) (λH Q E=>wE Φ hd (.isNone a) ρ H (vB Q) E):=λH own s Q E hE hs ns w=>by
 show mq (tG (neg:=false) Ta (Q:=Q) hE hs ns w λb s' p=>jK p) rfl
theorem yd{l:Expr}{a:ME}{k:Nat}{p pos:Pos}{Φ:Bool->Phi}{hd:Bool}{whole:Sem Value}(Ta:SE c vars env ρ (eval l env) (λH Q E=>wE Φ hd a ρ H Q E)) :
  SB c vars env ρ (isTrue (.Compare l [.IsNot] [.Constant .none k p] pos) env whole) (λH Q E=>wE Φ hd (.notNone a) ρ H (vB Q) E):=λH own s Q E hE hs ns w=>by
 show mq (tG (neg:=true) Ta (Q:=Q) hE hs ns w λb s' p=>jK p) rfl
noncomputable def plainT(e:Expr):Bool:=[23,20,16,21,19].any (dg e.ctorIdx)
theorem EC{e:Expr}{a:ME}{Φ:Bool->Phi}{hd:Bool}(hp:plainT e=true)(T:SE c vars env ρ (eval e env) (λH Q E=>wE Φ hd a ρ H Q E)) :
  SB c vars env ρ (isTrue e env (eval e env)) (λH Q E=>wE Φ hd a ρ H (vB Q) E):=by
 intro H own s Q E hE hs ns w;have he:isTrue e env (eval e env)=(do let v <-eval e env;standAt e.pos;holding [v] (truthy v)):=by clear T;cases e<;>first|rfl|show ft hp
 show wpAny_isTrue_value (T.bind hE hs ns w λcv v H1 o1 s1 e1 cH dr ed w1=>?_) he;induction v with
 |bool b=>
  have:=lx e1;clear e1;subst this;show jK ⟨H1,o1,cH,ed,w1⟩
 |_=>show w1.elim
theorem LO{x:Expr}{a:ME}{pos:Pos}{Φ:Bool->Phi}{hd:Bool}{whole:Sem Value}(T:SB c vars env ρ (isTrue x env (eval x env)) (λH Q E=>wE Φ hd a ρ H (vB Q) E)) :
  SB c vars env ρ (isTrue (.UnaryOp .Not x pos) env whole) (λH Q E=>wE Φ hd (.not a) ρ H (vB Q) E):=λH own s Q E hE hs ns w=>by
 show wpAny_isTrue_Not (T.bind (Q:=λb H=>Q (!b) H) hE hs ns w λb H1 o1 s1 cH dr ed w1=>⟨H1,o1,cH,ed,w1⟩)
theorem LM{vs:List Expr}{es:MEs}{pos:Pos}{Φ:Bool->Phi}{hd:Bool}{whole:Sem Value}(T:SB c vars env ρ (allTrue .And vs env) (λH Q E=>ph Φ hd es ρ H Q E)) :
  SB c vars env ρ (isTrue (.BoolOp .And vs pos) env whole) (λH Q E=>wE Φ hd (.andl es) ρ H (vB Q) E):=λH own s Q E hE hs ns w=>by
 show wpAny_isTrue_BoolOp (T _ _ _ _ _ hE hs ns w)
theorem PW{vs:List Expr}{es:MEs}{pos:Pos}{Φ:Bool->Phi}{hd:Bool}{whole:Sem Value}(T:SB c vars env ρ (allTrue .Or vs env) (λH Q E=>zH Φ hd es ρ H Q E)) :
  SB c vars env ρ (isTrue (.BoolOp .Or vs pos) env whole) (λH Q E=>wE Φ hd (.orl es) ρ H (vB Q) E):=λH own s Q E hE hs ns w=>by
 show wpAny_isTrue_BoolOp (T _ _ _ _ _ hE hs ns w)
theorem LL{Φ:Bool->Phi}{hd:Bool}:SB c vars env ρ (allTrue .And [] env) (λH Q E=>ph Φ hd .nil ρ H Q E):=λH own s Q E hE hs ns w=>by
 show wpAny_allTrue_And_nil ⟨H,own,hs,.refl,w⟩
theorem LP{Φ:Bool->Phi}{hd:Bool}:SB c vars env ρ (allTrue .Or [] env) (λH Q E=>zH Φ hd .nil ρ H Q E):=λH own s Q E hE hs ns w=>by
 show wpAny_allTrue_Or_nil ⟨H,own,hs,.refl,w⟩
theorem o7{P Q:MH->Prop}:(λ(c:Val) (H:MH)=>bv c (P H) (Q H))=vB (λb H=>if b then P H else Q H):=by
 funext c H;unfold bv;induction c with
 |bool b=>induction b<;>rfl
 |_=>rfl
theorem Hp{x:Expr}{rest:List Expr}{a:ME}{es:MEs}{Φ:Bool->Phi}{hd:Bool}(T:SB c vars env ρ (isTrue x env (eval x env)) (λH Q E=>wE Φ hd a ρ H (vB Q) E))(Ts:SB c vars env ρ (allTrue .And rest env) (λH Q E=>ph Φ hd es ρ H Q E)) :
  SB c vars env ρ (allTrue .And (x::rest) env) (λH Q E=>ph Φ hd (.cons a es) ρ H Q E):=λH own s Q E hE hs ns w=>by
 have w:wE Φ hd a ρ H (vB λb H=>if b then ph Φ hd es ρ H Q E else Q false H) E:=by rw[<-o7];show w
 show wpAny_allTrue_And_cons (T.bind hE hs ns w λb H1 o1 s1 cH dr ed w1=>?_)
 induction b with
 |true=>show aJ (Ts _ _ _ _ _ hE cH dr w1) (λ_ _ p=>p.step ed) λ_ _ x=>x
 |false=>show ⟨H1,o1,cH,ed,w1⟩
theorem Hq{x:Expr}{rest:List Expr}{a:ME}{es:MEs}{Φ:Bool->Phi}{hd:Bool}(T:SB c vars env ρ (isTrue x env (eval x env)) (λH Q E=>wE Φ hd a ρ H (vB Q) E))(Ts:SB c vars env ρ (allTrue .Or rest env) (λH Q E=>zH Φ hd es ρ H Q E)) :
  SB c vars env ρ (allTrue .Or (x::rest) env) (λH Q E=>zH Φ hd (.cons a es) ρ H Q E):=λH own s Q E hE hs ns w=>by
 have w:wE Φ hd a ρ H (vB λb H=>if b then Q true H else zH Φ hd es ρ H Q E) E:=by rw[<-o7];show w
 show wpAny_allTrue_Or_cons (T.bind hE hs ns w λb H1 o1 s1 cH dr ed w1=>?_)
 induction b with
 |true=>show ⟨H1,o1,cH,ed,w1⟩
 |false=>show aJ (Ts _ _ _ _ _ hE cH dr w1) (λ_ _ p=>p.step ed) λ_ _ x=>x
theorem LV{t x y:Expr}{mt a b:ME}{pos:Pos}{Φ:Bool->Phi}{hd:Bool}(T:SB c vars env ρ (isTrue t env (eval t env)) (λH Q E=>wE Φ hd mt ρ H (vB Q) E))(Ta:SE c vars env ρ (eval x env) (λH Q E=>wE Φ hd a ρ H Q E))(Tb:SE c vars env ρ (eval y env) (λH Q E=>wE Φ hd b ρ H Q E)) :
  SE c vars env ρ (eval (.IfExp t x y pos) env) (λH Q E=>wE Φ hd (.ife mt a b) ρ H Q E):=λH own s Q E hE hs ns w=>by
 have w:wE Φ hd mt ρ H (vB λr H=>if r then wE Φ hd a ρ H Q E else wE Φ hd b ρ H Q E) E:=by rw[<-o7];show w
 show wpAny_IfExp (T.bind hE hs ns w λb' H1 o1 s1 cH dr ed w1=>?_)
 induction b' with
 |true=>show cF ed (Ta _ _ _ _ _ hE cH dr w1)
 |false=>show cF ed (Tb _ _ _ _ _ hE cH dr w1)
noncomputable def gu:Expr->Bool
 |.Call (.Name ..) [] [] _=>false
 |_=>true
theorem iN{o:Expr}(h:gu o=true)(attr:Str)(env:Env)(whole:Sem Value):attributeBase o attr env whole=whole:=by
 clear attr env whole _;cases o with
 |Call f a k p=>cases f<;>first|show (rfl:whole=whole)|(cases a<;>first|show (rfl:whole=whole)|(cases k<;>first|show (rfl:whole=whole)|show ft h))
 |_=>show (rfl:whole=whole)
theorem Hr{n:Nat}(G:cN c n)(GO:GOk c.P){e:Expr}{a:ME}{x:Str}{ci k:Nat}{pos:Pos}{Φ:Bool->Phi}{hd:Bool}(hx:(c.P.at_ ci)[k]?=some x)(hn:gu e=true)(T:SE c vars env ρ (eval e env) (λH Q E=>wE Φ hd a ρ H Q E)) :
  SE c vars env ρ (eval (.Attribute e x pos) env) (λH Q E=>wE Φ hd (.attr a ci k) ρ H Q E):=λH own s Q E hE hs ns w=>by
 show Attribute_any_ (T.bind hE hs ns w λcv v H1 o1 s1 e1 cH dr ed w1=>?_) (by rw[arm_eval_Attribute,iN hn])
 show cF ed (xp cH G.X GO.at_ hx e1 w1)
theorem LU{x y:Expr}{a b:ME}{pos:Pos}{Φ:Bool->Phi}{hd:Bool}(Ta:SE c vars env ρ (eval x env) (λH Q E=>wE Φ hd a ρ H Q E))(Tb:SE c vars env ρ (eval y env) (λH Q E=>wE Φ hd b ρ H Q E)) :
  SE c vars env ρ (eval (.Subscript x y pos) env) (λH Q E=>wE Φ hd (.idx a b) ρ H Q E):=λH own s Q E hE hs ns w=>by
 show uH (Ta.bind hE hs ns w λcv v H1 o1 s1 e1 cH dr ed w1=>?_)
 show Tb.bind hE cH dr w1 λMn v2 H2 o2 s2 e2 fc iM lO w2=>?_
 show cF (ed.trans lO) (GB fc e1 e2 w2)
theorem dQ{M:Model}{A:Around}{E':Value->Shared->Prop}{Q:Value->Shared->Prop}(h:Q .none s):wpAny M A (evalPart none env) Q E' s:=aK h
theorem LX{x one:Expr}{a:ME}{p pos p1 p2:Pos}{k:Nat}{Φ:Bool->Phi}{hd:Bool}(Ta:SE c vars env ρ (eval x env) (λH Q E=>wE Φ hd a ρ H Q E)) :
  SE c vars env ρ (eval (.Subscript x (.Slice none none (some (.UnaryOp .USub (.Constant (.int 1) k p1) p2)) p) pos) env) (λH Q E=>wE Φ hd (.rev a) ρ H Q E):=by
 intro H own s Q E hE hs ns w;clear one;show uH (Ta.bind hE hs ns w λcv v H1 o1 s1 e1 cH dr ed w1=>?_);show wpAny_Slice (dQ (dQ (wpAny_UnaryOp (wpAny_Constant_int (PyProof.Rows.neg_int ?_)))));show cF ed ?_;show fJ w1 e1 λp w1=>?_;show mY w1 λvs ep w1=>?_;show bU (cH.list ep) λm xs n g v1=>?_;show nk (s:=s1) cH (bh g) (by rw[v1.length];show aR w1.1 (lb rfl)) rfl rfl rfl .none .none (.int _ _) (by decide) (krv_pick _) v1.reverse w1.2
theorem Hv{x y:Expr}{a b:ME}{p pos:Pos}{Φ:Bool->Phi}{hd:Bool}(Ta:SE c vars env ρ (eval x env) (λH Q E=>wE Φ hd a ρ H Q E))(Tb:SE c vars env ρ (eval y env) (λH Q E=>wE Φ hd b ρ H Q E)) :
  SE c vars env ρ (eval (.Subscript x (.Slice (some y) none none p) pos) env) (λH Q E=>wE Φ hd (.drop a b) ρ H Q E):=by
 intro H own s Q E hE hs ns w;show uH (Ta.bind hE hs ns w λcv v H1 o1 s1 e1 cH dr ed w1=>?_);show wpAny_Slice (show wpAny _ _ (eval y env) _ _ _ from Tb.bind hE cH dr w1 λMn v2 H2 o2 s2 e2 fc iM lO w2=>?_);show dQ (dQ (cF (ed.trans lO) ?_));show fJ w2 e1 λp w2=>?_;show fh w2 e2 λi t w2=>?_;show mY w2 λvs ep w2=>?_;show bU (fc.list ep) λm xs n g v1=>?_;show gM w2 λh1 h2 h3 w2=>?_;(show oE (fE h2) λj aG=>?_;clear h2 h3;subst aG);show nk fc (bh g) (by rw[v1.length];unfold lim at *;show li 0x47fedd18522303a120110 rfl h1) rfl rfl rfl (.int _ _) .none .none (λh=>cz h) ?_ (v1.drop j) w2;show slicePick_from' _ _
theorem PJ{p:Nat}{vs:List Val}(hs:HS c H own s)(ep:H p=some (.ro vs)):∃ xs:List Value,s.heap.IsList p xs.toArray/\Vs xs vs:=by
 (show fm (hs.rep.obj _ _ ep) λm xs aG v=>?_;obtain ⟨o,g,r⟩:=aG);show ⟨xs,⟨o,hs.stay _ _ (hs.rootIn _ _ g),r⟩,v⟩
theorem Hy{x y:Expr}{a b:ME}{p pos:Pos}{Φ:Bool->Phi}{hd:Bool}(Ta:SE c vars env ρ (eval x env) (λH Q E=>wE Φ hd a ρ H Q E))(Tb:SE c vars env ρ (eval y env) (λH Q E=>wE Φ hd b ρ H Q E)) :
  SE c vars env ρ (eval (.Subscript x (.Slice none (some y) none p) pos) env) (λH Q E=>wE Φ hd (.take a b) ρ H Q E):=by
 intro H own s Q E hE hs ns w;show uH (Ta.bind hE hs ns w λcv v H1 o1 s1 e1 cH dr ed w1=>?_);show wpAny_Slice (dQ (show wpAny _ _ (eval y env) _ _ _ from Tb.bind hE cH dr w1 λMn v2 H2 o2 s2 e2 fc iM lO w2=>?_));show dQ (cF (ed.trans lO) ?_);show fJ w2 e1 λp w2=>?_;show fh w2 e2 λi t w2=>?_;show rA w2 (λvs ep w2=>?_) λw2=>PK w2 λvs ep w2=>?_
 .show bU (fc.list ep) λm xs n g v1=>?_;show gM w2 λh1 h2 h3 w2=>?_;(show oE (fE h2) λj aG=>?_;clear h2 h3;subst aG);show nk fc (bh g) (by rw[v1.length];unfold lim at *;show li 0x47fedd18522303a120110 rfl h1) rfl rfl rfl .none (.int _ _) .none (λh=>cz h) ?_ (v1.take j) w2;show slicePick_upto' _ _
 .show bj (PJ fc ep) λxs g v1=>?_;show gM w2 λh1 h2 h3 w2=>?_;(show oE (fE h2) λj aG=>?_;clear h2 h3;subst aG);show nk fc g (by rw[v1.length];show h1) rfl rfl rfl .none (.int _ _) .none (λh=>cz h) ?_ (v1.take j) w2;show slicePick_upto' _ _
theorem ud{pos:Pos}{Φ:Bool->Phi}{hd:Bool}:zX c vars env ρ (spliced (backTo pos (starEach [] env))) (λH Q E=>wEs Φ hd .nil ρ H Q E):=λH own s Q E hE hs ns w=>by
 show ue ⟨[],H,own,.nil,hs,.refl,w⟩
theorem yb{e:Expr}{r:List Expr}{env:Env}(h:dg e.ctorIdx 22=false):starEach (e::r) env=(false,eval e env)::starEach r env:=by cases e<;>first|rfl|show Q3 h
theorem nA{e:Expr}{rest:List Expr}{a:ME}{es:MEs}{pos:Pos}{Φ:Bool->Phi}{hd:Bool}(he:dg e.ctorIdx 22=false)(T:SE c vars env ρ (eval e env) (λH Q E=>wE Φ hd a ρ H Q E))(Ts:zX c vars env ρ (spliced (backTo pos (starEach rest env))) (λH Q E=>wEs Φ hd es ρ H Q E)) :
  zX c vars env ρ (spliced (backTo pos (starEach (e::rest) env))) (λH Q E=>wEs Φ hd (.cons a es) ρ H Q E):=λH own s Q E hE hs ns w=>by
 show kY (T.bind hE hs ns w λcv v H1 o1 s1 e1 cH dr ed w1=>?_) (yb he)
 show Ts.bind hE cH dr w1 λcvs vs H2 o2 s2 e2 fc iM lO w2=>⟨v::vs,H2,o2,.cons e1 e2,fc,ed.trans lO,w2⟩
theorem Hx{es:List Expr}{ms:MEs}{pos:Pos}{Φ:Bool->Phi}{hd:Bool}(Ts:zX c vars env ρ (spliced (backTo pos (starEach es env))) (λH Q E=>wEs Φ hd ms ρ H Q E)) :
  SE c vars env ρ (eval (.List es pos) env) (λH Q E=>wE Φ hd (.list ms) ρ H Q E):=λH own s Q E hE hs ns w=>by
 show wpAny_List (Ts.bind hE hs ns w λcvs vs H2 o2 s2 e2 fc iM lO w2=>⟨by rw[e2.length];show aR w2.1 jl,?_⟩)
 show ba.step lO (ba.list fc w2.2 e2 rfl)
theorem LY{es:List Expr}{ms:MEs}{k:Nat}{pos:Pos}{Φ:Bool->Phi}{hd:Bool}(Ts:zX c vars env ρ (spliced (backTo pos (starEach es env))) (λH Q E=>wEs Φ hd ms ρ H Q E)) :
  SE c vars env ρ (eval (.Tuple es k pos) env) (λH Q E=>wE Φ hd (.tup ms) ρ H Q E):=λH own s Q E hE hs ns w=>by
 show wpAny_Tuple (Ts.bind hE hs ns w λcvs vs H2 o2 s2 e2 fc iM lO w2=>⟨by rw[e2.length];show aR w2.1 jl,?_⟩)
 show ba.step lO (ba.tup fc w2.2 e2 rfl)
theorem Hu{pos:Pos}{Φ:Bool->Phi}{hd:Bool}:SE c vars env ρ (eval (.Dict [] [] pos) env) (λH Q E=>wE Φ hd .dict0 ρ H Q E):=λH own s Q E hE hs ns w=>by
 show wpAny_Dict_empty ?_;show ba.new (o:=.dict []) hs w (dG (aT _)) hs.lowAt (λb ob e=>aC _ e) (λ_ _=>by simp) ⟨.head _,[],Heap.DictOf.new ..,rfl⟩ ?_;show (by rw[show _=_ from aS s.heap rfl];rfl)
noncomputable def eD(es:List Expr):Bool:=es.all λe=>!dg e.ctorIdx 22
theorem kT{env:Env}:∀ {es:List Expr},eD es=true->starEach es env=es.map λe=>(false,eval e env)
 |[],_=>rfl
 |e::r,h=>by
  show (yb (bF (bA h).1)).trans (congrArg _ (kT (bA h).2))
theorem plain_any{pos:Pos}{env:Env}{es:List Expr}(h:eD es=true):(backTo pos (starEach es env)).any (·.1)=false:=by
 rw[kT h];induction es with
 |nil=>rfl
 |cons e r ih=>
  simp[backTo]
theorem da{M:Model}{A:Around}{f:Value}{pos:Pos}{es:List Expr}(h:eD es=true){Q:Args->Shared->Prop}{E':Value->Shared->Prop}
  (k:wpAny M A (spliced (backTo pos (starEach es env))) (λvs s'=>Q ⟨vs,[]⟩ s') E' s):wpAny M A (evalArgs f true (backTo pos (starEach es env)) []) Q E' s:=by
 cases es with
 |nil=>
  unfold evalArgs;change wpAny M A (spliced (backTo pos (starEach [] env)) >>= _) Q E' s;show ah (aJ k (λvs s' h'=>?_) λ_ _ x=>x);show ah (aK (cZ (ah (aK (ah (aK (aK h')))))))
 |cons e r=>
  rw[yb (bF (bA h).1)] at k ⊢;show evalArgs_plain k
end
noncomputable def tN:Lm->Str
 |.append=>"append" | .pop=>"pop" | .extend=>"extend" | .index=>"index"
 |.insert=>"insert" | .remove=>"remove" | .get=>"get" | .dpop=>"pop"
structure Cal (c:Cx) (vars:List Str) (hd:Bool) (Φ:Bool->Phi):Prop where
 fn:∀ (env:Env) (ρ:Sto) (f:Nat) (vs:List Val) (cvs:List Value) (H:MH) (own:List Addr) (s:Shared) (Q:PQ) (E:MH->Prop),(env=c.env\/E=λ_=>False)->HS c H own s->NS c.L c.h₀ vars env ρ own s.heap->Vs cvs vs->Φ hd f vs H Q E->
  wpAny c.M c.A (call (.ref (c.P.fa f)) cvs) (ba c own s.heap Q) (du c vars ρ E) s
 cls:∀ (env:Env) (ρ:Sto) (ci:Nat),(∃ x,c.P.gl.lookup x=some (.ref (c.P.C ci)))->∀ (vs:List Val) (cvs:List Value) (H:MH) (own:List Addr) (s:Shared) (Q:PQ) (E:MH->Prop),(env=c.env\/E=λ_=>False)->HS c H own s->NS c.L c.h₀ vars env ρ own s.heap->Vs cvs vs->
  alloc (.inst ci []) H (λx H=>Φ hd ci (x::vs) H (λr H=>r=.none/\Q x H) E)->
  wpAny c.M c.A (call (.ref (c.P.C ci)) cvs) (ba c own s.heap Q) (du c vars ρ E) s
theorem eB{M:Model}{f:Value}(hf:∀ a,f≠.ref a)(h:Heap)(_:True):∃ k,(k=Keeper.frame\/k=Keeper.machine\/k=Keeper.boundFrame)/\Looks M h (keeperOf f) k :=
 ⟨.machine,.inr (.inl rfl),Looks.of_pure (by induction f<;>first|rfl|show absurd rfl (hf _))⟩
theorem iC{env:Env}{o:Expr}{name:Str}{apos pos:Pos}{args:List Expr}(ho:gu o=true)(hp:eD args=true)(hn:args.length<30)(hl:(apos.endLine==pos.line)=true) :
  eval (.Call (.Attribute o name apos) args [] pos) env=(do
   let ov <-eval o env
   standAt apos.atName
   let (f,first) <-holding [ov] (getMethod ov name (do return (<-importBound o env).getD true))
   callWith pos f first (backTo pos (starEach args env)) (backToKw pos (keywordEach [] env))):=by
 clear env o name apos pos args _ ho hp hn hl;have YP:methodCallForm (args.length+0) (backTo pos (starEach args env)) (backToKw pos (keywordEach [] env))=true:=by
  have h1:(backTo pos (starEach args env)).all (λx=>!x.1)=true:=by
   have:=plain_any (pos:=pos) (env:=env) hp;rw[List.all_eq_not_any_not];simpa using this
  have h2:(backToKw pos (keywordEach [] env))=[]:=rfl;unfold methodCallForm;rw[h1,h2];simpa using hn
 rw[arm_eval_Call,iN ho];unfold methodCall;have Sd:methodCallForm (args.length+([]:List Keyword).length) (backTo pos (starEach args env)) (backToKw pos (keywordEach [] env))=true:=YP;rw[Sd];unfold calleeOf methodCallPos;rw[hl];rfl
section
variable {c:Cx} {vars:List Str} {env:Env} {ρ:Sto} {own:List Addr} {s:Shared} {H:MH} {E:MH->Prop}
theorem Hs{n:Nat}(G:cN c n)(GO:GOk c.P)(he:d5 c env){Φ:Bool->Phi}{hd:Bool}(CA:Cal c vars hd Φ){x:Str}{np pos:Pos}{f:Nat}{args:List Expr}{es:MEs}(hk:env.kindOf x=some .globalImplicit)(iB:(x==("__debug__" : Str))=false)
  (hv:c.P.gl.lookup x=some (.ref (c.P.fa f))) (hp:eD args=true) (Ts:∀ pos,zX c vars env ρ (spliced (backTo pos (starEach args env))) (λH Q E=>wEs Φ hd es ρ H Q E)) :
  SE c vars env ρ (eval (.Call (.Name x np) args [] pos) env) (λH Q E=>wE Φ hd (.call f es) ρ H Q E):=λH own s Q E hE hs ns w=>by
 show dU (pA G GO he hk iB hv hs ?_)
 show eG (P:=λh=>c.P.K.In h) (by rw[plain_any hp];rfl) (keeps_K (GO.kf x f hv)) (da hp ?_)
 show (Ts pos).bind hE hs ns w λcvs vs H1 o1 s1 e1 cH dr ed w1=>⟨G.X.keeps cH.stay,?_⟩
 show cF ed (CA.fn env ρ f vs cvs H1 o1 s1 Q E hE cH dr e1 w1)
theorem LW{n:Nat}(G:cN c n)(GO:GOk c.P)(he:d5 c env){Φ:Bool->Phi}{hd:Bool}(CA:Cal c vars hd Φ){x:Str}{np pos:Pos}{ci:Nat}{args:List Expr}{es:MEs}(hk:env.kindOf x=some .globalImplicit)(iB:(x==("__debug__" : Str))=false)
  (hv:c.P.gl.lookup x=some (.ref (c.P.C ci))) (hp:eD args=true) (Ts:∀ pos,zX c vars env ρ (spliced (backTo pos (starEach args env))) (λH Q E=>wEs Φ hd es ρ H Q E)) :
  SE c vars env ρ (eval (.Call (.Name x np) args [] pos) env) (λH Q E=>wE Φ hd (.new ci es) ρ H Q E):=λH own s Q E hE hs ns w=>by
 show dU (pA G GO he hk iB hv hs ?_)
 show eG (P:=λh=>c.P.K.In h) (by rw[plain_any hp];rfl) (keeps_K (GO.kc x ci hv)) (da hp ?_)
 show (Ts pos).bind hE hs ns w λcvs vs H1 o1 s1 e1 cH dr ed w1=>⟨G.X.keeps cH.stay,?_⟩
 show cF ed (CA.cls env ρ ci ⟨x,hv⟩ vs cvs H1 o1 s1 Q E hE cH dr e1 w1)
theorem uK(f:Bi):∀ a,yw f≠.ref a:=by induction f<;>intro a h<;>cases h
theorem EE{n:Nat}(G:cN c n)(GO:GOk c.P)(he:d5 c env){Φ:Bool->Phi}{hd:Bool}(hh:gb c hd){x:Str}{np pos:Pos}{f:Bi}{args:List Expr}{es:MEs}(hk:env.kindOf x=some .globalImplicit)(iB:(x==("__debug__" : Str))=false)
  (hv:c.P.bl.lookup x=some (yw f)) (hp:eD args=true) (Ts:∀ pos,zX c vars env ρ (spliced (backTo pos (starEach args env))) (λH Q E=>wEs Φ hd es ρ H Q E)) :
  SE c vars env ρ (eval (.Call (.Name x np) args [] pos) env) (λH Q E=>wE Φ hd (.bcall f es) ρ H Q E):=λH own s Q E hE hs ns w=>by
 show dU (mM G GO he hk iB hv hs ?_)
 show eG (P:=λh=>True) (by rw[plain_any hp];rfl) (eB (uK f)) (da hp ?_)
 show (Ts pos).bind hE hs ns w λcvs vs H1 o1 s1 e1 cH dr ed w1=>⟨trivial,?_⟩
 show cF ed (N7 hh cH e1 w1)
theorem AG{M:Model}{A:Around}{p:Addr}{xs:List Value}{n:Nat}(m:Lm)(hm:BX m=false){Q:Value×List Value->Shared->Prop}{E':Value->Shared->Prop}{pl:Sem Bool}(e:s.heap.get? p=some (rz xs n))
  (h:Q (.builtin (yW m),[.ref p]) s):wpAny M A (getMethod (.ref p) (tN m) pl) Q E' s:=by
 have hT:s.TypeIs (.ref p) "list":=⟨_,e,rfl⟩
 have xu:∀ a,cm p=.ref a->∃ o,s.heap.get? a=some o/\o.dict=none:=λa q=>by cases q;show ⟨_,e,rfl⟩
 induction m<;>(try cases hm)
 .show cO hT eT nS F.type_list_append xu h
 .show cO hT eT F.slot_list_pop F.type_list_pop xu h
 .show cO hT eT F.slot_list_extend F.type_list_extend xu h
 .show cO hT eT F.slot_list_index F.type_list_index xu h
 .show cO hT eT F.slot_list_insert F.type_list_insert xu h
 .show cO hT eT F.slot_list_remove F.type_list_remove xu h
theorem Ab{M:Model}{A:Around}{p:Addr}{kvs:List (Int×Value)}{prog:Program}{w:World}(m:Lm)(hm:BX m=true){Q:Value×List Value->Shared->Prop}{E':Value->Shared->Prop}{pl:Sem Bool}(e:s.heap.DictOf (intKind prog w) p kvs)
  (h:Q (.builtin (yW m),[.ref p]) s):wpAny M A (getMethod (.ref p) (tN m) pl) Q E' s:=by
 have hT:s.TypeIs (.ref p) "dict":=e.mapOf.typeIs;have xu:∀ a,cm p=.ref a->∃ o,s.heap.get? a=some o/\o.dict=none:=λa q=>by
  cases q;(show kK e λo es ep g hc _=>?_;clear e);show ⟨o,g,hc.2.1⟩
 induction m<;>(try cases hm)
 .show cO hT oX F.slot_dict_get F.type_dict_get xu h
 .show cO hT oX F.slot_dict_pop F.type_dict_pop xu h
theorem EF{n:Nat}(G:cN c n){Φ:Bool->Phi}{hd:Bool}(fz:c.fz=false){o:Expr}{a:ME}{m:Lm}{apos pos:Pos}{args:List Expr}{es:MEs}(ho:gu o=true)(hp:eD args=true)(hn:args.length<30)(hl:(apos.endLine==pos.line)=true)
  (T:SE c vars env ρ (eval o env) (λH Q E=>wE Φ hd a ρ H Q E)) (Ts:∀ pos,zX c vars env ρ (spliced (backTo pos (starEach args env))) (λH Q E=>wEs Φ hd es ρ H Q E)) :
  SE c vars env ρ (eval (.Call (.Attribute o (tN m) apos) args [] pos) env) (λH Q E=>wE Φ hd (.lcall m a es) ρ H Q E):=by
 intro H own s Q E hE hs ns w;show xJ (T.bind hE hs ns w λcv v H1 o1 s1 e1 cH dr ed w1=>?_) (iC ho hp hn hl);show oA w1 λwk w1=>?_;have fin:wpAny c.M c.A (callWith pos (.builtin (yW m)) [cv] (backTo pos (starEach args env)) (backToKw pos (keywordEach [] env))) (ba c own s.heap Q) (du c vars ρ E) s1:=by
  show eG (P:=λh=>True) (by rw[plain_any hp];rfl) (eB (by intro a h;show Q4 h rfl)) (da hp ?_);show (Ts pos).bind hE cH dr w1 λcvs vs H2 o2 s2 e2 fc iM lO w2=>⟨trivial,?_⟩
  show cF (ed.trans lO) (P7 fz fc e1 e2 w2)
 clear w w1;cases hm:BX m with
 |false=>
  have:tF v H1:=by clear fin;induction m<;>first|show wk|show absurd hm (by decide)
  revert fin;show fJ this e1 λp this fin=>?_;show mY this λ_ ep _=>?_;show bU (cH.list ep) λ_ xs k g _=>?_;show AG m hm g fin
 |true=>
  have:pD v H1:=by induction m<;>first|show wk|show absurd hm (by decide)
  revert fin;show fJ this e1 λp this fin=>?_;show uT this λ_ ep _=>?_;show fm (cH.rep.obj _ _ ep) λ_ kvs g _=>?_;show Ab m hm g fin
theorem EG{n:Nat}(G:cN c n)(GO:GOk c.P){Φ:Bool->Phi}{hd:Bool}(CA:Cal c vars hd Φ){o:Expr}{a:ME}{ci f:Nat}{name:Str}{apos pos:Pos}{args:List Expr}{es:MEs}(ho:gu o=true)(hp:eD args=true)(hn:args.length<30)(hl:(apos.endLine==pos.line)=true)
  (hm:c.P.mt ci name=some f)
  (T:SE c vars env ρ (eval o env) (λH Q E=>wE Φ hd a ρ H Q E)) (Ts:∀ pos,zX c vars env ρ (spliced (backTo pos (starEach args env))) (λH Q E=>wEs Φ hd es ρ H Q E)) :
  SE c vars env ρ (eval (.Call (.Attribute o name apos) args [] pos) env) (λH Q E=>wE Φ hd (.mcall ci f a es) ρ H Q E):=by
 intro H own s Q E hE hs ns w;show xJ (T.bind hE hs ns w λcv v H1 o1 s1 e1 cH dr ed w1=>?_) (iC ho hp hn hl);show fJ w1 e1 λp w1=>?_;show CV w1 λJp l ep w1=>?_;(show oA w1 λaG w2=>?_;clear w w1;obtain rfl:Jp=ci:=aG);show kJ (GO.mt _ _ _ hm) λg1 g2 g3 g4 g5 g6=>?_;show mi (tE cH.rep ep) λdx rv k m1 m2 _ q1 q2 f1 I=>?_;have X:=G.X.keeps cH.stay;have Of:getL name rv=some none:=f1.miss λk _ hk=>(lN g1) (aw hk)
 show method_fn X I g3 g4 g5 g6 (by change (lookIn name (dictOf rv k)).map _=_;rw[lookIn_dict,Of];rfl) ?_;show eG (P:=λh=>c.P.K.In h) (by rw[plain_any hp];rfl) (keeps_K g2) (da hp ?_);show (Ts pos).bind hE cH dr w2 λcvs vs H2 o2 s2 e2 fc iM lO w2=>⟨G.X.keeps fc.stay,?_⟩
 show cF (ed.trans lO) (CA.fn env ρ f (.ref p::vs) (.ref p::cvs) H2 o2 s2 Q E hE fc iM (.cons rfl e2) w2)
end
theorem FL.of_ns{h:Heap}{a:Addr}{m:Str->Option Value}(n:h.Ns a m):FL h a:=by
 (show kK n λo es ep e d _=>?_;clear n);show ⟨o,e,λvs z=>by rw[d] at z;cases z⟩
section
variable {c:Cx} {vars:List Str} {env:Env} {ρ:Sto} {own:List Addr} {s:Shared} {H:MH}
theorem OR.keep{P:Pg}{root h h':Heap}{a:Addr}{o:d6}(k:∀ b∈own,∀ ob,h.get? b=some ob->h'.get? b=some ob)(x:OR P root own H h a o):OR P root own H h' a o:=by
 clear own H P root h h' a o _ k x;induction o with
 |list vs=>(show bU x λm xs n e v=>?_;clear x);show ⟨m,xs,n,k _ m _ e,v⟩
 |ro vs=>show x
 |tup vs=>(show bU x λm xs n e v=>?_;clear x);show ⟨m,xs,n,k _ m _ e,v⟩
 |dict es=>(show fm x λm kvs aG v=>?_;clear x;obtain ⟨ob,rv,ep,e,r⟩:=aG);show ⟨m,kvs,⟨ob,rv,ep,k _ m _ e,r⟩,v⟩
 |inst c l=>(show dt x λm dx es n e1 e2 e3 e4 e5=>?_;clear x);show ⟨m,dx,es,n,e1,e2,k _ m _ e3,k _ e1 _ e4,e5⟩
theorem Rep.keep{P:Pg}{root h h':Heap}(R:Rep P root H own h)(k:∀ b∈own,∀ ob,h.get? b=some ob->h'.get? b=some ob):Rep P root H own h':=by
 show ⟨λa o e=>(R.obj a o e).keep k,λa b c l c' l' C C' dx ha hb e1 e2=>?_,λb m=>?_⟩
 .show hV (R.obj a _ ha) λm1 VK _ _ _ _ q1 _=>?_;show hV (R.obj b _ hb) λm2 VL _ _ _ _ q2 _=>?_;have z1:=k _ m1 _ q1;rw[e1] at z1;have z2:=k _ m2 _ q2;rw[e2] at z2;have:=ix z1;clear z1;subst this;have:=ix z2;clear z2;subst this;show R.inj a b c l c' l' _ _ _ ha hb q1 q2
 .show oA (R.here b m) λe lo=>?_;show oE (aZ.mp e) λo ho=>?_;show ⟨by rw[k _ m _ ho];rfl,lo⟩
theorem HS.keep{s':Shared}(hs:HS c H own s)(k:∀ b o,(b∈own\/c.h₀.get? b=some o)->s.heap.get? b=some o->s'.heap.get? b=some o)(kL:FL s'.heap c.L)(hg:s'.gens=s.gens:=by rfl)(ho:s'.os=s.os:=by rfl):HS c H own s' :=
 ⟨hs.rep.keep λb m o e=>k b o (.inl m) e,λb o e=>k b o (.inr e) (hs.stay b o e),hs.rootIn,hs.low,kL,hs.apart,hg.trans hs.gens,ho.trans hs.os⟩
structure But (X:Addr->Prop) (h h':Heap):Prop where
 keep:∀ b o,¬ X b->h.get? b=some o->h'.get? b=some o
 live:∀ b,X b->(h.get? b).isSome=true->(h'.get? b).isSome=true
theorem But.refl{X:Addr->Prop}{h:Heap}:But X h h:=⟨λ_ _ _ e=>e,λ_ _ e=>e⟩
theorem But.trans{X:Addr->Prop}{h1 h2 h3:Heap}(x:But X h1 h2)(y:But X h2 h3):But X h1 h3 :=
 ⟨λb o n e=>y.keep b o n (x.keep b o n e),λb m e=>y.live b m (x.live b m e)⟩
theorem But.mono{X Y:Addr->Prop}{h h':Heap}(x:But X h h')(i:∀ b,X b->Y b):But Y h h':=by
 show ⟨λb o n e=>x.keep b o (λm=>n (i b m)) e,λb m e=>?_⟩;by_cases q:X b
 .show x.live b q e
 .show oE (aZ.mp e) λo ho=>?_;rw[x.keep b o q ho];rfl
theorem But.of_ext{X:Addr->Prop}{h h':Heap}(e:∀ b o,h.get? b=some o->h'.get? b=some o):But X h h':=⟨λb o _ x=>e b o x,λb _ x=>by
 show oE (aZ.mp x) λo ho=>?_
 rw[e b o ho];rfl⟩
theorem But.isSome{X:Addr->Prop}{h h':Heap}(x:But X h h'){b:Addr}(e:(h.get? b).isSome=true):(h'.get? b).isSome=true:=by
 by_cases q:X b
 .show x.live b q e
 .show oE (aZ.mp e) λo ho=>?_;rw[x.keep b o q ho];rfl
theorem But.same{a:Addr}{h h':Heap}(x:Heap.SameBut a h h')(e:(h'.get? a).isSome=true):But (·=a) h h' :=
 ⟨λb o n q=>x.extBut b o n q,λb m q=>by clear x;subst m;show e⟩
theorem HS.but{s':Shared}{X:Addr->Prop}(hs:HS c H own s)(x:But X s.heap s'.heap)(h1:∀ b∈own,¬ X b)(h2:∀ b,X b->c.h₀.get? b=none)(h3:¬ X c.L\/FL s'.heap c.L)(hg:s'.gens=s.gens:=by rfl)(ho:s'.os=s.os:=by rfl):HS c H own s' :=
 hs.keep (λb o m e=>x.keep b o (λq=>m.elim (λm=>h1 b m q) λm=>by rw[h2 b q] at m;show cz m) e) (h3.elim (λn=>by show bj hs.lives λo e f=>?_;show ⟨o,x.keep _ o n e,f⟩) id) hg ho
noncomputable def Places(env:Env)(b:Addr):Prop:=b=env.locals\/∃ x,env.cells.lookup x=some b
theorem NS.but{X:Addr->Prop}{h h':Heap}{L:Addr}{h₀:Heap}(N:NS L h₀ vars env ρ own h)(x:But X h h')(h1:∀ b,Places env b->¬ X b):NS L h₀ vars env ρ own h':=by
 obtain ⟨⟨m,n1,n2⟩,cel,out,cut,inj,new⟩:=N;show ⟨⟨m,Ns.at n1 λo e=>x.keep _ _ (h1 _ (.inl rfl)) e,n2⟩,λi y Sf JA=>?_,out,λy a e=>?_,inj,new⟩
 .show dR (cel i y Sf JA) λa v e1 e2 e3=>?_;show ⟨a,v,e1,IsCell.at e2 λo e=>x.keep _ _ (h1 _ (.inr ⟨y,e1⟩)) e,e3⟩
 .show iV (cut y a e) λc1 c2 c3 c4 c5=>?_;show ⟨c1,c2,c3,c4,x.isSome c5⟩
theorem NS.places{L:Addr}{h₀ h:Heap}(N:NS L h₀ vars env ρ own h){b:Addr}(p:Places env b):b∉own/\h₀.get? b=none:=by
 rcases p with rfl|⟨x,e⟩
 .show ⟨N.out,N.new⟩
 .show ⟨(N.cut x b e).1,(N.cut x b e).2.2.2.1⟩
noncomputable def yt(env:Env)(x:Str)(b:Addr):Prop:=(env.kindOf x=some .local/\b=env.locals)\/(env.kindOf x=some .cell/\env.cells.lookup x=some b)
theorem yt.places{env:Env}{x:Str}{b:Addr}(h:yt env x b):Places env b:=h.elim (λh=>.inl h.2) λh=>.inr ⟨x,h.2⟩
theorem qQ(he:d5 c env)(dA:vars.Nodup){i:Nat}{x:Str}(hx:vars[i]?=some x)(hk:env.kindOf x=some .local\/env.kindOf x=some .cell){cv:Value}{v:Val}(hv:c9 cv=some v)(hs:HS c H own s)(ns:NS c.L c.h₀ vars env ρ own s.heap)
  {Q:Unit->Shared->Prop} {E':Value->Shared->Prop} (k:∀ s',HS c H own s'->NS c.L c.h₀ vars env (upd ρ i v) own s'.heap->But (yt env x) s.heap s'.heap->Q () s') :
  wpAny c.M c.A (storeName env x cv) Q E' s:=by
 clear c vars env ρ own s H i x cv v Q E' _ he dA hx hk hv hs ns k;have hi:∀ j y,vars[j]?=some y->y=x->j=i:=λj y h1 h2=>by
  clear hk k;subst h2;show oE (ao.mp h1) λl1 e1=>?_;show (nF l1 dA).mp (h1.trans hx.symm)
 have hu:∀ j,j≠i->upd ρ i v j=ρ j:=λj h=>by simp[upd,h]
 have UG:upd ρ i v i=some v:=by simp[upd]
 have Nc:∀ {h':Heap},But (Places env) s.heap h'->∀ y a,env.cells.lookup y=some a->a∉own/\a≠env.locals/\a≠c.L/\c.h₀.get? a=none/\(h'.get? a).isSome=true:=λb y a e=>by
  show iV (ns.cut y a e) λc1 c2 c3 c4 c5=>?_;show ⟨c1,c2,c3,c4,b.isSome c5⟩
 have VX:∀ {h':Heap},But (yt env x) s.heap h'->(env.locals=c.L->FL h' c.L)->FL h' c.L:=λ{h'} b q=>by
  by_cases z:env.locals=c.L
  .show q z
  .show bj hs.lives λo e f=>?_;show ⟨o,b.keep _ o (λp=>?_) e,f⟩;rcases p with ⟨_,p⟩|⟨_,p⟩
   .show z p.symm
   .show (ns.cut x _ p).2.2.1 rfl
 rcases hk with hk|hk
 .show bj ns.loc λm n1 n2=>?_;show wpAny_storeName_local hk n1 (λh' hn Az=>?_) (by rw[he.kind];rfl);have b1:But (yt env x) s.heap h':=(But.same Az (Ns.isSome hn)).mono λb e=>.inl ⟨hk,e⟩;have b0:But (Places env) s.heap h':=b1.mono λb e=>e.places;show k _ (hs.but (s':={ s with heap:=h',toks:=s.toks+1 }) b0 (λb m p=>(ns.places p).1 m) (λb p=>(ns.places p).2) (.inr (VX b1 λq=>FL.of_ns (q▸hn)))) ⟨⟨_,hn,λj y h1 h2=>?_⟩,λj y h1 h2=>?_,ns.out,Nc b0,ns.inj,ns.new⟩ b1
  .by_cases q:y=x
   .have:=hi j y h1 q;clear hx hi hu;subst this;rw[UG];simp[q,rel,hv]
   .have hj:j≠i:=λz=>q (by clear UG h2 q;subst z;rw[hx] at h1;cases h1;rfl);rw[hu j hj];simp only[q,if_false];show n2 j y h1 h2
  .show dR (ns.cel j y h1 h2) λa v0 e1 e2 e3=>?_;have hj:j≠i:=λz=>by clear e1;subst z;rw[hx] at h1;cases h1;rw[hk] at h2;cases h2
   show ⟨a,v0,e1,IsCell.at e2 λo e=>Az.extBut a o (ns.cut y a e1).2.1 e,?_⟩;rw[hu j hj];show e3
 .show dR (ns.cel i x hx hk) λa v0 e1 e2 e3=>?_;show wpAny_storeName_cell he.kind hk e1 e2 (λh' hc Az=>?_);have OI:(h'.get? a).isSome=true:=by (show bj hc λo q _=>?_;clear hc);rw[q];rfl
  have b1:But (yt env x) s.heap h':=(But.same Az OI).mono λb e=>.inr ⟨hk,e▸e1⟩;have b0:But (Places env) s.heap h':=b1.mono λb e=>e.places;show bj ns.loc λm n1 n2=>?_
  show k _ (hs.but (s':={ s with heap:=h' }) b0 (λb m p=>(ns.places p).1 m) (λb p=>(ns.places p).2) (.inr (by
   show bj hs.lives λo e f=>?_
   show ⟨o,Az.extBut _ _ (λz=>(ns.cut x a e1).2.2.1 z.symm) e,f⟩))) ⟨⟨m,Ns.at n1 λo e=>Az.extBut _ _ (ns.cut x a e1).2.1.symm e,λj y h1 h2=>?_⟩,λj y h1 h2=>?_,ns.out,Nc b0,ns.inj,ns.new⟩ b1
  .have hj:j≠i:=λz=>by clear e3;subst z;rw[hx] at h1;cases h1;rw[hk] at h2;cases h2
   rw[hu j hj];show n2 j y h1 h2
  .by_cases q:y=x
   .have:=hi j y h1 q;clear VX b1;subst this;subst q;show ⟨a,some cv,e1,hc,by rw[UG];simp[rel,hv]⟩
   .show dR (ns.cel j y h1 h2) λb v1 g1 g2 g3=>?_;have hj:j≠i:=λz=>q (by clear h2 q g1;subst z;rw[hx] at h1;cases h1;rfl);have SG:b≠a:=λz=>q (ns.inj y x a (z▸g1) e1);show ⟨b,v1,g1,IsCell.at g2 λo e=>Az.extBut b o SG e,?_⟩;rw[hu j hj];show g3
theorem kU(he:d5 c env)(dA:vars.Nodup){i:Nat}{x:Str}{pos:Pos}(hx:vars[i]?=some x)(hk:env.kindOf x=some .local\/env.kindOf x=some .cell){cv:Value}{v:Val}(hv:c9 cv=some v)(hs:HS c H own s)(ns:NS c.L c.h₀ vars env ρ own s.heap)
  {Q:Unit->Shared->Prop} {E':Value->Shared->Prop} (k:∀ s',HS c H own s'->NS c.L c.h₀ vars env (upd ρ i v) own s'.heap->But (yt env x) s.heap s'.heap->Q () s') :
  wpAny c.M c.A (assign (.Name x pos) env cv) Q E' s :=
 wpAny_assign_Name (qQ he dA hx hk hv hs ns k)
theorem Fc:plainId "proto.unchain" = true:=by decide +kernel
theorem ru:entryFor table "proto.unchain" = some Builtin.«proto.unchain»:=entryFor_of_tree (by kernel_rfl)
noncomputable def Ro(A:Around)(h:Heap):Prop:=A.handled=none\/∃ x ob vs,A.handled=some (.ref x)/\h.get? x=some ob/\ob.data=.fields vs/\vs[2]?=some .none
theorem Km{hd:Bool}(hh:gb c hd)(hs:HS c H own s):Ro c.A s.heap:=by
 induction hd with
 |false=>show .inl hh
 |true=>
  (show kK hh λx ob vs h1 h2 h3=>?_;clear hh);show .inr ⟨x,ob,vs,h1,hs.stay _ _ h2,h3⟩
theorem vO{α:Type}{M:Program×World}{A:Around}{e:Addr}{oe:Obj}{ve:Array Value}{Q:α->Shared->Prop}{E':Value->Shared->Prop}(hh:Ro A s.heap)(he:s.heap.get? e=some oe)(hd:oe.data=.fields ve)(hz:2<ve.size)(hn:∀ x,A.handled=some (.ref x)->x≠e)
  (k:∀ h',(∀ b o,b≠e->s.heap.get? b=some o->h'.get? b=some o)->(∃ o,h'.get? e=some o/\o.cls=oe.cls)->E' (.ref e) { s with heap:=h' }) :
  wpAny (model M.1 M.2) A (raiseNew (.ref e):Sem α) Q E' s:=by
 simp only[raiseNew];show ah (wpAny_handled ?_);rcases hh with hh|⟨x,ob,vs,hh,hx,ZN,h2⟩
 .rw[hh];show ah (aK (wpAny_throw (k s.heap (λ_ _ _ q=>q) ⟨oe,he,rfl⟩)))
 .rw[hh];have cV:(cm x !=cm e)=true:=by
   have:=hn x hh;simp[bne,this]
  dsimp only;rw[if_pos cV];show ah (cZ (wpAny_runValue (codeAny_builtin ru ?_)));change wpAny _ _ (field (.ref x) 2 >>= _) _ _ s;show ah (fZ hx ZN h2 ?_);show ah (aK (aK ?_));change wpAny _ _ (setField (.ref e) 2 (.ref x) >>= λ_=>throw (.ref e)) _ _ _;show ah (j3 he hd hz (wpAny_throw (k _ (λb o q e1=>(cp _ _ (fW q)).trans e1) ?_)));show ⟨_,eF _ he (k7 (ik hd _)),Bn ..⟩
theorem Dk{prog:Program}{w:World}{A:Around}{E':Value->Shared->Prop}{it l:Addr}{i:Nat}{items}{Q:Option Value->Shared->Prop}(hh:Ro A s.heap)(cV:∀ x,A.handled=some (.ref x)->x≠it)
  (hit:s.heap.IsListIter it l i) (hl:s.heap.IsList l items) (hx:items[i]?=none)
  (hQ:∀ h',Heap.ExtBut it s.heap h'->Q none { s with heap:=h' }):wpAny (model prog w) A (pyNext (.ref it)) Q E' s:=by
 clear s prog w A E' it l i items Q _ hh cV hit hl hx hQ;show bp (id hit) λo ho hc hd=>?_;(show PB hl λol hol _ nl FV=>?_;clear hl);unfold pyNext
 show ah (wpAny_attempt (zJ (name:=jO "__next__") hit.typeIs slot_listiter_next
  (rJ slot_listiter_next hit.typeIs entry_listiter_next ?_ (args_listiter_next _))))
 change wpAny _ _ (field (.ref it) 0 >>= _) _ _ s;show ah (fZ ho hd (x:=.ref l) rfl ?_);change wpAny _ _ (if (cm l==eP)=true then _ else _) _ _ s;rw[if_neg (show ¬ ((cm l==eP)=true) from ei)];change wpAny _ _ (field (.ref it) 1 >>= _) _ _ s;show ah (fZ ho hd (x:=.int i 0) rfl ?_);change wpAny _ _ (seqItems? (.ref l) >>= _) _ _ s;show ah (wm hol FV ?_);simp only[dz,hx];show ah (wpAny_rule (ah (j3 ho hd (lb rfl) ?_)));change wpAny _ _ (newExc (.type "StopIteration") [] >>= _) _ _ _;show ah ?_;simp only[newExc,newTuple];show ah (jJ ?_ (by size_fits));show ah (m:=firstArgMember _ _) (wpAny_of_eq (a:=eP) (by first|rfl|(simp only[firstArgMember];rfl)) ?_);show jJ ?_ (by size_fits);have ext:Heap.ExtBut it s.heap (((s.heap.update it (gG (·.setIfInBounds 0 .none))).push { cls:=.type "tuple",data:=.seq #[] })):=(Heap.SameBut.update ..).extBut.push _;have iL:∀ b o,s.heap.get? b=some o->b<(((s.heap.update it (gG (·.setIfInBounds 0 .none))).push { cls:=.type "tuple",data:=.seq #[] })).objs.size:=λb o e=>by
  rw[i8,Heap.size_update];show iK (bE e)
 show vO (M:=(prog,w)) ?_ (aS _ rfl) rfl ?_ (λx rb=>?_) λh' hk Bu=>?_
 .rcases hh with hh|⟨x,ob,vs,h1,h2,h3⟩
  .show .inl hh
  .show .inr ⟨x,ob,vs,h1,aC _ (ext x _ (cV x h1) h2),h3⟩
 .rw[Array.size_append];show lb rfl
 .rcases hh with hh|⟨y,ob,vs,h1,h2,h3⟩
  .have:A.handled=some (.ref x):=rb;rw[hh] at this;show cz this
  .have:A.handled=some (.ref x):=rb;rw[h1] at this;clear h1;cases this;show dh (iL x _ h2)
 ·(show bj Bu λo' g1 g2=>?_;clear Bu);show ah (wpAny_isInstance (T := "StopIteration") (b:=true) ⟨o',g1,g2⟩ isSubtype_stop ?_);show aK (hQ _ λb o hb e=>hk b o (dh (iL b o e)) (aC _ (ext b o hb e)))
end
noncomputable def isD:ItK->Bool
 |.keys=>true | .vals=>true|_=>false
noncomputable def ar:ItK->Nat
 |.zip=>2 | .enum=>2|_=>1
noncomputable def ITs(P:Pg)(k:ItK)(x y:Val)(its:List (List Val))(it:Addr)(fp:List Addr)(i:Nat)(h:Heap):Prop:=match k with
 |.seq=>fp=[it]/\∃ l,x=.ref l/\h.IsListIter it l i
 |.keys=>fp=[it]/\∃ d kvs ep,x=.ref d/\h.IsKeyIter it d i kvs.length ep/\h.DictAt (intKind P.prog P.w) d kvs ep/\∃ es:List (Int×Val),kvs.map (λp=>(p.1,c9 p.2))=es.map (λp=>(p.1,some p.2))/\its=es.map (λe=>[.int e.1])
 |.vals=>fp=[it]/\∃ d kvs ep,x=.ref d/\h.IsValIter it d i kvs.length ep/\h.DictAt (intKind P.prog P.w) d kvs ep/\∃ es:List (Int×Val),kvs.map (λp=>(p.1,c9 p.2))=es.map (λp=>(p.1,some p.2))/\its=es.map (λe=>[e.2])
 |.zip=>∃ l1 l2 TI TO i1 i2 a b,x=.ref l1/\y=.ref l2/\fp=[it,TI,TO,i1,i2]/\ZipApart it TI TO i1 i2 l1 l2/\IsZip h it TI TO .none/\IsPair h TI (.ref i1) (.ref i2)/\IsPair h TO a b/\h.IsListIter i1 l1 i/\h.IsListIter i2 l2 i
 |.enum=>∃ l j old,x=.ref l/\fp=[it,j]/\it≠j/\IsEnum h it j i old/\h.IsListIter j l i
 |.range=>fp=[it]/\∃ n,x=.int n/\IsRangeIter h it i ((n.toNat:Int)-i) 1
theorem IsListIter.keep{h h':Heap}{a l i}(x:h.IsListIter a l i)(k:∀ o,h.get? a=some o->h'.get? a=some o):h'.IsListIter a l i :=
 let ⟨o,ho,r⟩:=x;⟨o,k o ho,r⟩
theorem DictAt.keep1{prog:Program}{w:World}{h h':Heap}{a kvs ep}(x:h.DictAt (intKind prog w) a kvs ep)(k:∀ o,h.get? a=some o->h'.get? a=some o):h'.DictAt (intKind prog w) a kvs ep :=
 let ⟨o,es,ho,r⟩:=x;⟨o,es,k o ho,r⟩
theorem iS{P:Pg}{k:ItK}{x y:Val}{its:List (List Val)}{it:Addr}{fp:List Addr}{i:Nat}{h h':Heap}(I:ITs P k x y its it fp i h)(k1:∀ b∈fp,∀ o,h.get? b=some o->h'.get? b=some o)
  (k2:isD k=true->∀ d,x=.ref d->∀ o,h.get? d=some o->h'.get? d=some o):ITs P k x y its it fp i h':=by
 clear P k x y its it fp i h h' _ I k1 k2;induction k with
 |seq=>(show fm I λaG l cE a=>?_;clear I;clear k2;subst aG;subst cE);show ⟨rfl,l,rfl,IsListIter.keep a (k1 it (.head _))⟩
 |keys=>(show hV I λaG d kvs ep cE mn b c=>?_;clear I;subst aG;subst cE;obtain ⟨o,q,r⟩:=mn);show ⟨rfl,d,kvs,ep,rfl,⟨o,k1 it (.head _) o q,r⟩,DictAt.keep1 b (k2 rfl d rfl),c⟩
 |vals=>(show hV I λaG d kvs ep cE mn b c=>?_;clear I;subst aG;subst cE;obtain ⟨o,q,r⟩:=mn);show ⟨rfl,d,kvs,ep,rfl,⟨o,k1 it (.head _) o q,r⟩,DictAt.keep1 b (k2 rfl d rfl),c⟩
 |zip=>
  clear k2;obtain ⟨l1,l2,TI,TO,i1,i2,a,b,rfl,rfl,rfl,D,z1,z2,z3,z4,z5⟩:=I;show ⟨l1,l2,TI,TO,i1,i2,a,b,rfl,rfl,rfl,D,k1 _ (by simp) _ z1,k1 _ (by simp) _ z2,k1 _ (by simp) _ z3,IsListIter.keep z4 (k1 _ (by simp)),IsListIter.keep z5 (k1 _ (by simp))⟩
 |enum=>(show gz I λl j old aG cE n a b=>?_;clear I;clear k2;subst aG;subst cE);show ⟨l,j,old,rfl,rfl,n,k1 _ (by simp) _ a,IsListIter.keep b (k1 _ (by simp))⟩
 |range=>(show fm I λaG n cE a=>?_;clear I;clear k2;subst aG;subst cE);show ⟨rfl,n,rfl,k1 _ (by simp) _ a⟩
noncomputable def Q9(vars:List Str)(env:Env)(xs:List Nat)(b:Addr):Prop:=∃ i∈xs,∃ x,vars[(i:Nat)]?=some x/\yt env x b
theorem Q9.places{vars:List Str}{env:Env}{xs:List Nat}{b:Addr}(h:Q9 vars env xs b):Places env b:=by
 show IV h λ_ _ _ _ h=>?_;show h.places
inductive mG (vars:List Str) (env:Env):List Nat->Expr->Prop
 |one {i:Nat} {x:Str} {pos:Pos}:vars[i]?=some x->(env.kindOf x=some .local\/env.kindOf x=some .cell)->mG vars env [i] (.Name x pos)
 |two {i j:Nat} {x y:Str} {p1 p2 pos:Pos} {k:Nat}:vars[i]?=some x->(env.kindOf x=some .local\/env.kindOf x=some .cell)->vars[j]?=some y->(env.kindOf y=some .local\/env.kindOf y=some .cell)->mG vars env [i,j] (.Tuple [.Name x p1,.Name y p2] k pos)
section
variable {c:Cx} {vars:List Str} {env:Env} {ρ:Sto} {own:List Addr} {s:Shared} {H:MH}
theorem HG(hh:c.A.handled=none)(he:d5 c env)(dA:vars.Nodup){i j:Nat}{x y:Str}{p1 p2 pos:Pos}{k:Nat}(hx:vars[i]?=some x)(kx:env.kindOf x=some .local\/env.kindOf x=some .cell)(hy:vars[j]?=some y)(ky:env.kindOf y=some .local\/env.kindOf y=some .cell)
  {T:Addr} {a b:Value} {u v:Val} (ht:s.heap.IsTuple T #[a,b]) (ha:c9 a=some u) (hb:c9 b=some v) (hs:HS c H own s) (ns:NS c.L c.h₀ vars env ρ own s.heap)
  {Q:Unit->Shared->Prop} {E':Value->Shared->Prop} (q:∀ s',HS c H own s'->NS c.L c.h₀ vars env (upd (upd ρ i u) j v) own s'.heap->But (λb=>yt env x b\/yt env y b) s.heap s'.heap->Q () s') :
  wpAny c.M c.A (assign (.Tuple [.Name x p1,.Name y p2] k pos) env (.ref T)) Q E' s:=by
 show wpAny_assign_Tuple hh ht rfl rfl λh' hk=>?_;have ext:∀ b o,s.heap.get? b=some o->h'.get? b=some o:=λb o e=>hk b o (dh (bE e)) e;have cH:HS c H own { s with heap:=h' }:=hs.ext ext;have dr:NS c.L c.h₀ vars env ρ own h':=ns.step (z:=false) (Step.ext ext);change wpAny c.M c.A (assignInOrder [assign (.Name x p1) env,assign (.Name y p2) env] [a,b]) Q E' _;change wpAny c.M c.A (do holding [b] (assign (.Name x p1) env a);assignInOrder [assign (.Name y p2) env] [b]) Q E' _;show ah (cZ (kU he dA hx kx ha cH dr λs2 fc iM b2=>?_));change wpAny c.M c.A (do holding [] (assign (.Name y p2) env b);assignInOrder [] []) Q E' _;show ah (cZ (kU he dA hy ky hb fc iM λs3 xB xS b3=>?_));show aK (q s3 xB xS ((But.of_ext (X:=λb=>yt env x b\/yt env y b) ext).trans ((b2.mono λb=>.inl).trans (b3.mono λb=>.inr))))
end
noncomputable def Fh(c:Cx)(env:Env)(own fp:List Addr):Prop:=∀ b∈fp,b∉own/\c.h₀.get? b=none/\¬ Places env b/\b≠c.L
section
variable {c:Cx} {vars:List Str} {env:Env} {ρ:Sto} {own:List Addr} {s:Shared} {H H0:MH} {hd:Bool} {x y:Val} {its:List (List Val)} {as:List Nat} {it:Addr} {fp:List Addr} {i:Nat} {xs:List Nat} {target:Expr} {vs:List Val}
theorem sL{kvs:List (Int×Value)}{es:List (Int×Val)}(e:kvs.map (λp=>(p.1,c9 p.2))=es.map (λp=>(p.1,some p.2))){i:Nat}{p:Int×Val}(h:es[i]?=some p):∃ v,kvs[i]?=some (p.1,v)/\c9 v=some p.2:=by
 have q:=congrArg (λl=>l[i]?) e;simp only[au,h,jc] at q;(show bj (aV.mp q) λaG h1 h2=>?_;obtain ⟨a,b⟩:=aG);simp only[il] at h2;(show oA h2 λh3 h4=>?_;clear h2);subst h3;show ⟨b,h1,h4⟩
theorem nx(h:dD hd .seq x y H0=some (its,as)):∃ p vs,x=.ref p/\H0 p=some (.list vs)/\its=vs.map (λv=>[v])/\as=[p]:=by
 show bj (gx h) λp e1 h=>?_;show bj (gx h) λv e2 h=>?_;cases h;show ⟨p,v,xY e1,Dl e2,rfl,rfl⟩
theorem gg(h:dD hd .keys x y H0=some (its,as)):hd=false/\∃ p es,x=.ref p/\H0 p=some (.dict es)/\its=es.map (λe=>[.int e.1])/\as=[p]:=by
 show oA (vE h) λhh h=>?_;show bj (gx h) λp e1 h=>?_;show bj (gx h) λv e2 h=>?_;cases h;show ⟨hh,p,v,xY e1,Jv e2,rfl,rfl⟩
theorem gh(h:dD hd .vals x y H0=some (its,as)):hd=false/\∃ p es,x=.ref p/\H0 p=some (.dict es)/\its=es.map (λe=>[e.2])/\as=[p]:=by
 show oA (vE h) λhh h=>?_;show bj (gx h) λp e1 h=>?_;show bj (gx h) λv e2 h=>?_;cases h;show ⟨hh,p,v,xY e1,Jv e2,rfl,rfl⟩
theorem ny(h:dD hd .zip x y H0=some (its,as)):hd=false/\∃ p q vs ws,x=.ref p/\y=.ref q/\H0 p=some (.list vs)/\H0 q=some (.list ws)/\vs.length=ws.length/\its=(vs.zip ws).map (λx=>[x.1,x.2])/\as=[p,q]:=by
 show oA (vE h) λhh h=>?_;show bj (gx h) λp e1 h=>?_;show bj (gx h) λq e2 h=>?_;show bj (gx h) λv e3 h=>?_;show bj (gx h) λw e4 h=>?_;by_cases e5:v.length=w.length
 .rw[if_pos e5] at h;cases h;show ⟨hh,p,q,v,w,xY e1,xY e2,Dl e3,Dl e4,e5,rfl,rfl⟩
 .rw[if_neg e5] at h;show cz h
theorem lu(h:dD hd .enum x y H0=some (its,as)):hd=false/\∃ p vs,x=.ref p/\H0 p=some (.list vs)/\its=vs.zipIdx.map (λx=>[.int x.2,x.1])/\as=[p]:=by
 show oA (vE h) λhh h=>?_;show bj (gx h) λp e1 h=>?_;show bj (gx h) λv e2 h=>?_;cases h;show ⟨hh,p,v,xY e1,Dl e2,rfl,rfl⟩
theorem jt(h:dD hd .range x y H0=some (its,as)):hd=false/\∃ n,x=.int n/\(-1000000<=n/\n<=1000000)/\its=(gq n.toNat).map (λ(i:Nat)=>[Val.int (i:Int)])/\as=[]:=by
 show oA (vE h) λhh h=>?_;show bj (gx h) λn e1 h=>?_;by_cases e5:-1000000<=n/\n<=1000000
 .rw[if_pos e5] at h;cases h;show ⟨hh,n,GC e1,e5,rfl,rfl⟩
 .rw[if_neg e5] at h;show cz h
theorem sW{k:ItK}(hh:gb c hd)(he:d5 c env)(dA:vars.Nodup)(I:ITs c.P k x y its it fp i s.heap)(F:Fh c env own fp)(hs:HS c H own s)(ns:NS c.L c.h₀ vars env ρ own s.heap)
  (bT:dD hd k x y H0=some (its,as)) (hu:iD as H0 H) (hv:its[i]?=some vs) (ht:mG vars env xs target) (ha:xs.length=ar k)
  {Q:Unit->Shared->Prop} {E':Value->Shared->Prop}
  (q:∀ s',HS c H own s'->NS c.L c.h₀ vars env (bindL ρ xs vs) own s'.heap->ITs c.P k x y its it fp (i+1) s'.heap->But (λb=>b∈fp\/Q9 vars env xs b) s.heap s'.heap->Q () s') :
  wpAny c.M c.A (pyNext (.ref it)) (λr s1=>∃ v,r=some v/\wpAny c.M c.A (letOwnedTupleGo target (.ref it) v) (λ_ s2=>wpAny c.M c.A (assign target env v) Q E' s2) E' s1) E' s:=by
 clear c vars env ρ own s H H0 hd x y its as it fp i xs target vs k Q E' _ hh he dA I F hs ns bT hu hv ht ha q;have one:ar k=1->∀ (cv:Value) (v:Val) (s1:Shared),vs=[v]->c9 cv=some v->But (·∈fp) s.heap s1.heap->s1.gens=s.gens->s1.os=s.os->ITs c.P k x y its it fp (i+1) s1.heap->
   wpAny c.M c.A (letOwnedTupleGo target (.ref it) cv) (λ_ s2=>wpAny c.M c.A (assign target env cv) Q E' s2) E' s1:=by
  intro hk cv v s1 IA ZH b1 hg pB I1;clear I hv;cases ht with
  |two=>rw[hk] at ha;cases ha
  |@one j z pos hj kj=>
   have cH:HS c H own s1:=hs.but b1 (λb m p=>(F b p).1 m) (λb p=>(F b p).2.1) (.inl λp=>(F _ p).2.2.2 rfl) hg pB;have dr:NS c.L c.h₀ vars env ρ own s1.heap:=ns.but b1 λb p m=>(F b m).2.2.1 p;change wpAny c.M c.A (pure ()) _ _ _;show aK (kU he dA hj kj ZH cH dr λs2 fc iM b2=>q s2 fc ?_ ?_ ((b1.mono λb m=>.inl m).trans (b2.mono λb m=>.inr ⟨j,.head _,z,hj,m⟩)))
   .clear q;subst IA;show iM
   .show iS I1 (λb m o e=>b2.keep b o (λp=>(F b m).2.2.1 p.places) e) λhD d iB o e=>b2.keep d o (λp=>?_) e;clear hk I1 ha;subst iB;have:d∈own:=by
     induction k<;>(try cases hD)
     ·(show dH (gg bT) λ_ p es e1 e2 _ aG=>?_;clear bT;subst aG);cases e1;show (hs.rep.obj d _ ((hu d (.head _)).trans e2)).1
     ·(show dH (gh bT) λ_ p es e1 e2 _ aG=>?_;clear bT;subst aG);cases e1;show (hs.rep.obj d _ ((hu d (.head _)).trans e2)).1
    show (ns.places p.places).1 this
 have two:hd=false->∀ (T:Addr) (a b:Value) (u v:Val) (s1:Shared),vs=[u,v]->c9 a=some u->c9 b=some v->s1.heap.IsTuple T #[a,b]->But (·∈fp) s.heap s1.heap->s1.gens=s.gens->s1.os=s.os->ITs c.P k x y its it fp (i+1) s1.heap->
   isD k=false->xs.length=2->wpAny c.M c.A (assign target env (.ref T)) Q E' s1:=by
  intro NY T a b u v s1 IA Zt ZA hT b1 hg pB I1 hD OS;clear bT ha one;subst NY;cases ht with
  |one=>cases OS
  |@two j j' z z' p1 p2 pos kk hj kj jj UZ=>
   have cH:HS c H own s1:=hs.but b1 (λb m p=>(F b p).1 m) (λb p=>(F b p).2.1) (.inl λp=>(F _ p).2.2.2 rfl) hg pB;have dr:NS c.L c.h₀ vars env ρ own s1.heap:=ns.but b1 λb p m=>(F b m).2.2.1 p;show HG hh he dA hj kj jj UZ hT Zt ZA cH dr λs2 fc iM b2=>q s2 fc ?_ ?_ ((b1.mono λb m=>.inl m).trans (b2.mono λb m=>.inr (m.elim (λm=>⟨j,.head _,z,hj,m⟩) λm=>⟨j',.tail _ (.head _),z',jj,m⟩)))
   .subst IA;show iM
   .show iS I1 (λb m o e=>b2.keep b o (λp=>(F b m).2.2.1 (p.elim yt.places yt.places)) e) λh _ _ _ _=>by rw[hD] at h;show ft h
 have BH:∀ {a:Addr} {h':Heap},a∈fp->Heap.SameBut a s.heap h'->(h'.get? a).isSome=true->But (·∈fp) s.heap h':=λm sb hs=>(But.same sb hs).mono λb e=>e▸m;clear q;induction k with
 |seq=>
  (show fm I λaG l cE a=>?_;clear I;clear F two;subst aG;subst cE);(show jn (nx bT) λp ws e1 e2 aG cE=>?_;clear bT;subst aG;subst cE);cases e1;show bU (hs.list ((hu l (.head _)).trans e2)) λm cs n g v1=>?_;rw[au] at hv;(show bj (aV.mp hv) λv tA aG=>?_;subst aG);show bj (v1.get tA) λcv g1 g2=>?_;show wpAny_pyNext_list_item a (bh g) (by simpa using g1) λh' hi sb=>⟨cv,rfl,one rfl cv v _ rfl g2 (BH (.head _) sb ?_) rfl rfl ⟨rfl,l,rfl,hi⟩⟩
  (show bj hi λo ho _=>?_;clear hi);rw[ho];rfl
 |keys=>
  (show jm I λaG d kvs ep cE a D es r1 mn=>?_;clear I;clear two;subst aG;subst cE;subst mn);rw[au] at hv;(show bj (aV.mp hv) λp tA aG=>?_;subst aG);show bj (sL r1 tA) λcv g1 g2=>?_;(show dH (gg bT) λ_ p' rv e1 e2 _ aG=>?_;clear bT;subst aG);cases e1;have hm:=(hs.rep.obj d _ ((hu d (.head _)).trans e2)).1;show wpAny_pyNext_dict_item a D g1 λkey h' hk hi sb=>⟨key,rfl,one rfl key (.int p.1) _ rfl ?_ (BH (.head _) sb ?_) rfl rfl ⟨rfl,d,kvs,ep,rfl,hi,DictAt.keep1 D λo e=>sb.extBut d o (λz=>(F it (.head _)).1 (z▸hm)) e,es,r1,rfl⟩⟩
  ·(show oE (yu hk) λt aG=>?_;clear hk;subst aG);rfl
  ·(show bj hi λo ho _=>?_;clear hi);rw[ho];rfl
 |vals=>
  (show jm I λaG d kvs ep cE a D es r1 mn=>?_;clear I;clear two;subst aG;subst cE;subst mn);rw[au] at hv;(show bj (aV.mp hv) λp tA aG=>?_;subst aG);show bj (sL r1 tA) λcv g1 g2=>?_;(show dH (gh bT) λ_ p' rv e1 e2 _ aG=>?_;clear bT;subst aG);cases e1;have hm:=(hs.rep.obj d _ ((hu d (.head _)).trans e2)).1;show wpAny_pyNext_values_item a D g1 λh' hi sb=>⟨cv,rfl,one rfl cv p.2 _ rfl g2 (BH (.head _) sb ?_) rfl rfl ⟨rfl,d,kvs,ep,rfl,hi,DictAt.keep1 D λo e=>sb.extBut d o (λz=>(F it (.head _)).1 (z▸hm)) e,es,r1,rfl⟩⟩
  (show bj hi λo ho _=>?_;clear hi);rw[ho];rfl
 |zip=>
  clear BH one;obtain ⟨l1,l2,TI,TO,i1,i2,a,b,rfl,rfl,rfl,D,z1,z2,z3,z4,z5⟩:=I;obtain ⟨NY,p,p',ws,us,e1,e2,e3,e4,hlen,rfl,rfl⟩:=ny bT;clear bT;cases e1;cases e2;show bU (hs.list ((hu l1 (.head _)).trans e3)) λm1 cs n g v1=>?_;show bU (hs.list ((hu l2 (.tail _ (.head _))).trans e4)) λm2 Yg n2 g' v2=>?_;rw[au] at hv;(show bj (aV.mp hv) λaG tA cE=>?_;obtain ⟨v,v'⟩:=aG;subst cE);show oA (rm.mp tA) λIB hw2=>?_;show bj (v1.get IB) λcv g1 g2=>?_;show bj (v2.get hw2) λVH YS YT=>?_;show wpAny_pyNext_zip_item D z1 z2 z3 z4 z5 (bh g) (bh g') (by simpa using g1) (by simpa using YS) λh' q1 q2 q3 q4 q5 q6 q7=>⟨_,rfl,?_⟩
  have live:∀ b,b∈[it,TI,TO,i1,i2]->(h'.get? b).isSome=true:=λb m=>by
   have t1:(h'.get? TI).isSome=true:=by rw[q7 TI _ D.TIz D.TITO D.TIi1 D.TIi2 z2];rfl
   (show bj q3 λo3 Iu _=>?_;clear q3);(show bj q4 λo4 Iv _=>?_;clear q4);simp only[ag,bW,or_false] at m;clear D z1 z2 z3 z4 z5 two q7;rcases m with rfl|rfl|rfl|rfl|rfl
   .rw[q1];rfl
   .show t1
   .rw[q2];rfl
   .rw[Iu];rfl
   .rw[Iv];rfl
  have bb:But (·∈[it,TI,TO,i1,i2]) s.heap h':=⟨λb o n e=>q7 b o (λz=>n (by simp[z])) (λz=>n (by simp[z])) (λz=>n (by simp[z])) (λz=>n (by simp[z])) e,λb m _=>live b m⟩
  have UC:=ht;clear UC;cases ht with
  |one=>cases ha
  |@two j j' z z' p1 p2 pos kk hj kj jj UZ=>
   show wpAny_letOwnedTupleGo_zip q1 λh2 r1 sb=>?_;have cV:s.heap.objs.size≠it:=fT (bE z1);show two NY s.heap.objs.size cv VH v v' _ rfl g2 YT ⟨_,sb.extBut _ _ cV q5,rfl,0,rfl⟩ (bb.trans ((But.same sb (by rw[r1];rfl)).mono λb e=>by simp[e])) rfl rfl ?_ rfl rfl;show ⟨l1,l2,TI,TO,i1,i2,cv,VH,rfl,rfl,rfl,D,r1,sb.extBut _ _ D.TIz (q7 _ _ D.TIz D.TITO D.TIi1 D.TIi2 z2),sb.extBut _ _ D.TOz q2,q3.extBut sb.extBut D.i1z,q4.extBut sb.extBut D.i2z⟩
 |enum=>
  (show gz I λl j0 old aG cE cV z1 z2=>?_;clear I;clear one;subst aG;subst cE);(show dH (lu bT) λNY p ws e1 e2 aG cE=>?_;clear bT;subst aG;subst cE);cases e1;show bU (hs.list ((hu l (.head _)).trans e2)) λm cs n g v1=>?_;rw[au,List.getElem?_zipIdx] at hv;simp only[Option.map_map] at hv;(show bj (aV.mp hv) λv tA aG=>?_;subst aG);show bj (v1.get tA) λcv g1 g2=>?_;show wpAny_pyNext_enum_item z1 z2 (bh g) (by simpa using g1) cV λh' q1 q2 q3 q4 q5=>⟨_,rfl,?_⟩
  have live:∀ b,b∈[it,j0]->(h'.get? b).isSome=true:=λb m=>by
   (show bj q2 λo2 Ud _=>?_;clear q2);simp only[ag,bW,or_false] at m;clear cV z1 z2 two q5;rcases m with rfl|rfl
   .rw[q1];rfl
   .rw[Ud];rfl
  have bb:But (·∈[it,j0]) s.heap h':=⟨λb o n e=>q5 b o (λz=>n (by simp[z])) (λz=>n (by simp[z])) e,λb m _=>live b m⟩
  have UC:=ht;clear UC;cases ht with
  |one=>cases ha
  |@two j j' z z' p1 p2 pos kk hj kj jj UZ=>
   show wpAny_letOwnedTupleGo_enum q1 λh2 r1 sb=>?_;have U8:s.heap.objs.size≠it:=fT (bE z1);show two NY s.heap.objs.size _ cv (.int i) v _ (by simp) rfl g2 ⟨_,sb.extBut _ _ U8 q3,rfl,0,rfl⟩ (bb.trans ((But.same sb (by rw[r1];rfl)).mono λb e=>by simp[e])) rfl rfl ?_ rfl rfl;show ⟨l,j0,cv,rfl,rfl,cV,r1,q2.extBut sb.extBut cV.symm⟩
 |range=>
  (show fm I λaG n cE a=>?_;clear I;clear hu two;subst aG;subst cE);(show tV (jt bT) λ_ n' e1 e2 aG cE=>?_;clear bT e2;subst aG;subst cE);cases e1;rw[au] at hv;(show bj (aV.mp hv) λv tA aG=>?_;subst aG);show oE (ao.mp tA) λiL UI=>?_;have UI:i=v:=by simpa using UI
  clear tA;subst UI;have iL:i<n.toNat:=by simpa using iL
  show wpAny_pyNext_range_item a (li 0x47fedcd8808341a418120 rfl iL) λh' hi sb=>⟨_,rfl,one rfl _ (.int i) _ rfl rfl (BH (.head _) sb (by rw[hi];rfl)) rfl rfl ⟨rfl,n,rfl,?_⟩⟩
  have e:(n.toNat:Int)-((i+1:Nat):Int)=(n.toNat:Int)-i-1:=li 0x47fe7c487103038b260420d00120 rfl;rw[e];show hi
end
theorem nq{N:Nat}(a b:Nat)(h:dg a b=false):N+a≠N+b:=λe=>fS h (Nat.add_left_cancel e)
theorem lq{p N:Nat}(b:Nat)(h:p<N):p≠N+b:=dh (Nat.lt_add_right b h)
theorem NS.keep{vars:List Str}{env:Env}{ρ:Sto}{own:List Addr}{h h':Heap}{L:Addr}{h₀:Heap}(N:NS L h₀ vars env ρ own h)(k:∀ b o,Places env b->h.get? b=some o->h'.get? b=some o):NS L h₀ vars env ρ own h':=by
 obtain ⟨⟨m,n1,n2⟩,cel,out,cut,inj,new⟩:=N;show ⟨⟨m,Ns.at n1 λo e=>k _ o (.inl rfl) e,n2⟩,λi y Sf JA=>?_,out,λy a e=>?_,inj,new⟩
 .show dR (cel i y Sf JA) λa v e1 e2 e3=>?_;show ⟨a,v,e1,IsCell.at e2 λo e=>k _ o (.inr ⟨y,e1⟩) e,e3⟩
 .show iV (cut y a e) λc1 c2 c3 c4 c5=>?_;show oE (aZ.mp c5) λo ho=>?_;show ⟨c1,c2,c3,c4,by rw[k a o (.inr ⟨y,e⟩) ho];rfl⟩
section
variable {c:Cx} {vars:List Str} {env:Env} {ρ:Sto} {own:List Addr} {s:Shared} {H H0:MH} {hd:Bool} {x y:Val} {its:List (List Val)} {as:List Nat} {it:Addr} {fp:List Addr} {i:Nat}
theorem wb{k:ItK}(hh:gb c hd)(I:ITs c.P k x y its it fp i s.heap)(F:Fh c env own fp)(hs:HS c H own s)(ns:NS c.L c.h₀ vars env ρ own s.heap)(hL:c.L∉fp)
  (bT:dD hd k x y H0=some (its,as)) (hu:iD as H0 H) (hv:its[i]?=none)
  {Q:Option Value->Shared->Prop} {E':Value->Shared->Prop}
  (q:∀ s',HS c H own s'->NS c.L c.h₀ vars env ρ own s'.heap->(∀ b o,b∉fp->s.heap.get? b=some o->s'.heap.get? b=some o)->Q none s') :
  wpAny c.M c.A (pyNext (.ref it)) Q E' s:=by
 clear c vars env ρ own s H H0 hd x y its as it fp i k Q E' _ hh I F hs ns hL bT hu hv q;have fin:∀ h',(∀ b o,b∉fp->s.heap.get? b=some o->h'.get? b=some o)->Q none { s with heap:=h' }:=λh' kp=>by
  show q _ (hs.keep (s':={ s with heap:=h' }) (λb o m e=>kp b o (λz=>m.elim (F b z).1 λm=>by rw[(F b z).2.1] at m;show cz m) e) ?_) (ns.keep λb o p e=>kp b o (λz=>(F b z).2.2.1 p) e) kp;show bj hs.lives λo ho f=>?_;show ⟨o,kp _ o hL ho,f⟩
 clear hL q;induction k with
 |seq=>
  (show fm I λaG l cE a=>?_;clear I;subst aG;subst cE);(show jn (nx bT) λp ws e1 e2 aG cE=>?_;clear bT;subst aG;subst cE);cases e1;show bU (hs.list ((hu l (.head _)).trans e2)) λm cs n g v1=>?_;have hn:cs.toArray[i]?=none:=by
   have:=v1.length;simp at hv ⊢;show li 0x1101ffb76e80a0740507a818130 rfl this hv
  show Dk (Km hh hs) (λz hz=>?_) a (bh g) hn λh' kp=>fin h' λb o n e=>kp b o (λz=>n (by simp[z])) e;clear a fin;rintro rfl;induction hd with
  |false=>have:c.A.handled=none:=hh;rw[this] at hz;show cz hz
  |true=>
   (show kK hh λx' ob vs h1 h2 _=>?_;clear hh);rw[h1] at hz;clear h1;cases hz;rw[(F _ (.head _)).2.1] at h2;show cz h2
 |keys=>
  (show jm I λaG d kvs ep cE a D es r1 mn=>?_;clear I;clear F;subst aG;subst cE;subst mn);(show oA (gg bT) λaG _=>?_;clear bT;subst aG);have hl:kvs.length=es.length:=by simpa using congrArg cg r1
  show wpAny_pyNext_dict_end hh a D (by simp at hv ⊢;show li 0x1101ffb76e80a0740507a818130 rfl hl hv) λh' kp=>fin h' λb o n e=>kp b o (λz=>n (by simp[z])) e
 |vals=>
  (show jm I λaG d kvs ep cE a D es r1 mn=>?_;clear I;subst aG;subst cE;subst mn);(show oA (gh bT) λaG _=>?_;clear bT;subst aG);have hl:kvs.length=es.length:=by simpa using congrArg cg r1
  show wpAny_pyNext_values_end hh a D (by simp at hv ⊢;show li 0x1101ffb76e80a0740507a818130 rfl hl hv) λh' kp=>fin h' λb o n e=>kp b o (λz=>n (by simp[z])) e
 |zip=>
  obtain ⟨l1,l2,TI,TO,i1,i2,a,b,rfl,rfl,rfl,D,z1,z2,z3,z4,z5⟩:=I;obtain ⟨rfl,p,p',ws,us,e1,e2,e3,e4,hlen,rfl,rfl⟩:=ny bT;clear bT;cases e1;cases e2;show bU (hs.list ((hu l1 (.head _)).trans e3)) λm1 cs n g v1=>?_;show bU (hs.list ((hu l2 (.tail _ (.head _))).trans e4)) λm2 Yg n2 g' v2=>?_;have:=v1.length;show wpAny_pyNext_zip_end hh D z1 z2 z3 z4 z5 (bh g) (bh g') (.inl (by simp at hv ⊢;show li 0x110010101110010100ffb76eddba0485d9af5030fa0083d7a8087d00c0e8121f5010ba818150 rfl hlen this hv (sH ws.length us.length))) λh' kp=>fin h' λb o n e=>kp b o (λz=>n (by simp[z])) (λz=>n (by simp[z])) (λz=>n (by simp[z])) (λz=>n (by simp[z])) e
 |enum=>
  (show gz I λl j0 old aG cE cV z1 z2=>?_;clear I;subst aG;subst cE);(show dH (lu bT) λaG p ws e1 e2 cE mn=>?_;clear bT;subst aG;subst cE;subst mn);cases e1;show bU (hs.list ((hu l (.head _)).trans e2)) λm cs n g v1=>?_;have:=v1.length;show wpAny_pyNext_enum_end hh z1 z2 (bh g) (by simp at hv ⊢;show li 0x1101ffb76e80a0740507a818130 rfl this hv) λh' kp=>fin h' λb o n e=>kp b o (λz=>n (by simp[z])) e
 |range=>
  (show fm I λaG n cE a=>?_;clear I;clear hu;subst aG;subst cE);(show tV (jt bT) λaG n' e1 e2 cE mn=>?_;clear bT e2;subst aG;subst cE;subst mn);cases e1;show wpAny_pyNext_range_end hh a (by simp at hv;show li 0x4040040407feddb95062020f66bd4801e540035e7000f280419408021 rfl hv (pL n)) λh' kp=>fin h' λb o n e=>kp b o (λz=>n (by simp[z])) e
theorem Step.live{z:Bool}{own own':List Addr}{h h':Heap}(S:Step z own own' h h')(hh:∀ b∈own',(h'.get? b).isSome=true){b:Addr}(e:h'.get? b=none):h.get? b=none:=by
 cases q:h.get? b with
 |none=>rfl
 |some o=>
  by_cases m:b∈own
  .have:=hh b (S.sub b m);rw[e] at this;show ft this
  .rw[S.pres b o q (.inl m)] at e;show fB e
structure St0 (c:Cx) (vars:List Str) (env:Env) (ρ:Sto) (hd:Bool) (k:ItK) (own:List Addr) (h:Heap) (R:List (List Val)->List Nat->MH->Prop) (itv:Value) (s2:Shared):Prop where
 it:∃ x y its as it fp H' own',itv=.ref it/\dD hd k x y H'=some (its,as)/\ITs c.P k x y its it fp 0 s2.heap/\HS c H' own' s2/\NS c.L c.h₀ vars env ρ own' s2.heap/\Step c.fz own own' h s2.heap/\
  (∀ b∈fp,h.get? b=none/\b∉own'/\c.h₀.get? b=none/\¬ Places env b/\b≠c.L/\(s2.heap.get? b).isSome=true)/\(∀ d,isD k=true->x=.ref d->d∈own')/\R its as H'
theorem Ey{k:ItK}{R:List (List Val)->List Nat->MH->Prop}{h:Heap}{own':List Addr}{s2:Shared}(bT:dD hd k x y H=some (its,as))(hr:R its as H)(hs:HS c H own' s)(ns:NS c.L c.h₀ vars env ρ own' s.heap)(st:Step c.fz own own' h s.heap)
  (ext:∀ b o,s.heap.get? b=some o->s2.heap.get? b=some o) (hg:s2.gens=s.gens) (ho:s2.os=s.os) (I:ITs c.P k x y its it fp 0 s2.heap) (hf:∀ b∈fp,s.heap.get? b=none/\(s2.heap.get? b).isSome=true) :
  St0 c vars env ρ hd k own h R (.ref it) s2:=by
 clear c vars env ρ own s H hd x y its as it fp k R h own' s2 _ bT hr hs ns st ext hg ho I hf;show ⟨x,y,its,as,it,fp,H,own',rfl,bT,I,hs.ext ext hg ho,ns.step (z:=c.fz) (Step.ext ext),st.trans (Step.ext ext),λb m=>?_,λd hD hx=>?_,hr⟩
 .show oA (hf b m) λh1 h2=>?_;have k0:b∉own':=λz=>by have:=(hs.rep.here b z).1;rw[h1] at this;show ft this
  show ⟨st.live (λb m=>(hs.rep.here b m).1) h1,k0,?_,λp=>?_,?_,h2⟩
  .cases q:c.h₀.get? b with
   |none=>rfl
   |some o=>have:=hs.stay b o q;rw[h1] at this;show cz this
  .clear m h2 k0;rcases p with rfl|⟨z,e⟩
   .show bj ns.loc λm' n1 _=>?_;have:=Ns.isSome n1;rw[h1] at this;show ft this
   .have:=(ns.cut z b e).2.2.2.2;rw[h1] at this;show ft this
  .rintro rfl;show bj hs.lives λ_ this _=>?_;rw[h1] at this;show cz this
 .clear hr I;subst hx;induction k<;>(try cases hD)
  ·(show dH (gg bT) λ_ p es e1 e2 _ aG=>?_;clear bT;subst aG);cases e1;show (hs.rep.obj d _ e2).1
  ·(show dH (gh bT) λ_ p es e1 e2 _ aG=>?_;clear bT;subst aG);cases e1;show (hs.rep.obj d _ e2).1
noncomputable abbrev Vl (Φ:Bool->Phi) (hd:Bool) (k:ItK) (e1 e2:ME) (ρ:Sto) (H:MH) (R:List (List Val)->List Nat->MH->Prop) (E:MH->Prop):Prop :=
 wE Φ hd e1 ρ H (λx H=>wE Φ hd e2 ρ H (λy H=>match dD hd k x y H with|some (its,as)=>R its as H|none=>False) E) E
noncomputable def SI(c:Cx)(vars:List Str)(env:Env)(ρ:Sto)(hd:Bool)(Φ:Bool->Phi)(k:ItK)(e1 e2:ME)(iter:Expr):Prop :=
 ∀ H own s R E,(env=c.env\/E=λ_=>False)->HS c H own s->NS c.L c.h₀ vars env ρ own s.heap->Vl Φ hd k e1 e2 ρ H R E->
  wpAny c.M c.A (eval iter env) (λxv s1=>wpAny c.M c.A (pyIter xv) (St0 c vars env ρ hd k own s.heap R) (du c vars ρ E) s1) (du c vars ρ E) s
theorem fX{h:Heap}{n:Nat}(e:h.objs.size<=n):h.get? n=none:=dG e
theorem Lw{Φ:Bool->Phi}{e1:ME}{iter:Expr}(T:SE c vars env ρ (eval iter env) (λH Q E=>wE Φ hd e1 ρ H Q E)):SI c vars env ρ hd Φ .seq e1 (.cst .none) iter:=by
 intro H own s R E hE hs ns w;show T.bind hE hs ns w λcv v H1 o1 s1 q1 cH dr ed w1=>?_;have w1:(match dD hd .seq v .none H1 with|some (its,as)=>R its as H1|none=>False):=w1;cases bT:dD hd .seq v .none H1 with
 |none=>rw[bT] at w1;show w1.elim
 |some p=>
  obtain ⟨its,as⟩:=p;rw[bT] at w1;(show jn (nx bT) λp ws aG e2 cE mn=>?_;subst aG;subst cE;subst mn);have:=fM q1;clear q1;subst this;show bU (cH.list e2) λm cs n g v1=>?_;show wpAny_pyIter_list (bh g) (Ey bT w1 cH dr ed (λb o e=>aC _ e) rfl rfl (fp:=[s1.heap.objs.size]) ⟨rfl,p,rfl,_,aS _ rfl,rfl,rfl⟩ λb m=>?_);have:=aa.mp m;clear m;subst this;show ⟨fX (aT _),by rw[aS _ rfl];rfl⟩
theorem GX{Φ:Bool->Phi}{e1:ME}{iter:Expr}(T:SE c vars env ρ (eval iter env) (λH Q E=>wE Φ hd e1 ρ H Q E)):SI c vars env ρ hd Φ .keys e1 (.cst .none) iter:=by
 intro H own s R E hE hs ns w;show T.bind hE hs ns w λcv v H1 o1 s1 q1 cH dr ed w1=>?_;have w1:(match dD hd .keys v .none H1 with|some (its,as)=>R its as H1|none=>False):=w1;cases bT:dD hd .keys v .none H1 with
 |none=>rw[bT] at w1;show w1.elim
 |some p=>
  obtain ⟨its,as⟩:=p;rw[bT] at w1;(show dH (gg bT) λ_ p es aG e2 cE mn=>?_;subst aG;subst cE;subst mn);have:=fM q1;clear q1;subst this;show fm (cH.rep.obj _ _ e2) λm kvs D he=>?_;show oE D.dictAt λep D=>?_;show wpAny_pyIter_dict (md cH m) D (Ey bT w1 cH dr ed (λb o e=>aC _ e) rfl rfl (fp:=[s1.heap.objs.size]) ⟨rfl,p,kvs,ep,rfl,⟨_,aS _ rfl,rfl,rfl⟩,D.push _,es,he,rfl⟩ λb m=>?_);have:=aa.mp m;clear m;subst this;show ⟨fX (aT _),by rw[aS _ rfl];rfl⟩
theorem GY{Φ:Bool->Phi}{e1:ME}{o:Expr}{apos pos:Pos}(ho:gu o=true)(hl:(apos.endLine==pos.line)=true)(T:SE c vars env ρ (eval o env) (λH Q E=>wE Φ hd e1 ρ H Q E)) :
  SI c vars env ρ hd Φ .vals e1 (.cst .none) (.Call (.Attribute o "values" apos) [] [] pos):=by
 intro H own s R E hE hs ns w;clear c vars env ρ hd Φ e1 o apos pos H own s R E _ ho hl T hE hs ns w;show xJ (T.bind hE hs ns w λcv v H1 o1 s1 q1 cH dr ed w1=>?_) (iC ho rfl (Nat.succ_pos _) hl);have w1:(match dD hd .vals v .none H1 with|some (its,as)=>R its as H1|none=>False):=w1;cases bT:dD hd .vals v .none H1 with
 |none=>rw[bT] at w1;show w1.elim
 |some p=>
  obtain ⟨its,as⟩:=p;rw[bT] at w1;(show dH (gh bT) λ_ p es aG e2 cE mn=>?_;subst aG;subst cE;subst mn);have:=fM q1;clear q1;subst this;show fm (cH.rep.obj _ _ e2) λm kvs D he=>?_;show oE D.dictAt λep D=>?_;have hT:s1.TypeIs (.ref p) "dict":=D.dictOf.mapOf.typeIs;have xu:∀ a,cm p=.ref a->∃ o,s1.heap.get? a=some o/\o.dict=none:=λa q=>by
   cases q;(show dR D λo es g hc _=>?_;clear D);show ⟨o,g,hc.2.1⟩
  show cO hT oX F.slot_dict_values F.type_dict_values xu ?_;show eG (P:=λh=>True) rfl (eB (by intro a h;show Q4 h rfl)) (da rfl ?_);show aK ⟨trivial,?_⟩;show zY F.slot_dict_values hT F.entry_dict_values (F.args_dict_values_1 _) (meets_dict_values (intKind c.P.prog c.P.w) p (md cH m)) ⟨⟨kvs,D.dictOf⟩,?_⟩;have hv:(s1.heap.push { cls:=.type "dict_values",data:=.fields #[.ref p] }).IsValuesView s1.heap.objs.size p:=⟨_,aS _ rfl,rfl,rfl⟩
  show wpAny_pyIter_values (s:={ s1 with heap:=s1.heap.push { cls:=.type "dict_values",data:=.fields #[.ref p] } }) hv (D.push _) ?_;show Ey bT w1 cH dr ed (λb o e=>aC _ (aC _ e)) rfl rfl (fp:=[(s1.heap.push { cls:=.type "dict_values",data:=.fields #[.ref p] }).objs.size])
   ⟨rfl,p,kvs,ep,rfl,⟨_,aS _ rfl,rfl,rfl⟩,(D.push _).push _,es,he,rfl⟩ λb m=>?_
  have:=aa.mp m;clear m;subst this;show ⟨fX (by rw[i8];show iJ _),by rw[aS _ rfl];rfl⟩
theorem Ef{n:Nat}(G:cN c n)(GO:GOk c.P)(he:d5 c env){Φ:Bool->Phi}{e1:ME}{a:Expr}{f:Str}{np pos:Pos}(hk:env.kindOf f=some .globalImplicit)(iB:(f==("__debug__" : Str))=false)
  (hv:c.P.bl.lookup f=some (.type "range")) (hp:eD [a]=true) (sv:dg a.ctorIdx 22=false) (T:SE c vars env ρ (eval a env) (λH Q E=>wE Φ hd e1 ρ H Q E)) :
  SI c vars env ρ hd Φ .range e1 (.cst .none) (.Call (.Name f np) [a] [] pos):=by
 intro H own s R E hE hs ns w;show dU (mM G GO he hk iB hv hs ?_);show eG (P:=λh=>True) (by rw[plain_any hp];rfl) (eB (by intro a h;show Q4 h rfl)) (da hp ?_);show (nA (es:=.nil) sv T ud).bind (Q:=λvs H=>(one vs).elim False λv=>match dD hd .range v .none H with|some (its,as)=>R its as H|none=>False) hE hs ns w λcvs vs H1 o1 s1 q1 cH dr ed w1=>⟨trivial,?_⟩
 show i6 w1 q1 λcv v q2 w1=>?_;have w1:(match dD hd .range v .none H1 with|some (its,as)=>R its as H1|none=>False):=w1;cases bT:dD hd .range v .none H1 with
 |none=>rw[bT] at w1;show w1.elim
 |some p=>
  obtain ⟨its,as⟩:=p;rw[bT] at w1;(show tV (jt bT) λ_ m aG hb cE mn=>?_;subst aG;subst cE;subst mn);(show oE (kW q2) λt aG=>?_;clear q2;subst aG);show call_range_1 ?_;show wpAny_pyIter_range (s:={ s1 with heap:=s1.heap.push { cls:=.type "range",data:=.fields #[.int 0 s1.toks,.int m t,.int 1 (s1.toks+1)] },toks:=s1.toks+1+1 }) (IsRange.new _ _ _ _ _ _ _) (small_one (li 0x7fe5418e2a000 rfl) (li 137332170752 rfl) (li 0x101ffb7280c71506bca90065018d22001 rfl hb) (li 0x443fedcd1406bca90065018d22001 rfl hb)) ?_;show Ey bT w1 cH dr ed (λb o e=>aC _ (aC _ e)) rfl rfl (fp:=[(s1.heap.push { cls:=.type "range",data:=.fields #[.int 0 s1.toks,.int m t,.int 1 (s1.toks+1)] }).objs.size]) ?_ λb m=>?_
  .show ⟨rfl,m,rfl,?_⟩;have e:(m.toNat:Int)-((0:Nat):Int)=Builtin.Range.rangeSize 0 m 1:=by
    rw[rangeSize_one];by_cases hm:0<m
    .rw[if_pos hm];show li 0x44000444040044003feddb9f120018b220400766bd4800e540035e70007280419802011 rfl hm (pL m)
    .rw[if_neg hm];show li 0x40400400004040440003feddb9d062c881001d9af5200395000d79c001ca0106ecc0102011 rfl hm (pL m)
   rw[e];show aS _ rfl
  .have:=aa.mp m;clear m;subst this;show ⟨fX (by rw[i8];show iJ _),by rw[aS _ rfl];rfl⟩
theorem GW{n:Nat}(G:cN c n)(GO:GOk c.P)(he:d5 c env){Φ:Bool->Phi}{e1:ME}{a:Expr}{f:Str}{np pos:Pos}(hk:env.kindOf f=some .globalImplicit)(iB:(f==("__debug__" : Str))=false)
  (hv:c.P.bl.lookup f=some (.type "enumerate")) (hp:eD [a]=true) (sv:dg a.ctorIdx 22=false) (T:SE c vars env ρ (eval a env) (λH Q E=>wE Φ hd e1 ρ H Q E)) :
  SI c vars env ρ hd Φ .enum e1 (.cst .none) (.Call (.Name f np) [a] [] pos):=by
 intro H own s R E hE hs ns w;show dU (mM G GO he hk iB hv hs ?_);show eG (P:=λh=>True) (by rw[plain_any hp];rfl) (eB (by intro a h;show Q4 h rfl)) (da hp ?_);show (nA (es:=.nil) sv T ud).bind (Q:=λvs H=>(one vs).elim False λv=>match dD hd .enum v .none H with|some (its,as)=>R its as H|none=>False) hE hs ns w λcvs vs H1 o1 s1 q1 cH dr ed w1=>⟨trivial,?_⟩
 show i6 w1 q1 λcv v q2 w1=>?_;have w1:(match dD hd .enum v .none H1 with|some (its,as)=>R its as H1|none=>False):=w1;cases bT:dD hd .enum v .none H1 with
 |none=>rw[bT] at w1;show w1.elim
 |some p=>
  obtain ⟨its,as⟩:=p;rw[bT] at w1;(show dH (lu bT) λ_ p ws aG e2 cE mn=>?_;subst aG;subst cE;subst mn);have:=fM q2;clear q2;subst this;show bU (cH.list e2) λm cs n g v1=>?_;show call_enumerate_list (bh g) λh' i1 i2 i3 ext=>?_;show wpAny_pyIter_enum (s:={ s1 with heap:=h' }) i1 ?_;show Ey (s2:={ s1 with heap:=h' }) bT w1 cH dr ed ext rfl rfl (fp:=[s1.heap.objs.size+1,s1.heap.objs.size]) ⟨p,_,_,rfl,rfl,Nat.succ_ne_self _,i1,i2⟩ λb m=>?_;(show bj i2 λo2 g2 _=>?_;clear i2);simp only[ag,bW,or_false] at m;rcases m with rfl|rfl
  .show ⟨fX (iJ _),by rw[i1];rfl⟩
  .show ⟨fX (aT _),by rw[g2];rfl⟩
theorem Lx{n:Nat}(G:cN c n)(GO:GOk c.P)(he:d5 c env){Φ:Bool->Phi}{e1 e2:ME}{a b:Expr}{f:Str}{np pos:Pos}(hk:env.kindOf f=some .globalImplicit)(iB:(f==("__debug__" : Str))=false)
  (hv:c.P.bl.lookup f=some (.type "zip")) (hp:eD [a,b]=true) (sv:dg a.ctorIdx 22=false) (Om:dg b.ctorIdx 22=false) (T:SE c vars env ρ (eval a env) (λH Q E=>wE Φ hd e1 ρ H Q E)) (T2:SE c vars env ρ (eval b env) (λH Q E=>wE Φ hd e2 ρ H Q E)) :
  SI c vars env ρ hd Φ .zip e1 e2 (.Call (.Name f np) [a,b] [] pos):=by
 intro H own s R E hE hs ns w;clear c vars env ρ hd n Φ e1 e2 a b f np pos H own s R E _ G GO he hk iB hv hp sv Om T T2 hE hs ns w;show dU (mM G GO he hk iB hv hs ?_);show eG (P:=λh=>True) (by rw[plain_any hp];rfl) (eB (by intro a h;show Q4 h rfl)) (da hp ?_);show (nA (es:=.cons e2 .nil) sv T (nA (es:=.nil) Om T2 ud)).bind (Q:=λvs H=>(two vs).elim False λq=>match dD hd .zip q.1 q.2 H with|some (its,as)=>R its as H|none=>False) hE hs ns w λcvs vs H1 o1 s1 q1 cH dr ed w1=>⟨trivial,?_⟩
 show zF w1 q1 λcv cu v u q2 q3 w1=>?_;have w1:(match dD hd .zip v u H1 with|some (its,as)=>R its as H1|none=>False):=w1;cases bT:dD hd .zip v u H1 with
 |none=>rw[bT] at w1;show w1.elim
 |some p=>
  obtain ⟨its,as⟩:=p;rw[bT] at w1;obtain ⟨_,p,p',ws,us,rfl,rfl,e3,e4,hlen,rfl,rfl⟩:=ny bT;have:=fM q2;clear q2;subst this;have:=fM q3;clear q3;subst this;show bU (cH.list e3) λm cs n g v1=>?_;show bU (cH.list e4) λm' cs' n' g' v1'=>?_;have iL:p<s1.heap.objs.size:=bE g;have Gg:p'<s1.heap.objs.size:=bE g';show call_zip_2 (bh g) (bh g') λh' z1 z2 z3 z4 z5 z6 ext=>?_;show wpAny_pyIter_zip (s:={ s1 with heap:=h' }) z1 ?_;show Ey (s2:={ s1 with heap:=h' }) bT w1 cH dr ed ext rfl rfl (fp:=[s1.heap.objs.size+4,s1.heap.objs.size+2,s1.heap.objs.size+3,s1.heap.objs.size,s1.heap.objs.size+1])
   ⟨p,p',_,_,_,_,_,_,rfl,rfl,rfl,?_,z1,z2,z3,z4,z5⟩ λb m=>?_
  .show ⟨nq 2 4 rfl,nq 3 4 rfl,nq 0 4 rfl,nq 1 4 rfl,nq 2 3 rfl,nq 2 0 rfl,nq 2 1 rfl,nq 3 0 rfl,nq 3 1 rfl,nq 0 1 rfl,lq 4 iL,lq 3 iL,lq 0 iL,lq 1 iL,lq 4 Gg,lq 3 Gg,lq 0 Gg,lq 1 Gg⟩
  ·(show bj z4 λo4 g4 _=>?_;clear z4);(show bj z5 λo5 g5 _=>?_;clear z5);simp only[ag,bW,or_false] at m;rcases m with rfl|rfl|rfl|rfl|rfl
   .show ⟨fX (li 0x7fe8c09808110 rfl),by rw[z1];rfl⟩
   .show ⟨fX (li 0x7fe8c08c08110 rfl),by rw[z2];rfl⟩
   .show ⟨fX (li 0x7fe8c09408110 rfl),by rw[z3];rfl⟩
   .show ⟨fX (li 137338323216 rfl),by rw[g4];rfl⟩
   .show ⟨fX (li 0x7fe8c08408110 rfl),by rw[g5];rfl⟩
theorem CZ{k:ItK}{M:Program×World}{A:Around}{Q:Value->Shared->Prop}{E':Value->Shared->Prop}(hk:k≠.keys)(I:ITs c.P k x y its it fp i s.heap)(h:Q (.ref it) s):wpAny (model M.1 M.2) A (pyIter (.ref it)) Q E' s:=by
 clear c s x y its it fp i k M A Q E' _ hk I h;induction k with
 |seq=>(show fm I λaG l cE a=>?_;clear I;subst aG;subst cE);show wpAny_pyIter_listiter a h
 |keys=>show absurd rfl hk
 |vals=>(show tW I λaG d kvs ep cE a _=>?_;clear I;subst aG;subst cE);show wpAny_pyIter_valiter a h
 |zip=>obtain ⟨l1,l2,TI,TO,i1,i2,a,b,rfl,rfl,rfl,D,z1,_⟩:=I;show wpAny_pyIter_zip z1 h
 |enum=>(show gz I λl j old aG cE n a b=>?_;clear I;subst aG;subst cE);show wpAny_pyIter_enum a h
 |range=>(show fm I λaG n cE a=>?_;clear I;subst aG;subst cE);show wpAny_pyIter_rangeiter a h
end
noncomputable def iq(sc out:Scope):Scope :=
 { sc with names:=sc.names.map λ(n,k)=>if (k==.free&&out.kind==.function&&out.names.lookup n==some .cell) then (n,.cell) else (n,k) }
theorem Lp(sc:Scope)(env:Env):relabel sc env=iq sc env.scope:=rfl
theorem pb(g:Str->NameKind->NameKind):∀ (names:List (Str×NameKind)) (x:Str),(names.map λ(n,k)=>(n,g n k)).lookup x=(names.lookup x).map (g x):=by
 intro names;induction names with
 |nil=>
  intro _;show rfl
 |cons px r ih=>
  obtain ⟨n,k⟩:=px;intro x;have ih:=ih x;rw[aq,bB,bB];cases hx:x==n with
  |true=>
   have:=beq_iff_eq.mp hx;clear hx;subst this;rfl
  |false=>show ih
theorem vP(sc out:Scope)(x:Str):(iq sc out).names.lookup x=(sc.names.lookup x).map λk=>if (k==.free&&out.kind==.function&&out.names.lookup x==some .cell) then .cell else k:=by
 have:(iq sc out).names=sc.names.map λ(n,k)=>(n,if (k==.free&&out.kind==.function&&out.names.lookup n==some .cell) then .cell else k):=by
  unfold iq;apply aX;intro ⟨n,k⟩ _;dsimp only;split<;>rfl
 rw[this];show pb (λn k=>if (k==.free&&out.kind==.function&&out.names.lookup n==some .cell) then .cell else k) sc.names x
theorem mem_of_lookup{x:Str}{k:NameKind}:∀ {l:List (Str×NameKind)},l.lookup x=some k->(x,k)∈l:=by
 intro l;induction l with
 |nil=>
  intro h;show cz h
 |cons px r ih=>
  obtain ⟨n,j⟩:=px;intro h;rw[bB] at h;cases hx:x==n with
  |true=>rw[hx] at h;cases h;have:=beq_iff_eq.mp hx;clear hx;subst this;show .head _
  |false=>rw[hx] at h;show .tail _ (ih h)
theorem uP(env:Env):∀ (names:List (Str×NameKind)) (acc:List (Str×Addr)),(∀ p∈names,p.2=.free->∃ a,env.cells.lookup p.1=some a)->(∀ x a,acc.lookup x=some a->env.cells.lookup x=some a)->
  ∃ cl,(forIn names acc (λp cs=>do if p.2==.free then (do let a <-cellOf env p.1;pure (eX ((p.1,a)::cs))) else pure (eX cs)):Sem (List (Str×Addr)))=pure cl/\(∀ x a,cl.lookup x=some a->env.cells.lookup x=some a)/\
   (∀ p∈names,p.2=.free->(cl.lookup p.1).isSome=true)/\(∀ x,(acc.lookup x).isSome=true->(cl.lookup x).isSome=true):=by
 intro names;induction names with
 |nil=>intro acc _ h;show ⟨acc,rfl,h,λp m=>(nomatch m),λ_ q=>q⟩
 |cons p r ih=>
  obtain ⟨n,k⟩:=p;intro acc hc h;by_cases hk:k=.free
  .subst hk;show oE (hc _ (.head _) rfl) λa ha=>?_;have vf:∀ x b,((n,a)::acc).lookup x=some b->env.cells.lookup x=some b:=λx b e=>by
    rw[bB] at e;clear hc;cases hx:x==n with
    |true=>rw[hx] at e;cases e;have:=beq_iff_eq.mp hx;clear hx;subst this;show ha
    |false=>rw[hx] at e;show h x b e
   show oS (ih ((n,a)::acc) (λp m=>hc p (.tail _ m)) vf) λcl e1 e2 e3 e4=>?_;show ⟨cl,?_,e2,λp m hp=>?_,λx q=>e4 x ?_⟩
   .rw[<-e1,pn];have:cellOf env n=pure a:=by unfold cellOf;rw[ha]
    simp only[this,beq_self_eq_true,if_true];rfl
   .rcases ag.mp m with rfl|m
    .show e4 _ (by rw[bB,beq_self_eq_true];rfl)
    .show e3 p m hp
   .rw[bB];cases x==n with
    |true=>rfl
    |false=>show q
  .show oS (ih acc (λp m=>hc p (.tail _ m)) h) λcl e1 e2 e3 e4=>?_;show ⟨cl,?_,e2,λp m hp=>?_,e4⟩
   .rw[<-e1,pn];have:(k==zV)=false:=beq_eq_false_iff_ne.mpr hk;simp only[this,yk,if_false];rfl
   .rcases ag.mp m with rfl|m
    .show absurd hp hk
    .show e3 p m hp
theorem xd{env:Env}{sc:Scope}(hc:∀ p∈sc.names,p.2=.free->∃ a,env.cells.lookup p.1=some a) :
  ∃ cl,closureFor sc env=pure cl/\(∀ x a,cl.lookup x=some a->env.cells.lookup x=some a)/\(∀ p∈sc.names,p.2=.free->(cl.lookup p.1).isSome=true):=by
 show oS (uP env sc.names [] hc (λx a h=>cz h)) λcl e1 e2 e3 _=>?_;show ⟨cl,?_,e2,e3⟩;unfold closureFor;have Yn:((forIn sc.names ([]:List (Str×Addr)) (λp cs=>do if p.2==.free then (do let a <-cellOf env p.1;pure (eX ((p.1,a)::cs))) else pure (eX cs)):Sem (List (Str×Addr))) >>= λcs=>pure cs)=pure cl:=by
  rw[e1];rfl
 show Yn
noncomputable def Cx.frz(c:Cx)(b:Bool):Cx:={ c with fz:=c.fz||b }
theorem HS.frz{c:Cx}{H:MH}{own:List Addr}{s:Shared}(b:Bool)(hs:HS c H own s):HS (c.frz b) H own s:=⟨hs.rep,hs.stay,hs.rootIn,hs.low,hs.lives,hs.apart,hs.gens,hs.os⟩
theorem HS.unfrz{c:Cx}{H:MH}{own:List Addr}{s:Shared}{b:Bool}(hs:HS (c.frz b) H own s):HS c H own s:=⟨hs.rep,hs.stay,hs.rootIn,hs.low,hs.lives,hs.apart,hs.gens,hs.os⟩
theorem Step.weak{z:Bool}{o1 o2:List Addr}{h1 h2:Heap}(b:Bool)(S:Step (z||b) o1 o2 h1 h2):Step z o1 o2 h1 h2:=⟨λb o e n=>S.pres b o e (n.imp id λq=>by rw[q];rfl),S.fresh,S.sub⟩
structure nL (vars:List Str) (out:Scope) (sc:Scope) (xs:List Nat):Prop where
 fn:sc.kind=.function
 nocell:∀ x∈sc.names,x.2≠.cell
 names:∀ x∈sc.names,x.2=.local->sc.names.lookup x.1=some .local
 free:∀ x∈sc.names,x.2=.free->out.names.lookup x.1=some .cell/\∃ i:Nat,vars[i]?=some x.1
 loc:∀ (i:Nat) x,vars[i]?=some x->(iq sc out).names.lookup x=some .local->i∈xs
 xsl:∀ i∈xs,∃ x,vars[(i:Nat)]?=some x/\(iq sc out).names.lookup x=some .local
 outfn:out.kind=.function
section
variable {c:Cx} {vars:List Str} {env:Env} {ρ:Sto} {own:List Addr} {s:Shared} {H:MH}
theorem oP:∀ (xs:List Nat) (vs:List Val) (ρ cc:Sto),xs.length=vs.length->(∀ i,i∉xs->cc i=ρ i)->bindL cc xs vs=bindL ρ xs vs
 |[],[],ρ,cc,_,h=>funext λi=>h i (bW)
 |x::xs,v::vs,ρ,cc,hl,h=>by
  show oP xs vs (upd ρ x v) (upd cc x v) (by simpa using hl) λi hi=>?_
  unfold upd
  by_cases q:i=x
  .simp[q]
  .simp only[q,if_false];show h i (by simp[q,hi])
 |[],_::_,_,_,hl,_=>by cases hl
 |_::_,[],_,_,hl,_=>by cases hl
theorem rU:∀ (xs:List Nat) (vs:List Val) (ρ:Sto) (i:Nat),i∉xs->bindL ρ xs vs i=ρ i
 |[],_,_,_,_=>rfl
 |_::_,[],_,_,_=>rfl
 |x::xs,v::vs,ρ,i,h=>by
  change bindL (upd ρ x v) xs vs i=ρ i
  rw[rU xs vs _ i λm=>h (.tail _ m)]
  unfold upd
  show if_neg λ(q:i=x)=>h (q▸.head _)
theorem NS.comp{sc:Scope}{xs:List Nat}{cl:List (Str×Addr)}{C:Addr}{h':Heap}(K:nL vars env.scope sc xs)(ns:NS c.L c.h₀ vars env ρ own s.heap)
  (mU:∀ x a,cl.lookup x=some a->env.cells.lookup x=some a) (kD:∀ p∈sc.names,p.2=.free->(cl.lookup p.1).isSome=true)
  (hC:s.heap.get? C=none) (W3:C∉own) (V':c.h₀.get? C=none) (hn:h'.Ns C λ_=>none) (ext:∀ b o,s.heap.get? b=some o->h'.get? b=some o) :
  NS c.L c.h₀ vars (compEnvC sc cl C env) (λi=>if i∈xs then none else ρ i) own h':=by
 have kinds:∀ x k,(compEnvC sc cl C env).kindOf x=some k->(iq sc env.scope).names.lookup x=some k:=λx k e=>e;show ⟨⟨_,hn,λi x h1 h2=>?_⟩,λi x h1 h2=>?_,W3,λx a e=>?_,λx y a e1 e2=>ns.inj x y a (mU _ _ e1) (mU _ _ e2),V'⟩
 .rw[if_pos (K.loc i x h1 h2)];rfl
 .have hx:=kinds x _ h2;rw[vP] at hx;show bj (aV.mp hx) λk k1 k2=>?_;have hm:=mem_of_lookup k1;have Kc:k=.free:=by
   by_cases q:k=.free
   .show q
   .have:(k==zV)=false:=beq_eq_false_iff_ne.mpr q;rw[this] at k2;have:k=.cell:=by simpa using k2
    show absurd this (K.nocell _ hm)
  clear k1 k2;subst Kc;have hs:=kD _ hm rfl;show oE (aZ.mp hs) λa ha=>?_;show dR (ns.cel i x h1 (K.free _ hm rfl).1) λa' v e1 e2 e3=>?_;have:=mU _ _ ha;have Ms:a'=a:=by
   have h0:env.cells.lookup x=some a:=this;rw[e1] at h0;show aN h0
  clear this;subst Ms;have Gh:i∉xs:=λm=>by
   show bj (K.xsl i m) λz z1 z2=>?_;rw[h1] at z1;cases z1;have:=z2.symm.trans h2;cases this
  show ⟨a',v,ha,IsCell.at e2 λo e=>ext _ o e,by rw[if_neg Gh];show e3⟩
 .show iV (ns.cut x a (mU _ _ e)) λc1 c2 c3 c4 c5=>?_;show oE (aZ.mp c5) λo ho=>?_;show ⟨c1,?_,c3,c4,by rw[ext _ _ ho];rfl⟩;change a≠C;clear W3 V' hn kinds e;rintro rfl;rw[hC] at ho;show cz ho
theorem HS.adopt{D:Addr}{xs:List Value}{n:Nat}{vs:List Val}(hs:HS c H own s)(hD:D∉own)(h0:c.h₀.get? D=none)(hL:D≠c.L)(lo:sysModules<D)(g:s.heap.get? D=some (rz xs n))(v:Vs xs vs) :
  H D=none/\HS c (upd H D (.list vs)) (D::own) s:=by
 clear c own s H D xs n vs _ hs hD h0 hL lo g v;have nr:c.root.get? D=none:=by
  cases q:c.root.get? D with
  |none=>rfl
  |some o=>have:=hs.rootIn _ _ q;rw[h0] at this;show cz this
 have Hn:H D=none:=by
  cases q:H D with
  |none=>rfl
  |some o=>
   have:=hs.rep.obj D o q;clear q;induction o with
   |list vs=>show absurd this.1 hD
   |ro vs=>(show fm this λ_ xs aG _=>?_;clear this;obtain ⟨o,e,_⟩:=aG);rw[nr] at e;show cz e
   |tup vs=>show absurd this.1 hD
   |dict es=>show absurd this.1 hD
   |inst c l=>show absurd this.1 hD
 show ⟨Hn,⟨⟨λb ob e=>?_,λb1 b2 c1 l1 c2 l2 C C' dx e1 e2 g1 g2=>?_,λb m=>?_⟩,hs.stay,hs.rootIn,hs.low,hs.lives,λb m=>?_,hs.gens,hs.os⟩⟩
 .by_cases q:b=D
  .clear hD h0 hL lo nr Hn;subst q;have:d6.list vs=ob:=by simpa [upd] using e
   clear e;subst this;show ⟨.head _,xs,n,g,v⟩
  .have e':H b=some ob:=by simpa [upd,q] using e
   show OR.updH (λc' l dx C eo eg=>?_) ((hs.rep.obj b ob e').more (λb m=>.tail _ m) λb m=>(ag.mp m).elim (λz=>.inr (z▸nr)) .inl);clear g e q;rintro rfl;subst eo;show dt (hs.rep.obj b _ e') λ_ Jw es n' x1 x2 x3 x4 _=>?_;have:=ix (eg.symm.trans x3);clear x2 x3 x4;subst this;show hD x1
 .have k1:H b1=some (.inst c1 l1):=by
   by_cases q:b1=D
   .simp[upd,q] at e1
   .simpa [upd,q] using e1
  have k2:H b2=some (.inst c2 l2):=by
   by_cases q:b2=D
   .simp[upd,q] at e2
   .simpa [upd,q] using e2
  show hs.rep.inj b1 b2 c1 l1 c2 l2 C C' dx k1 k2 g1 g2
 .rcases ag.mp m with rfl|m
  .show ⟨by rw[g];rfl,lo⟩
  .show hs.rep.here b m
 .rcases ag.mp m with rfl|m
  .show ⟨h0,hL⟩
  .show hs.apart b m
end
noncomputable abbrev tests (ifs:List Expr) (env:Env):Sem Bool:=forIn ifs true λc r=>if r=true then do let ok <-isTrue c env (eval c env);pure (eX ok) else pure (eX r)
section
variable {prog:Program} {w:World} {A:Around} {R:Result->Shared->Prop} {s:Shared}
theorem zZ{elt target iter:Expr}{ifs:List Expr}{scope:Scope}{pos:Pos}{it acc:Value}{env:Env}(I:Nat->Shared->Prop)
  (turn:∀ n s,I n s->wpAny (model prog w) A (pyNext it) (λr s1=>(r=none/\R (.ok .next) s1)\/∃ v,r=some v/\wpAny (model prog w) A (letOwnedTupleGo target it v) (λ_ s2=>wpAny (model prog w) A (assign target env v) (λ_ s3=>
   wpAny (model prog w) A (tests ifs env) (λok s4=>if ok=true then wpAny (model prog w) A (eval elt env) (λx s5=>wpAny (model prog w) A (call (.builtin "list.append") [acc,x]) (λ_ s6=>∃ m,m<n/\I m s6) (λ_ _=>False) s5) (λ_ _=>False) s4
    else ∃ m,m<n/\I m s4) (λ_ _=>False) s3) (λ_ _=>False) s2) (λ_ _=>False) s1) (λ_ _=>False) s)
  (n:Nat) (h:I n s):codeAny (model prog w) A (.compLoop (.ListComp elt [⟨target,iter,ifs,0⟩] scope pos) 0 it acc env) R s:=by
 clear prog w A R s elt target iter ifs scope pos it acc env I n _ turn h;show codeAny_loop rfl I (λn s hI=>?_) n h;change wpAny _ A ((compTurn (.ListComp elt [⟨target,iter,ifs,0⟩] scope pos) 0 it acc env).onRaise (λx=>do noteFrame x env;theTreesLotGoes x)) _ _ s;show wpAny_noted ?_;rw[compTurn_list];show ah (fN (ah (aJ (turn n s hI) (λr s1 h1=>?_) λ_ _ f=>f.elim)));rcases h1 with ⟨rfl,h1⟩|⟨v,rfl,h1⟩
 .show aK h1
 .show ah (aJ h1 (λ_ s2 h2=>ah (aJ h2 (λ_ s3 h3=>ah (aJ h3 (λok s4 h4=>?_) λ_ _ f=>f.elim)) λ_ _ f=>f.elim)) λ_ _ f=>f.elim);induction ok with
  |false=>show aK ⟨rfl,h4⟩
  |true=>show ah (ah (aJ h4 (λx s5 h5=>ah (aJ h5 (λ_ s6 h6=>aK (aK ⟨rfl,h6⟩)) λ_ _ f=>f.elim)) λ_ _ f=>f.elim))
end
theorem Eu{hd:Bool}{k:ItK}{x y:Val}{H0:MH}{its:List (List Val)}{as:List Nat}(h:dD hd k x y H0=some (its,as)):∀ vs∈its,vs.length=ar k:=by
 clear hd k x y H0 its as _ h;intro vs m;clear vs _ m;induction k with
 |seq=>(show jn (nx h) λ_ _ _ _ aG _=>?_;clear h;subst aG);(show bj (ay.mp m) λ_ _ aG=>?_;clear m;subst aG);rfl
 |keys=>(show dH (gg h) λ_ _ _ _ _ aG _=>?_;clear h;subst aG);(show bj (ay.mp m) λ_ _ aG=>?_;clear m;subst aG);rfl
 |vals=>(show dH (gh h) λ_ _ _ _ _ aG _=>?_;clear h;subst aG);(show bj (ay.mp m) λ_ _ aG=>?_;clear m;subst aG);rfl
 |zip=>obtain ⟨_,_,_,_,_,_,_,_,_,_,rfl,_⟩:=ny h;(show bj (ay.mp m) λ_ _ aG=>?_;clear m;subst aG);rfl
 |enum=>(show dH (lu h) λ_ _ _ _ _ aG _=>?_;clear h;subst aG);(show bj (ay.mp m) λ_ _ aG=>?_;clear m;subst aG);rfl
 |range=>(show tV (jt h) λ_ _ _ _ aG _=>?_;clear h;subst aG);(show bj (ay.mp m) λ_ _ aG=>?_;clear m;subst aG);rfl
theorem EJ{C:Sto->MH->PQ->Prop}{T:Sto->MH->PQ->Prop}{xs:List Nat}{ok:MH->Prop}{ρ:Sto}{its:List (List Val)}{acc:List Val}{H:MH}{Q:List Val->MH->Prop}(w:gS C T xs ok ρ its acc H Q):ok H:=by
 cases its with
 |nil=>show w.1
 |cons=>show w.1
section
variable {c:Cx} {vars:List Str} {env:Env} {ρ:Sto} {own:List Addr} {s:Shared} {H:MH}
theorem HS.dAt{k:ItK}{hd:Bool}{x y:Val}{H0:MH}{its:List (List Val)}{as:List Nat}(hs:HS c H own s)(h:dD hd k x y H0=some (its,as))(hu:iD as H0 H)(hD:isD k=true){d:Nat}(hx:x=.ref d):d∈own:=by
 subst hx;induction k<;>(try cases hD)
 ·(show dH (gg h) λ_ p es e1 e2 _ aG=>?_;clear h;subst aG);cases e1;show (hs.rep.obj d _ ((hu d (.head _)).trans e2)).1
 ·(show dH (gh h) λ_ p es e1 e2 _ aG=>?_;clear h;subst aG);cases e1;show (hs.rep.obj d _ ((hu d (.head _)).trans e2)).1
theorem Step.but{z:Bool}{X:Addr->Prop}{own own':List Addr}{h0 h1 h2:Heap}(S:Step z own own' h0 h1)(b:But X h1 h2)(hX:∀ a,X a->h0.get? a=none):Step z own own' h0 h2 :=
 ⟨λa o e n=>b.keep a o (λx=>by rw[hX a x] at e;show cz e) (S.pres a o e n),S.fresh,S.sub⟩
theorem vy{P:Pg}{k:ItK}{x y:Val}{its:List (List Val)}{it:Addr}{fp:List Addr}{i:Nat}{h:Heap}(I:ITs P k x y its it fp i h):∀ b∈fp,(h.get? b).isSome=true:=by
 clear P k x y its it fp i h _ I;intro b m;clear b _ m;induction k with
 |seq=>(show Lg I λaG l cE o e _=>?_;clear I;subst aG;subst cE);have:=aa.mp m;clear m;subst this;rw[e];rfl
 |keys=>(show tW I λaG d kvs ep cE mn _=>?_;clear I;subst aG;subst cE;obtain ⟨o,e,_⟩:=mn);have:=aa.mp m;clear m;subst this;rw[e];rfl
 |vals=>(show tW I λaG d kvs ep cE mn _=>?_;clear I;subst aG;subst cE;obtain ⟨o,e,_⟩:=mn);have:=aa.mp m;clear m;subst this;rw[e];rfl
 |zip=>
  obtain ⟨l1,l2,TI,TO,i1,i2,a,b',rfl,rfl,rfl,D,z1,z2,z3,⟨o4,e4,_⟩,⟨o5,e5,_⟩⟩:=I;simp only[ag,bW,or_false] at m;clear D;rcases m with rfl|rfl|rfl|rfl|rfl
  .rw[z1];rfl
  .rw[z2];rfl
  .rw[z3];rfl
  .rw[e4];rfl
  .rw[e5];rfl
 |enum=>
  (show gz I λl j old aG cE n a mn=>?_;clear I;clear n;subst aG;subst cE;obtain ⟨o4,e4,_⟩:=mn);simp only[ag,bW,or_false] at m;rcases m with rfl|rfl
  .rw[a];rfl
  .rw[e4];rfl
 |range=>(show fm I λaG n cE a=>?_;clear I;subst aG;subst cE);have:=aa.mp m;clear m;subst this;rw[a];rfl
structure CompEnd (c:Cx) (own:List Addr) (h:Heap) (Q:PQ) (acc:Value) (C:Addr) (s':Shared):Prop where
 ns:∃ m,s'.heap.Ns C m
 post:∃ v H' own',c9 acc=some v/\HS c H' own' s'/\Step c.fz own own' h s'.heap/\Q v H'/\C∉own'
 apart:c.h₀.get? C=none/\C≠c.L/\h.get? C=none
theorem uQ{n:Nat}(G:cN c n)(he:d5 c env)(dA:vars.Nodup){Φ:Bool->Phi}{hd:Bool}(hh:gb c hd){k:ItK}{e1 e2 cond em:ME}{elt target iter:Expr}{ifs:List Expr}{sc:Scope}{pos:Pos}{xs:List Nat}
  (K:nL vars env.scope sc xs) (hk:k≠.keys) (ha:xs.length=ar k)
  (Gq:∀ dv:Env,dv.scope=iq sc env.scope->mG vars dv xs target)
  (TI:SI c vars env ρ hd Φ k e1 e2 iter)
  (Tc:∀ dv mr,d5 (c.frz (isD k)) dv->dv.scope=iq sc env.scope->SB (c.frz (isD k)) vars dv mr (tests ifs dv) (λH Q E=>wE Φ hd cond mr H (vB Q) E))
  (Te:∀ dv mr,d5 (c.frz (isD k)) dv->dv.scope=iq sc env.scope->SE (c.frz (isD k)) vars dv mr (eval elt dv) (λH Q E=>wE Φ hd em mr H Q E))
  {cl:List (Str×Addr)} (mU:∀ x a,cl.lookup x=some a->env.cells.lookup x=some a) (kD:∀ p∈sc.names,p.2=.free->(cl.lookup p.1).isSome=true)
  {Q:PQ} {E:MH->Prop} (hE:env=c.env\/E=λ_=>False) (hs:HS c H own s) (ns:NS c.L c.h₀ vars env ρ own s.heap) (w:wE Φ hd (.comp xs k e1 e2 cond em) ρ H Q E) {RR:Value->Addr->Result->Shared->Prop}
  (hR:∀ acc C s',CompEnd c own s.heap Q acc C s'->RR acc C (.ok .next) s') :
  wpAny c.M c.A (eval iter env) (λx s1=>wpAny c.M c.A (pyIter x) (λit s2=>wpAny c.M c.A (newList []) (λacc s3=>
   wpAny c.M c.A (newFunctionEnv sc env.globals cl [] env.qual none .none (some env)) (λNb s4=>
    codeAny c.M c.A (.compStart (.ListComp elt [⟨target,iter,ifs,0⟩] sc pos) 0 it acc { Nb with scope:=relabel sc env }) (RR acc Nb.locals) s4) (du c vars ρ E) s3) (du c vars ρ E) s2) (du c vars ρ E) s1) (du c vars ρ E) s:=by
 clear c vars env ρ own s H n Φ hd k e1 e2 cond em elt target iter ifs sc pos xs cl Q E RR _ G he dA hh K hk ha Gq TI Tc Te mU kD hE hs ns w hR;show aJ (TI H own s (λits as H=>its.length<=lim/\gS (λρ H Q=>wE Φ hd cond ρ H Q (λ_=>False)) (λρ H Q=>wE Φ hd em ρ H Q (λ_=>False)) xs (iD as H) ρ its [] H (λvs H=>alloc (.list vs) H Q)) E hE hs ns w)
  (λxv s1 h1=>aJ h1 (λitv s2 h2=>?_) λ_ _ x=>x) λ_ _ x=>x
 obtain ⟨x,y,its,as,it,fp,H0,tY,rfl,bT,I0,Iw,Py,Ey,vg,ZL,xy,w0⟩:=h2.it;show jJ ?_;show wpAny_newFunctionEnv K.nocell (by intro y hy;simp at hy) (λh3 MG CF=>?_) K.fn;dsimp only at MG CF ⊢;generalize vb:s2.heap.push { cls:=.type "list",dict:=none,data:=.seq ([]:List Value).toArray }=H2 at MG CF ⊢;have Qs:H2.objs.size=s2.heap.objs.size+1:=by rw[<-vb,i8]
 have Nu:s2.heap.objs.size≠H2.objs.size:=by rw[Qs];show dh (dj _)
 have old:∀ b o,s2.heap.get? b=some o->h3.get? b=some o:=λb o e=>
  CF.extBut b o (by rw[Qs];show dh (iK (bE e))) (aC _ (vb▸aC _ e))
 have Nt:h3.get? s2.heap.objs.size=some (rz [] 0):=CF.extBut _ _ Nu (aC _ (vb▸aS _ rfl));have W4:s2.heap.get? s2.heap.objs.size=none:=fX (aT _);have Sh:s2.heap.get? H2.objs.size=none:=fX (by rw[Qs];show iJ _);have Xs:=Iw.lowAt;clear CF Qs;generalize s2.heap.objs.size=D at *
 generalize H2.objs.size=C at *
 have fresh:∀ a,s2.heap.get? a=none->a∉tY/\c.h₀.get? a=none/\a≠c.L/\¬ Places env a/\a∉fp/\s.heap.get? a=none:=λa e=>by
  show ⟨λm=>?_,?_,?_,λp=>?_,λm=>?_,Ey.live (λb m=>(Iw.rep.here b m).1) e⟩
  .have:=(Iw.rep.here a m).1;rw[e] at this;show ft this
  .cases q:c.h₀.get? a with
   |none=>rfl
   |some o=>have:=Iw.stay a o q;rw[e] at this;show cz this
  .rintro rfl;show bj Iw.lives λ_ this _=>?_;rw[e] at this;show cz this
  .rcases p with rfl|⟨z,z1⟩
   .show bj Py.loc λm' n1 _=>?_;have:=Ns.isSome n1;rw[e] at this;show ft this
   .have:=(Py.cut z a z1).2.2.2.2;rw[e] at this;show ft this
  .have:=(vg a m).2.2.2.2.2;rw[e] at this;show ft this
 show kJ (fresh D W4) λVU S8 S9 VV Qm Qn=>?_;show kJ (fresh C Sh) λS6 S7 VS YO VT Ql=>?_;have xS:=NS.comp (c:=c) (h':=h3) K Py mU kD Sh S6 S7 (by simpa using MG) old;have wG:d5 c (compEnvC sc cl C env):=⟨K.fn,he.globals,he.builtins,he.frame⟩
 have JW:d5 (c.frz (isD k)) (compEnvC sc cl C env):=⟨wG.kind,wG.globals,wG.builtins,wG.frame⟩
 have Vc:∀ b,Q9 vars (compEnvC sc cl C env) xs b->b=C:=λb p=>IV p λi hi z hz p=>by
  show bj (K.xsl i hi) λz' cC kz=>?_;rw[hz] at cC;cases cC;rcases p with ⟨_,p⟩|⟨p,_⟩
  .show p
  .have p':(iq sc env.scope).names.lookup z=some .cell:=p;rw[kz] at p';cases p'
 have U9:∀ b,(b=D\/b=C\/b∈fp)->s.heap.get? b=none:=λb m=>by
  clear Nt W4 Xs MG Sh Nu VU S8 S9 VV Qm S6 S7 VS YO VT xS wG JW Vc;rcases m with rfl|rfl|m
  .show Qn
  .show Ql
  .show (vg b m).1
 have F2:∀ own',(∀ b,(b=D\/b=C\/b∈fp)->b∉own')->Fh c (compEnvC sc cl C env) own' fp:=λown' av b m=>by
  show kJ (vg b m) λg1 g2 g3 g4 g5 g6=>?_;show ⟨av b (.inr (.inr m)),g3,λp=>?_,g5⟩;clear Ql U9 av;rcases p with p|⟨z,p⟩
  .have p:b=C:=p;subst p;show VT m
  .show g4 (.inr ⟨z,mU _ _ p⟩)
 have Df:∀ {i:Nat} {oa ob:List Addr} {ha hb:Heap},Step (c.fz||isD k) oa ob ha hb->(∀ b,(b=D\/b=C\/b∈fp)->b∉oa)->ITs c.P k x y its it fp i ha->(ha.get? D).isSome=true->(ha.get? C).isSome=true->
   ITs c.P k x y its it fp i hb/\(∀ o,ha.get? D=some o->hb.get? D=some o)/\(∀ b,(b=D\/b=C\/b∈fp)->b∉ob)/\(Step c.fz own oa s.heap ha->Step c.fz own ob s.heap hb):=by
  intro i oa ob ha hb S av I lD lC;show ⟨iS I (λb m o e=>S.pres b o e (.inl (av b (.inr (.inr m))))) (λhD d hx o e=>S.pres d o e (.inr (by rw[hD];show nD _))),λo e=>S.pres D o e (.inl (av D (.inl rfl))),λb m mb=>?_,λS0=>S0.trans (S.weak (isD k))⟩;clear Qn F2;rcases S.fresh b mb with q|q
  .show av b m q
  .have:(ha.get? b).isSome=true:=by
    clear av;rcases m with rfl|rfl|m
    .show lD
    .show lC
    .show vy I b m
   rw[q] at this;show ft this
 have xB:HS c H0 tY { s2 with heap:=h3,toks:=s2.toks+0 }:=Iw.ext old;have I3:ITs c.P k x y its it fp 0 h3:=iS I0 (λb _ o e=>old b o e) λ_ d _ o e=>old d o e;let Inv:Nat->Shared->Prop:=λn st=>∃ i H' own' cc cvs acc m,n+i=its.length/\HS c H' own' st/\NS c.L c.h₀ vars (compEnvC sc cl C env) cc own' st.heap/\(∀ j,j∉xs->cc j=ρ j)/\ITs c.P k x y its it fp i st.heap/\
  st.heap.get? D=some (rz cvs m)/\Vs cvs acc/\acc.length<=i/\gS (λρ H Q=>wE Φ hd cond ρ H Q (λ_=>False)) (λρ H Q=>wE Φ hd em ρ H Q (λ_=>False)) xs (iD as H0) ρ (its.drop i) acc H' (λvs H=>alloc (.list vs) H Q)/\
  Step c.fz own own' s.heap st.heap/\(∀ b,(b=D\/b=C\/b∈fp)->b∉own')
 have loop:∀ st,Inv its.length st->codeAny c.M c.A (.compLoop (.ListComp elt [⟨target,iter,ifs,0⟩] sc pos) 0 (.ref it) (.ref D) (compEnvC sc cl C env)) (RR (.ref D) C) st:=λst hI=>by
  show zZ Inv (λn st hI=>?_) its.length hI;obtain ⟨i,H',own',cc,cvs,acc,m,Gh,ip,rD,Zr,I',Ai,QW,vf,w',um,Br⟩:=hI;have hu:=EJ w';cases hv:its[i]? with
  |none=>
   have JV:its.drop i=[]:=ui (eZ.mp hv);rw[JV] at w';(show oA w' λ_ wq=>?_;clear w');show wb hh I' (F2 own' Br) ip rD (λm=>(vg _ m).2.2.2.2.1 rfl) bT hu hv λs5 Ky Pz kp=>.inl ⟨rfl,?_⟩;show oA (Ky.adopt (Br D (.inl rfl)) S8 S9 Xs (kp D _ Qm Ai) QW) λHn WX=>?_;show bj Pz.loc λm5 Og _=>?_;have S5:Step c.fz own own' s.heap s5.heap:=⟨λa o e n=>kp a o (λz=>by rw[(vg a z).1] at e;show cz e) (um.pres a o e n),um.fresh,um.sub⟩
   show hR _ _ _ ⟨⟨m5,Og⟩,⟨.ref D,_,_,rfl,WX,⟨S5.pres,λb m=>?_,λb m=>.tail _ (S5.sub b m)⟩,wq D Hn,λm=>?_⟩,S7,VS,Ql⟩
   .clear Df hI Ai Br Hn WX;rcases ag.mp m with rfl|m
    .show .inr Qn
    .show S5.fresh b m
   .rcases ag.mp m with q|m
    .show Nu q.symm
    .show Br C (.inr (.inl rfl)) m
  |some vs=>
   have iL:i<its.length:=(ao.mp hv).1;have JV:its.drop i=vs::its.drop (i+1):=by
    rw[aW iL];rw[aU iL] at hv;cases hv;rfl
   rw[JV] at w';(show oA w' λ_ wc=>?_;clear w');show aJ (sW (E':=λ_ _=>False) hh wG dA I' (F2 own' Br) ip rD bT hu hv (Gq _ rfl) ha λs3 xB xS I3 b3=>?_) (λr s1 h=>.inr h) λ_ _ x=>x;have hlen:xs.length=vs.length:=by rw[ha,Eu bT vs (aw hv)]
   rw[oP xs vs ρ cc hlen Zr] at xS;have Ya:∀ b o,b∉fp->b≠C->st.heap.get? b=some o->s3.heap.get? b=some o:=λb o n1 n2 e=>b3.keep b o (λz=>z.elim n1 λz=>n2 (Vc b z)) e;have Nt:=Ya D _ Qm Nu Ai;have lC3:(s3.heap.get? C).isSome=true:=by show bj xS.loc λm3 q _=>?_;show Ns.isSome q
   have PT:Step c.fz own own' s.heap s3.heap:=um.but b3 λa z=>z.elim (λz=>(vg a z).1) λz=>(Vc a z)▸Ql
   have wc':wE Φ hd cond (bindL ρ xs vs) H' (vB λb H=>if b then wE Φ hd em (bindL ρ xs vs) H (λv H=>gS (λρ H Q=>wE Φ hd cond ρ H Q (λ_=>False)) (λρ H Q=>wE Φ hd em ρ H Q (λ_=>False)) xs (iD as H0) ρ (its.drop (i+1)) (acc++[v]) H (λvs H=>alloc (.list vs) H Q)) (λ_=>False)
     else gS (λρ H Q=>wE Φ hd cond ρ H Q (λ_=>False)) (λρ H Q=>wE Φ hd em ρ H Q (λ_=>False)) xs (iD as H0) ρ (its.drop (i+1)) acc H (λvs H=>alloc (.list vs) H Q)) (λ_=>False):=by rw[<-o7];show wc
   show aJ (Tc _ (bindL ρ xs vs) JW rfl H' own' s3 _ _ (.inr rfl) (xB.frz _) xS wc') (λb s4 p=>?_) λ_ _ p=>bj p λ_ _ f=>f.elim;(show dR p λH4 PD xC Bb w4=>?_;clear p);show gM (Df Bb Br I3 (by rw[Nt];rfl) lC3) λI4 Xp N5 S4=>?_;have Qt:=Xp _ Nt;have GN:=xS.step Bb;have lC4:(s4.heap.get? C).isSome=true:=by show bj GN.loc λm3 q _=>?_;show Ns.isSome q
   have VB:∀ j,j∉xs->bindL ρ xs vs j=ρ j:=λj hj=>rU xs vs ρ j hj;clear Br Xp;induction b with
   |false=>
    rw[if_neg ei];show ⟨n-1,li 0x1010001010110ffb76edd2043ecd4070210faf5200fa1081d2141ea0b8018140 rfl Gh iL (ef n 1),i+1,H4,PD,bindL ρ xs vs,cvs,acc,m,li 0x10100111001010101001001010ffb76edd417060420c3ecd4070210faf5200fa1081d2141ea0b8018140 rfl Gh iL (ef n 1),xC.unfrz,GN,VB,I4,Qt,QW,li 0x47fedd18108303a018120 rfl vf,w4,S4 PT,N5⟩
   |true=>
    rw[if_pos rfl];show aJ (Te _ (bindL ρ xs vs) JW rfl H4 PD s4 _ _ (.inr rfl) xC GN w4) (λcv s5 p=>?_) λ_ _ p=>bj p λ_ _ f=>f.elim;(show cS p λv H5 n7 e5 Ky Vi w5=>?_;clear p);show gM (Df Vi N5 I4 (by rw[Qt];rfl) lC4) λI5 Xq Qd S5=>?_;have Qu:=Xq _ Qt;have Pz:=GN.step Vi;show fV nS ⟨_,Qu,rfl⟩ Bg (zR _ _) (list_append D cvs.toArray m cv (by rw[bL,QW.length];show aR (li 0x1111ffb76edd00c2e9021f4070ba018140 rfl xy vf iL:acc.length<=lim) jl)) ⟨Qu,?_⟩;clear N5 Qt Xq;obtain ⟨m',Sj⟩:∃ m',(s5.heap.update D (jN λx=>x.push cv)).get? D=some (rz (cvs++[cv]) m'):=by
     have u:=IsL.update (gY Qu) (λx=>x.push cv);rw[show cvs.toArray.push cv=(cvs++[cv]).toArray by simp] at u;show ⟨_,u⟩
    have b6:But (·=D) s5.heap (s5.heap.update D (jN λx=>x.push cv)):=⟨λb o n e=>(cp _ _ (fW n)).trans e,λb q _=>by clear Qd Qu;subst q;rw[Sj];rfl⟩
    show ⟨n-1,li 0x1010001010110ffb76edd2043ecd4070210faf5200fa1081d2141ea0b8018140 rfl Gh iL (ef n 1),i+1,H5,n7,bindL ρ xs vs,cvs++[cv],acc++[v],m',li 0x10100111001010101001001010ffb76edd417060420c3ecd4070210faf5200fa1081d2141ea0b8018140 rfl Gh iL (ef n 1),Ky.unfrz.but (s':={ s5 with heap:=s5.heap.update D (jN λx=>x.push cv),toks:=s5.toks }) b6 (λb m q=>Qd b (.inl q) m) (λb q=>q▸S8) (.inl λq=>S9 q.symm),Pz.but b6 (λb p q=>?_),VB,
     iS I5 (λb m o e=>b6.keep b o (λq=>Qm (q▸m)) e) (λhD d hx o e=>b6.keep d o (λq=>?_) e),Sj,QW.append (.cons e5 .nil),by simp;show li 0x11ffb740303a018120 rfl vf,w5,(S5 (S4 PT)).but b6 λa q=>q▸Qn,Qd⟩
    .clear Sj b6;subst q;rcases p with p|⟨z,p⟩
     .show Nu p
     .show VV (.inr ⟨z,mU _ _ p⟩)
    .subst q;show Qd _ (.inl rfl) (Vi.sub _ (Bb.sub _ (ip.dAt bT hu hD hx)))
 have hI:Inv its.length { s2 with heap:=h3,toks:=s2.toks+0 }:=⟨0,H0,tY,_,[],[],0,rfl,xB,xS,λj hj=>if_neg hj,I3,Nt,.nil,aT _,w0,Ey.trans (Step.ext old),λb m=>by
  clear loop
  rcases m with rfl|rfl|m
  .show VU
  .show S6
  .show (vg b m).2.1⟩
 show codeAny_compStart_list (loop _ hI) (CZ (M:=(c.P.prog,c.P.w)) hk I3 (loop _ hI))
end
noncomputable def oq(e:Expr):Bool:=!dg e.ctorIdx 7
theorem ot{iter:Expr}{env:Env}(h:oq iter=true)(x:Value):foldedSetIterable iter env x=pure x:=by
 cases iter<;>first|rfl|show ft h
section
variable {c:Cx} {vars:List Str} {env:Env} {ρ:Sto} {own:List Addr} {s:Shared} {H:MH}
theorem rZ{sc:Scope}{xs:List Nat}(K:nL vars env.scope sc xs)(ns:NS c.L c.h₀ vars env ρ own s.heap):∃ cl,closureFor sc env=pure cl/\(∀ x a,cl.lookup x=some a->env.cells.lookup x=some a)/\(∀ p∈sc.names,p.2=.free->(cl.lookup p.1).isSome=true) :=
 xd λp m hp=>by
  show oAE (K.free p m hp) λh1 i h2=>?_
  show jQ (ns.cel i p.1 h2 h1) λa v e _=>?_
  show ⟨a,e⟩
theorem HS.dropC{own':List Addr}{s':Shared}{h':Heap}{C:Addr}(hs:HS c H own' s')(kp:∀ b o,b≠C->s'.heap.get? b=some o->h'.get? b=some o)(h1:C∉own')(h2:c.h₀.get? C=none)(h3:C≠c.L):HS c H own' { s' with heap:=h' }:=by
 show hs.keep (s':={ s' with heap:=h' }) (λb o m e=>kp b o (λq=>m.elim (λm=>h1 (q▸m)) λm=>by rw[q,h2] at m;show cz m) e) ?_;show bj hs.lives λo ho f=>?_;show ⟨o,kp _ o h3.symm ho,f⟩
theorem Ht{n:Nat}(G:cN c n)(he:d5 c env)(dA:vars.Nodup){Φ:Bool->Phi}{hd:Bool}(hh:gb c hd){k:ItK}{e1 e2 cond em:ME}{elt target iter:Expr}{ifs:List Expr}{sc:Scope}{pos:Pos}{xs:List Nat}
  (K:nL vars env.scope sc xs) (hk:k≠.keys) (ha:xs.length=ar k) (gK:oq iter=true)
  (Gq:∀ dv:Env,dv.scope=iq sc env.scope->mG vars dv xs target)
  (TI:SI c vars env ρ hd Φ k e1 e2 iter)
  (Tc:∀ dv mr,d5 (c.frz (isD k)) dv->dv.scope=iq sc env.scope->SB (c.frz (isD k)) vars dv mr (tests ifs dv) (λH Q E=>wE Φ hd cond mr H (vB Q) E))
  (Te:∀ dv mr,d5 (c.frz (isD k)) dv->dv.scope=iq sc env.scope->SE (c.frz (isD k)) vars dv mr (eval elt dv) (λH Q E=>wE Φ hd em mr H Q E)) :
  SE c vars env ρ (eval (.ListComp elt [⟨target,iter,ifs,0⟩] sc pos) env) (λH Q E=>wE Φ hd (.comp xs k e1 e2 cond em) ρ H Q E):=λH own s Q E hE hs ns w=>by
 show bp (rZ (c:=c) (ρ:=ρ) K ns) λcl h1 h2 h3=>?_
 rw[eval_ListComp]
 show yj (use:=none) (cl:=cl) rfl (ot gK) h1 K.fn K.names ?_
 show uQ (RR:=λacc C=>compPost c.M c.A (du c vars ρ E) none (ba c own s.heap Q) acc C) G he dA hh K hk ha Gq TI Tc Te h2 h3 hE hs ns w λacc C s' ce=>?_
 show oE ce.ns λm hm=>?_
 show gz ce.post λv H' own' a1 a2 a3 a4 a5=>?_
 show mf ce.apart λb1 b2 b3=>?_
 show ⟨m,hm,λh' sb=>?_⟩
 show ⟨v,H',own',a1,a2.dropC (λb o n e=>sb.extBut b o n e) a5 b1 b2,⟨λb o e n=>sb.extBut b o (λq=>by rw[q,b3] at e;show cz e) (a3.pres b o e n),a3.fresh,a3.sub⟩,a4⟩
theorem sU{c:Cx}{env:Env}{ρ:Sto}{Φ:Bool->Phi}{hd:Bool}:SB c vars env ρ (tests [] env) (λH Q E=>wE Φ hd (.cst (.bool true)) ρ H (vB Q) E):=λH own s Q E hE hs ns w=>by
 show wpAny_tests_nil ⟨H,own,hs,.refl,w⟩
theorem sV{c:Cx}{env:Env}{ρ:Sto}{Φ:Bool->Phi}{hd:Bool}{e:Expr}{a:ME}(T:SB c vars env ρ (isTrue e env (eval e env)) (λH Q E=>wE Φ hd a ρ H (vB Q) E)):SB c vars env ρ (tests [e] env) (λH Q E=>wE Φ hd a ρ H (vB Q) E):=λH own s Q E hE hs ns w=>
 wpAny_tests_one (T H own s Q E hE hs ns w)
end
theorem c8{c:Prop}[Decidable c]{g:c->Bool}{G:Prop}(h:(if q:c then g q else false)=true)(f:∀ q,g q=true->G):G:=by
 by_cases q:c
 .rw[dif_pos q] at h;show f q h
 .rw[dif_neg q] at h;show ft h
noncomputable def AK{α:Type}(o:Option α)(k:α->Bool):Bool:=match o with|some a=>k a|none=>false
@[elab_as_elim] theorem jq{α:Type}{o:Option α}{C:Option α->Prop}{k}(h:AK o k=true)(f:∀ a,k a=true->C (some a)):C o:=by
 cases o with
 |none=>show ft h
 |some a=>show f a h
noncomputable def F9{α:Type}(o:Option α)(b:Bool):Bool:=match o with|some _=>false|none=>b
@[elab_as_elim] theorem jr{α:Type}{o:Option α}{C:Option α->Prop}{b}(h:F9 o b=true)(f:b=true->C none):C o:=by
 cases o with
 |none=>show f h
 |some a=>show ft h
noncomputable def iW{α:Type}(l:List α)(b:Bool):Bool:=match l with | []=>b|_::_=>false
@[elab_as_elim] theorem bM{α:Type}{l:List α}{C:List α->Prop}{b}(h:iW l b=true)(f:b=true->C []):C l:=by
 cases l with
 |nil=>show f h
 |cons a r=>show ft h
noncomputable def oV{α:Type}(l:List α)(k:α->List α->Bool):Bool:=match l with | []=>false|a::r=>k a r
@[elab_as_elim] theorem cP{α:Type}{l:List α}{C:List α->Prop}{k}(h:oV l k=true)(f:∀ a r,k a r=true->C (a::r)):C l:=by
 cases l with
 |nil=>show ft h
 |cons a r=>show f a r h
noncomputable def fq(e:Expr)(k:Str->Pos->Bool):Bool:=if h:e.ctorIdx=23 then nR (motive_1:=λ_=>Bool) e h k else false
@[elab_as_elim] theorem cQ{e:Expr}{C:Expr->Prop}{k}(h:fq e k=true)(f:∀ a b,k a b=true->C (.Name a b)):C e :=
 c8 h λq=>nR (motive_1:=λe=>∀ q,nR (motive_1:=λ_=>Bool) e q k=true->C e) e q (λa b _=>f a b) q
noncomputable def dC(e:Expr)(k:Const->Nat->Pos->Bool):Bool:=if h:e.ctorIdx=19 then j9 (motive_1:=λ_=>Bool) e h k else false
@[elab_as_elim] theorem cT{e:Expr}{C:Expr->Prop}{k}(h:dC e k=true)(f:∀ a b c,k a b c=true->C (.Constant a b c)):C e :=
 c8 h λq=>j9 (motive_1:=λe=>∀ q,j9 (motive_1:=λ_=>Bool) e q k=true->C e) e q (λa b c _=>f a b c) q
noncomputable def za(e:Expr)(k:Expr->Operator->Expr->Pos->Bool):Bool:=if h:e.ctorIdx=2 then mu (motive_1:=λ_=>Bool) e h k else false
@[elab_as_elim] theorem xT{e:Expr}{C:Expr->Prop}{k}(h:za e k=true)(f:∀ a b c d,k a b c d=true->C (.BinOp a b c d)):C e :=
 c8 h λq=>mu (motive_1:=λe=>∀ q,mu (motive_1:=λ_=>Bool) e q k=true->C e) e q (λa b c d _=>f a b c d) q
noncomputable def lj(e:Expr)(k:Expr->List CmpOp->List Expr->Pos->Bool):Bool:=if h:e.ctorIdx=15 then jT (motive_1:=λ_=>Bool) e h k else false
@[elab_as_elim] theorem jo{e:Expr}{C:Expr->Prop}{k}(h:lj e k=true)(f:∀ a b c d,k a b c d=true->C (.Compare a b c d)):C e :=
 c8 h λq=>jT (motive_1:=λe=>∀ q,jT (motive_1:=λ_=>Bool) e q k=true->C e) e q (λa b c d _=>f a b c d) q
noncomputable def fy(e:Expr)(k:Expr->Str->Pos->Bool):Bool:=if h:e.ctorIdx=20 then iG (motive_1:=λ_=>Bool) e h k else false
@[elab_as_elim] theorem eQ{e:Expr}{C:Expr->Prop}{k}(h:fy e k=true)(f:∀ a b c,k a b c=true->C (.Attribute a b c)):C e :=
 c8 h λq=>iG (motive_1:=λe=>∀ q,iG (motive_1:=λ_=>Bool) e q k=true->C e) e q (λa b c _=>f a b c) q
noncomputable def fA(e:Expr)(k:Expr->Expr->Pos->Bool):Bool:=if h:e.ctorIdx=21 then iH (motive_1:=λ_=>Bool) e h k else false
@[elab_as_elim] theorem eR{e:Expr}{C:Expr->Prop}{k}(h:fA e k=true)(f:∀ a b c,k a b c=true->C (.Subscript a b c)):C e :=
 c8 h λq=>iH (motive_1:=λe=>∀ q,iH (motive_1:=λ_=>Bool) e q k=true->C e) e q (λa b c _=>f a b c) q
noncomputable def pH(e:Expr)(k:Option Expr->Option Expr->Option Expr->Pos->Bool):Bool:=if h:e.ctorIdx=26 then mw (motive_1:=λ_=>Bool) e h k else false
@[elab_as_elim] theorem mj{e:Expr}{C:Expr->Prop}{k}(h:pH e k=true)(f:∀ a b c d,k a b c d=true->C (.Slice a b c d)):C e :=
 c8 h λq=>mw (motive_1:=λe=>∀ q,mw (motive_1:=λ_=>Bool) e q k=true->C e) e q (λa b c d _=>f a b c d) q
noncomputable def ox(e:Expr)(k:UnaryOp->Expr->Pos->Bool):Bool:=if h:e.ctorIdx=3 then jU (motive_1:=λ_=>Bool) e h k else false
@[elab_as_elim] theorem n6{e:Expr}{C:Expr->Prop}{k}(h:ox e k=true)(f:∀ a b c,k a b c=true->C (.UnaryOp a b c)):C e :=
 c8 h λq=>jU (motive_1:=λe=>∀ q,jU (motive_1:=λ_=>Bool) e q k=true->C e) e q (λa b c _=>f a b c) q
noncomputable def xV(e:Expr)(k:List Expr->Pos->Bool):Bool:=if h:e.ctorIdx=24 then nQ (motive_1:=λ_=>Bool) e h k else false
@[elab_as_elim] theorem sJ{e:Expr}{C:Expr->Prop}{k}(h:xV e k=true)(f:∀ a b,k a b=true->C (.List a b)):C e :=
 c8 h λq=>nQ (motive_1:=λe=>∀ q,nQ (motive_1:=λ_=>Bool) e q k=true->C e) e q (λa b _=>f a b) q
noncomputable def pI(e:Expr)(k:List Expr->Nat->Pos->Bool):Bool:=if h:e.ctorIdx=25 then mz (motive_1:=λ_=>Bool) e h k else false
@[elab_as_elim] theorem ml{e:Expr}{C:Expr->Prop}{k}(h:pI e k=true)(f:∀ a b c,k a b c=true->C (.Tuple a b c)):C e :=
 c8 h λq=>mz (motive_1:=λe=>∀ q,mz (motive_1:=λ_=>Bool) e q k=true->C e) e q (λa b c _=>f a b c) q
noncomputable def DJ(e:Expr)(k:List (Option Expr)->List Expr->Pos->Bool):Bool:=if h:e.ctorIdx=6 then nP (motive_1:=λ_=>Bool) e h k else false
@[elab_as_elim] theorem AJ{e:Expr}{C:Expr->Prop}{k}(h:DJ e k=true)(f:∀ a b c,k a b c=true->C (.Dict a b c)):C e :=
 c8 h λq=>nP (motive_1:=λe=>∀ q,nP (motive_1:=λ_=>Bool) e q k=true->C e) e q (λa b c _=>f a b c) q
noncomputable def zb(e:Expr)(k:Expr->Expr->Expr->Pos->Bool):Bool:=if h:e.ctorIdx=5 then mv (motive_1:=λ_=>Bool) e h k else false
@[elab_as_elim] theorem xU{e:Expr}{C:Expr->Prop}{k}(h:zb e k=true)(f:∀ a b c d,k a b c d=true->C (.IfExp a b c d)):C e :=
 c8 h λq=>mv (motive_1:=λe=>∀ q,mv (motive_1:=λ_=>Bool) e q k=true->C e) e q (λa b c d _=>f a b c d) q
noncomputable def qF(e:Expr)(k:BoolOp->List Expr->Pos->Bool):Bool:=if h:e.ctorIdx=0 then lE (motive_1:=λ_=>Bool) e h k else false
@[elab_as_elim] theorem oU{e:Expr}{C:Expr->Prop}{k}(h:qF e k=true)(f:∀ a b c,k a b c=true->C (.BoolOp a b c)):C e :=
 c8 h λq=>lE (motive_1:=λe=>∀ q,lE (motive_1:=λ_=>Bool) e q k=true->C e) e q (λa b c _=>f a b c) q
noncomputable def i5(e:Expr)(k:Expr->List Expr->List Keyword->Pos->Bool):Bool:=if h:e.ctorIdx=16 then nO (motive_1:=λ_=>Bool) e h k else false
@[elab_as_elim] theorem eC{e:Expr}{C:Expr->Prop}{k}(h:i5 e k=true)(f:∀ a b c d,k a b c d=true->C (.Call a b c d)):C e :=
 c8 h λq=>nO (motive_1:=λe=>∀ q,nO (motive_1:=λ_=>Bool) e q k=true->C e) e q (λa b c d _=>f a b c d) q
noncomputable def qG(e:Expr)(k:Expr->List Comprehension->Scope->Pos->Bool):Bool:=if h:e.ctorIdx=8 then ja (motive_1:=λ_=>Bool) e h k else false
@[elab_as_elim] theorem lX{e:Expr}{C:Expr->Prop}{k}(h:qG e k=true)(f:∀ a b c d,k a b c d=true->C (.ListComp a b c d)):C e :=
 c8 h λq=>ja (motive_1:=λe=>∀ q,ja (motive_1:=λ_=>Bool) e q k=true->C e) e q (λa b c d _=>f a b c d) q
noncomputable def ow(e:Stmt)(k:Option Expr->Pos->Bool):Bool:=if h:e.ctorIdx=3 then lH (motive_2:=λ_=>Bool) e h k else false
@[elab_as_elim] theorem n5{e:Stmt}{C:Stmt->Prop}{k}(h:ow e k=true)(f:∀ a b,k a b=true->C (.Return a b)):C e :=
 c8 h λq=>lH (motive_2:=λe=>∀ q,lH (motive_2:=λ_=>Bool) e q k=true->C e) e q (λa b _=>f a b) q
noncomputable def ou(e:Stmt)(k:List Expr->Expr->Pos->Bool):Bool:=if h:e.ctorIdx=5 then lG (motive_2:=λ_=>Bool) e h k else false
@[elab_as_elim] theorem n4{e:Stmt}{C:Stmt->Prop}{k}(h:ou e k=true)(f:∀ a b c,k a b c=true->C (.Assign a b c)):C e :=
 c8 h λq=>lG (motive_2:=λe=>∀ q,lG (motive_2:=λ_=>Bool) e q k=true->C e) e q (λa b c _=>f a b c) q
noncomputable def DN(e:Stmt)(k:Expr->Expr->List Stmt->List Stmt->Pos->Bool):Bool:=if h:e.ctorIdx=9 then pw (motive_2:=λ_=>Bool) e h k else false
@[elab_as_elim] theorem AL{e:Stmt}{C:Stmt->Prop}{k}(h:DN e k=true)(f:∀ a b c d e,k a b c d e=true->C (.For a b c d e)):C e :=
 c8 h λq=>pw (motive_2:=λe=>∀ q,pw (motive_2:=λ_=>Bool) e q k=true->C e) e q (λa b c d e _=>f a b c d e) q
noncomputable def vK(e:Stmt)(k:Expr->List Stmt->List Stmt->Pos->Bool):Bool:=if h:e.ctorIdx=11 then mC (motive_2:=λ_=>Bool) e h k else false
@[elab_as_elim] theorem vL{e:Stmt}{C:Stmt->Prop}{k}(h:vK e k=true)(f:∀ a b c d,k a b c d=true->C (.While a b c d)):C e :=
 c8 h λq=>mC (motive_2:=λe=>∀ q,mC (motive_2:=λ_=>Bool) e q k=true->C e) e q (λa b c d _=>f a b c d) q
noncomputable def IX(e:Stmt)(k:Expr->List Stmt->List Stmt->Pos->Bool):Bool:=if h:e.ctorIdx=12 then rp (motive_2:=λ_=>Bool) e h k else false
@[elab_as_elim] theorem DP{e:Stmt}{C:Stmt->Prop}{k}(h:IX e k=true)(f:∀ a b c d,k a b c d=true->C (.If a b c d)):C e :=
 c8 h λq=>rp (motive_2:=λe=>∀ q,rp (motive_2:=λ_=>Bool) e q k=true->C e) e q (λa b c d _=>f a b c d) q
noncomputable def vI(e:Stmt)(k:Option Expr->Option Expr->Pos->Bool):Bool:=if h:e.ctorIdx=16 then mB (motive_2:=λ_=>Bool) e h k else false
@[elab_as_elim] theorem vJ{e:Stmt}{C:Stmt->Prop}{k}(h:vI e k=true)(f:∀ a b c,k a b c=true->C (.Raise a b c)):C e :=
 c8 h λq=>mB (motive_2:=λe=>∀ q,mB (motive_2:=λ_=>Bool) e q k=true->C e) e q (λa b c _=>f a b c) q
noncomputable def DQ(e:Stmt)(k:List Stmt->List ExceptHandler->List Stmt->List Stmt->Pos->Bool):Bool:=if h:e.ctorIdx=17 then pz (motive_2:=λ_=>Bool) e h k else false
@[elab_as_elim] theorem AM{e:Stmt}{C:Stmt->Prop}{k}(h:DQ e k=true)(f:∀ a b c d e,k a b c d e=true->C (.Try a b c d e)):C e :=
 c8 h λq=>pz (motive_2:=λe=>∀ q,pz (motive_2:=λ_=>Bool) e q k=true->C e) e q (λa b c d e _=>f a b c d e) q
noncomputable def zd(e:Stmt)(k:Expr->Pos->Bool):Bool:=if h:e.ctorIdx=24 then nW (motive_2:=λ_=>Bool) e h k else false
@[elab_as_elim] theorem xW{e:Stmt}{C:Stmt->Prop}{k}(h:zd e k=true)(f:∀ a b,k a b=true->C (.Expr a b)):C e :=
 c8 h λq=>nW (motive_2:=λe=>∀ q,nW (motive_2:=λ_=>Bool) e q k=true->C e) e q (λa b _=>f a b) q
noncomputable def GP(v:Const)(b:Bool):Bool:=if h:v.ctorIdx=5 then nM (motive:=λ_=>Bool) v h (λ_=>b) else false
@[elab_as_elim] theorem tX{v:Const}{b:Bool}{C:Const->Prop}(h:GP v b=true)(f:∀ s,b=true->C (.str s)):C v :=
 c8 h λq=>nM (motive:=λv=>∀ q,nM (motive:=λ_=>Bool) v q (λ_=>b)=true->C v) v q (λs _=>f s) q
noncomputable def KJ(sc:Scope)(x:Str):Bool:=(sc.names.lookup x==some .local||sc.names.lookup x==some .cell) && !(x==("__debug__" : Str))
noncomputable def De(sc:Scope)(x:Str):Bool:=sc.names.lookup x==some .globalImplicit && !(x==("__debug__" : Str))
noncomputable def DT(x:Value)(k:Addr->Bool):Bool:=if h:x.ctorIdx=10 then nY (motive:=λ_=>Bool) x h k else false
theorem AP{x:Value}{C:Value->Prop}{k}(h:DT x k=true)(f:∀ a,k a=true->C (.ref a)):C x :=
 c8 h λq=>nY (motive:=λx=>∀ q,nY (motive:=λ_=>Bool) x q k=true->C x) x q (λa _=>f a) q
noncomputable def DS(x:Value)(k:Int->Tok->Bool):Bool:=if h:x.ctorIdx=4 then nX (motive:=λ_=>Bool) x h k else false
theorem AO{x:Value}{C:Value->Prop}{k}(h:DS x k=true)(f:∀ a b,k a b=true->C (.int a b)):C x :=
 c8 h λq=>nX (motive:=λx=>∀ q,nX (motive:=λ_=>Bool) x q k=true->C x) x q (λa b _=>f a b) q
noncomputable def DR(x:Value)(k:String->Bool):Bool:=if h:x.ctorIdx=9 then je (motive:=λ_=>Bool) x h k else false
theorem vM{x:Value}{C:Value->Prop}{k}(h:DR x k=true)(f:∀ a,k a=true->C (.builtin a)):C x :=
 c8 h λq=>je (motive:=λx=>∀ q,je (motive:=λ_=>Bool) x q k=true->C x) x q (λa _=>f a) q
noncomputable def DU(x:Value)(k:String->Bool):Bool:=if h:x.ctorIdx=8 then mD (motive:=λ_=>Bool) x h k else false
theorem vN{x:Value}{C:Value->Prop}{k}(h:DU x k=true)(f:∀ a,k a=true->C (.type a)):C x :=
 c8 h λq=>mD (motive:=λx=>∀ q,mD (motive:=λ_=>Bool) x q k=true->C x) x q (λa _=>f a) q
noncomputable def om(v:Option Value)(a:Nat):Bool:=AK v λx=>DT x λb=>b==a
noncomputable def CY(v:Option Value)(i:Int):Bool:=AK v λx=>DS x λj _=>decide (j=i)
noncomputable def CW(v:Option Value)(u:Value):Bool:=AK v λx=>(DR x λa=>DR u λb=>a==b)||DU x λa=>DU u λb=>a==b
noncomputable def pl(t:Bool)(e:Expr):Bool:=!t||plainT e
noncomputable def xa(vars:List Str)(out sc:Scope)(xs:List Nat):Bool :=
 sc.kind==.function&&sc.names.all (λx=>!(x.2==.cell))&&sc.names.all (λx=>!(x.2==.local)||sc.names.lookup x.1==some .local) &&
 sc.names.all (λx=>!(x.2==.free)||(out.names.lookup x.1==some .cell&&vars.contains x.1)) &&
 vars.zipIdx.all (λp=>!((iq sc out).names.lookup p.1==some .local)||xs.contains p.2) &&
 xs.all (λi=>match vars[i]? with|some x=>(iq sc out).names.lookup x==some .local|none=>false)&&out.kind==.function
noncomputable def Jq(vars:List Str)(sc:Scope)(xs:List Nat)(tg:Expr):Bool:=match xs with
 |[]=>false
 |i::r=>match r with
  |[]=>fq tg λx _=>vars[i]?==some x&&KJ sc x
  |j::r=>iW r (pI tg λes _ _=>oV es λa es=>fq a λx _=>oV es λb es=>iW es (fq b λy _=>vars[i]?==some x&&KJ sc x&&vars[j]?==some y&&KJ sc y))
noncomputable def DI(m:ME)(k:Val->Bool):Bool:=if h:m.ctorIdx=0 then ME.cst.elim (motive_1:=λ_=>Bool) m h k else false
theorem vH{x:ME}{C:ME->Prop}{k}(h:DI x k=true)(f:∀ a,k a=true->C (.cst a)):C x :=
 c8 h λq=>ME.cst.elim (motive_1:=λx=>∀ q,ME.cst.elim (motive_1:=λ_=>Bool) x q k=true->C x) x q (λa _=>f a) q
noncomputable def oi(m:ME):Bool:=DI m λv=>Val.casesOn v true (λ_=>false) (λ_=>false) false λ_=>false
noncomputable def CX(m:ME):Bool:=DI m λv=>Val.casesOn v false (λb=>b) (λ_=>false) false λ_=>false
noncomputable def i7(e:Expr):Bool:=dg e.ctorIdx 22
noncomputable def Mm(P:Pg)(sc:Scope)(v:Val)(e:Expr):Bool:=match v with
 |.none=>dC e λv _ _=>decide (v=.none)
 |.bool b=>dC e λv _ _=>decide (v=.bool b)
 |.int i=>dC e (λv _ _=>decide (v=.int i))||fq e λx _=>De sc x&&CY (P.gl.lookup x) i
 |.str=>dC e λv _ _=>GP v true
 |.ref _=>false
noncomputable abbrev Ck:=Bool->Bool->Scope->Expr->Bool
noncomputable abbrev wu:=Bool->Scope->List Expr->Bool
noncomputable def L1(P:Pg)(vars:List Str)(v:Val):Ck:=λq t sc e=>pl t e&&Mm P sc v e
noncomputable def Lb(P:Pg)(vars:List Str)(i:Nat):Ck:=λq t sc e=>pl t e&&fq e λx _=>vars[i]?==some x&&KJ sc x
noncomputable def K'(P:Pg)(vars:List Str)(o:Bop)(mO:Ck)(BM:Ck):Ck:=λq t sc e=>pl t e&&za e λl op r _=>decide (Ll o=op)&&mO q false sc l&&BM q false sc r
noncomputable def L0(P:Pg)(vars:List Str)(o:Cop)(mO:Ck)(BM:Ck):Ck:=λq t sc e=>lj e λl os rs _=>oV os λop z=>iW z (oV rs λr z=>iW z (decide (uR o=op) && !behindInMarks op r&&mO q false sc l&&BM q false sc r))
noncomputable def tR(P:Pg)(vars:List Str)(mO:Ck):Ck:=λq t sc e=>lj e λl os rs _=>oV os λop z=>iW z (oV rs λr z=>iW z (dC r λv _ _=>decide (op=.Is)&&decide (v=.none)&&mO q false sc l))
noncomputable def qA(P:Pg)(vars:List Str)(mO:Ck):Ck:=λq t sc e=>lj e λl os rs _=>oV os λop z=>iW z (oV rs λr z=>iW z (dC r λv _ _=>decide (op=.IsNot)&&decide (v=.none)&&mO q false sc l))
noncomputable def Du(P:Pg)(vars:List Str)(mO:Ck)(c:Nat)(k:Nat):Ck:=λq t sc e=>pl t e&&fy e λo x _=>gu o&&(P.at_ c)[k]?==some x&&mO q false sc o
noncomputable def L3(P:Pg)(vars:List Str)(mO:Ck)(BM:Ck):Ck:=λq t sc e=>pl t e&&fA e λx y _=>mO q false sc x&&BM q false sc y
noncomputable def L9(P:Pg)(vars:List Str)(mO:Ck):Ck:=λq t sc e=>pl t e&&fA e λx s _=>pH s λa b d _=>F9 a (F9 b (AK d λu=>ox u λop y _=>dC y λv _ _=>decide (op=.USub)&&decide (v=.int 1)&&mO q false sc x))
noncomputable def Dx(P:Pg)(vars:List Str)(mO:Ck)(BM:Ck):Ck:=λq t sc e=>pl t e&&fA e λx s _=>pH s λa b d _=>AK a λy=>F9 b (F9 d (mO q false sc x&&BM q false sc y))
noncomputable def Dz(P:Pg)(vars:List Str)(mO:Ck)(BM:Ck):Ck:=λq t sc e=>pl t e&&fA e λx s _=>pH s λa b d _=>F9 a (AK b λy=>F9 d (mO q false sc x&&BM q false sc y))
noncomputable def nList(P:Pg)(vars:List Str)(kh:wu):Ck:=λq t sc e=>pl t e&&xV e λxs _=>kh q sc xs
noncomputable def La(P:Pg)(vars:List Str)(kh:wu):Ck:=λq t sc e=>pl t e&&pI e λxs _ _=>kh q sc xs
noncomputable def xN(P:Pg)(vars:List Str)  : Ck:=λq t sc e=>pl t e&&DJ e λks vs _=>iW ks (iW vs true)
noncomputable def L4(P:Pg)(vars:List Str)(Ye:Ck)(mO:Ck)(BM:Ck):Ck:=λq t sc e=>pl t e&&zb e λx y z _=>Ye q true sc x&&mO q false sc y&&BM q false sc z
noncomputable def L7(P:Pg)(vars:List Str)(mO:Ck):Ck:=λq t sc e=>t&&ox e λop x _=>decide (op=.Not)&&mO q true sc x
noncomputable def Dt(P:Pg)(vars:List Str)(kh:wu):Ck:=λq t sc e=>t&&qF e λop xs _=>decide (op=.And)&&kh q sc xs
noncomputable def L8(P:Pg)(vars:List Str)(kh:wu):Ck:=λq t sc e=>t&&qF e λop xs _=>decide (op=.Or)&&kh q sc xs
noncomputable def Dv(P:Pg)(vars:List Str)(f:Nat)(kh:wu):Ck:=λq t sc e=>!q&&pl t e&&i5 e λg args kw _=>iW kw (fq g λx _=>De sc x&&om (P.gl.lookup x) (P.fa f)&&kh q sc args)
noncomputable def xK(P:Pg)(vars:List Str)(f:Bi)(kh:wu):Ck:=λq t sc e=>!q&&pl t e&&i5 e λg args kw _=>iW kw (fq g λx _=>De sc x&&CW (P.bl.lookup x) (yw f)&&kh q sc args)
noncomputable def xP(P:Pg)(vars:List Str)(c:Nat)(f:Nat)(mO:Ck)(kh:wu):Ck:=λq t sc e=>!q&&pl t e&&i5 e λg args kw pos=>iW kw (fy g λo x apos=>gu o&&P.mt c x==some f&&decide (args.length<30)&&apos.endLine==pos.line&&mO q false sc o&&kh q sc args)
noncomputable def xO(P:Pg)(vars:List Str)(m:Lm)(mO:Ck)(kh:wu):Ck:=λq t sc e=>!q&&pl t e&&i5 e λg args kw pos=>iW kw (fy g λo x apos=>gu o&&x==tN m&&decide (args.length<30)&&apos.endLine==pos.line&&mO q false sc o&&kh q sc args)
noncomputable def L6(P:Pg)(vars:List Str)(c:Nat)(kh:wu):Ck:=λq t sc e=>!q&&pl t e&&i5 e λg args kw _=>iW kw (fq g λx _=>De sc x&&om (P.gl.lookup x) (P.C c)&&kh q sc args)
noncomputable def rC(P:Pg)(k:ItK)(rr BN:Ck)(e2:ME)(q:Bool)(sc:Scope)(iter:Expr):Bool:=match k with
 |.seq=>oi e2&&rr q false sc iter
 |.keys=>oi e2&&rr q false sc iter
 |.vals=>i5 iter λg args kw pos=>iW args (iW kw (fy g λo x apos=>oi e2&&x==("values" : Str)&&gu o&&apos.endLine==pos.line&&rr q false sc o))
 |.zip=>i5 iter λg args kw _=>iW kw (fq g λx _=>oV args λa r=>oV r λb r=>iW r (De sc x&&CW (P.bl.lookup x) (.type "zip") && !i7 a && !i7 b&&rr q false sc a&&BN q false sc b))
 |.enum=>i5 iter λg args kw _=>iW kw (fq g λx _=>oV args λa r=>iW r (oi e2&&De sc x&&CW (P.bl.lookup x) (.type "enumerate") && !i7 a&&rr q false sc a))
 |.range=>i5 iter λg args kw _=>iW kw (fq g λx _=>oV args λa r=>iW r (oi e2&&De sc x&&CW (P.bl.lookup x) (.type "range") && !i7 a&&rr q false sc a))
noncomputable def KH:ItK->Bool
 |.keys=>true
 |_=>false
noncomputable def L5(P:Pg)(q:Bool)(cond:ME)(pX:Ck)(sc:Scope)(ifs:List Expr):Bool:=iW ifs (CX cond)||oV ifs λx r=>iW r (pX q true sc x)
noncomputable def L2(P:Pg)(vars:List Str)(xs:List Nat)(k:ItK)(rr:Ck)(BN:Ck)(e2:ME)(pX:Ck)(cond:ME)(Jl:Ck)(q:Bool)(sc s2:Scope)(elt:Expr)(g:Comprehension):Bool :=
 xa vars sc s2 xs&&Jq vars (iq s2 sc) xs g.target&&oq g.iter && !KH k&&decide (xs.length=ar k)&&rC P k rr BN e2 q sc g.iter&&L5 P (isD k) cond pX (iq s2 sc) g.ifs&&Jl (isD k) false (iq s2 sc) elt&&decide (g.is_async=0)
noncomputable def vD(P:Pg)(vars:List Str)(xs:List Nat)(k:ItK)(rr:Ck)(BN:Ck)(e2:ME)(pX:Ck)(cond:ME)(Jl:Ck):Ck:=λq t sc e=>!q && !t&&qG e λelt gs s2 _=>oV gs λg z=>iW z (L2 P vars xs k rr BN e2 pX cond Jl q sc s2 elt g)
noncomputable def xQ:wu:=λq sc es=>iW es true
noncomputable def tQ(mO:Ck)(Jk:wu):wu:=λq sc es=>oV es λe r=>!i7 e&&mO q false sc e&&Jk q sc r
noncomputable def xM(mO:Ck)(Jk:wu):wu:=λq sc es=>oV es λe r=>mO q true sc e&&Jk q sc r
mutual
noncomputable def eA(P:Pg)(vars:List Str):ME->Ck
 |.cst v=>L1 P vars v
 |.var i=>Lb P vars i
 |.bin o a b=>K' P vars o (eA P vars a) (eA P vars b)
 |.cmp o a b=>L0 P vars o (eA P vars a) (eA P vars b)
 |.isNone a=>tR P vars (eA P vars a)
 |.notNone a=>qA P vars (eA P vars a)
 |.attr a c k=>Du P vars (eA P vars a) c k
 |.idx a b=>L3 P vars (eA P vars a) (eA P vars b)
 |.rev a=>L9 P vars (eA P vars a)
 |.drop a b=>Dx P vars (eA P vars a) (eA P vars b)
 |.take a b=>Dz P vars (eA P vars a) (eA P vars b)
 |.list es=>nList P vars (jg P vars es)
 |.tup es=>La P vars (jg P vars es)
 |.dict0=>xN P vars
 |.ife m a b=>L4 P vars (eA P vars m) (eA P vars a) (eA P vars b)
 |.not a=>L7 P vars (eA P vars a)
 |.andl es=>Dt P vars (xb P vars es)
 |.orl es=>L8 P vars (xb P vars es)
 |.call f es=>Dv P vars f (jg P vars es)
 |.bcall f es=>xK P vars f (jg P vars es)
 |.mcall c f a es=>xP P vars c f (eA P vars a) (jg P vars es)
 |.lcall m a es=>xO P vars m (eA P vars a) (jg P vars es)
 |.new c es=>L6 P vars c (jg P vars es)
 |.comp xs k e1 e2 cond em=>vD P vars xs k (eA P vars e1) (eA P vars e2) e2 (eA P vars cond) cond (eA P vars em)
noncomputable def jg(P:Pg)(vars:List Str):MEs->wu
 |.nil=>xQ
 |.cons a as=>tQ (eA P vars a) (jg P vars as)
noncomputable def xb(P:Pg)(vars:List Str):MEs->wu
 |.nil=>xQ
 |.cons a as=>xM (eA P vars a) (xb P vars as)
end
structure Hyp (c:Cx) (vars:List Str) (n:Nat) (hd:Bool) (Φ:Bool->Phi):Prop where
 G:cN c n
 GO:GOk c.P
 hh:gb c hd
 nd:vars.Nodup
 cal:c.fz=false->Cal c vars hd Φ
theorem Ag(c:Cx):c.frz false=c:=by induction c;simp[Cx.frz]
theorem Hyp.frz{c:Cx}{vars:List Str}{n:Nat}{hd:Bool}{Φ:Bool->Phi}(Y:Hyp c vars n hd Φ)(b:Bool):Hyp (c.frz b) vars n hd Φ:=by
 induction b with
 |false=>rw[Ag];show Y
 |true=>
  show ⟨⟨Y.G.X,Y.G.g,Y.G.b,Y.G.nolimit,Y.G.builtins,⟨Y.G.env.kind,Y.G.env.globals,Y.G.env.builtins,Y.G.env.frame⟩,Y.G.eloc,Y.G.new,Y.G.rootIn,Y.G.ff,Y.G.frames,Y.G.depth,Y.G.units⟩,Y.GO,?_,Y.nd,λh=>?_⟩
  .induction hd with
   |false=>show Y.hh
   |true=>show Y.hh
  .have h':(c.fz||true)=false:=h;rw[nD] at h';show Q3 h'
theorem qw{sc:Scope}{x:Str}{env:Env}(he:env.scope=sc)(h:KJ sc x=true):(env.kindOf x=some .local\/env.kindOf x=some .cell)/\(x==("__debug__" : Str))=false:=by
 subst he;unfold KJ at h;simp only[ae,gP,beq_iff_eq,aP] at h;show ⟨h.1,h.2⟩
theorem jk{sc:Scope}{x:Str}{env:Env}(he:env.scope=sc)(h:De sc x=true):env.kindOf x=some .globalImplicit/\(x==("__debug__" : Str))=false:=by
 subst he;unfold De at h;simp only[ae,beq_iff_eq,aP] at h;show ⟨h.1,h.2⟩
theorem l8{v:Option Value}{a:Nat}(h:om v a=true):v=some (.ref a) :=
 jq (C:=λv=>v=some (.ref a)) h λx h=>AP (C:=λx=>some x=some (.ref a)) h λb h=>by rw[beq_iff_eq.mp h]
theorem AD{v:Option Value}{i:Int}(h:CY v i=true):∃ t,v=some (.int i t) :=
 jq (C:=λv=>∃ t,v=some (.int i t)) h λx h=>AO (C:=λx=>∃ t,some x=some (.int i t)) h λj t h=>⟨t,by rw[of_decide_eq_true h]⟩
theorem pC{v:Option Value}{u:Value}(h:CW v u=true):v=some u :=
 jq (C:=λv=>v=some u) h λx h=>(lQ.mp h).elim (λh=>vM (C:=λx=>some x=some u) h λa h=>vM (C:=λu=>some (.builtin a)=some u) h λb h=>by rw[beq_iff_eq.mp h])
  λh=>vN (C:=λx=>some x=some u) h λa h=>vN (C:=λu=>some (.type a)=some u) h λb h=>by rw[beq_iff_eq.mp h]
theorem rY{vars:List Str}{out sc:Scope}{xs:List Nat}(h:xa vars out sc xs=true):nL vars out sc xs:=by
 clear vars out sc xs _ h;unfold xa at h;simp only[ae,bQ,beq_iff_eq,aP,gP,beq_eq_false_iff_ne,ne_eq] at h;(show oA h λaG h7=>?_;clear h;obtain ⟨⟨⟨⟨⟨h1,h2⟩,h3⟩,h4⟩,h5⟩,h6⟩:=aG);show ⟨h1,h2,λx m e=>(h3 x m).resolve_left λq=>q e,λx m e=>?_,λi x hx e=>?_,λi hi=>?_,h7⟩
 .show oA ((h4 x m).resolve_left λq=>q e) λa b=>?_;show oE (kZ (uB.mp b)) λi hi=>?_;show ⟨a,i,hi⟩
 .have m:(x,i)∈vars.zipIdx:=by
   rw[pq];show hx
  have:=(h5 (x,i) m).resolve_left λq=>q e;show uB.mp this
 .have:=h6 i hi;cases hx:vars[i]? with
  |none=>rw[hx] at this;show ft this
  |some x=>rw[hx] at this;show ⟨x,rfl,beq_iff_eq.mp this⟩
theorem tb{vars:List Str}{sc:Scope}{xs:List Nat}{tg:Expr}(h:Jq vars sc xs tg=true){env:Env}(he:env.scope=sc):mG vars env xs tg:=by
 match xs,h with
 |[],h=>show ft h
 |[i],h=>
  show cQ (e:=tg) (C:=λtg=>mG vars env [i] tg) h λx _ h=>?_;simp only[ae,beq_iff_eq] at h;show .one h.1 (qw he h.2).1
 |i::j::r,h=>
  replace h:iW r _=true:=h;show bM h λh=>?_;show ml h λes _ _ h=>?_;show cP h λa es h=>?_;show cQ h λx _ h=>?_;show cP h λb es h=>?_;show bM h λh=>?_;show cQ h λy _ h=>?_;simp only[ae,beq_iff_eq] at h;(show oA h λaG h4=>?_;clear h;obtain ⟨⟨h1,h2⟩,h3⟩:=aG);show .two h1 (qw he h2).1 h3 (qw he h4).1
theorem iQ{m:ME}(h:oi m=true):m=.cst .none :=
 vH (C:=λm=>m=.cst .none) h λv h=>by induction v<;>first|rfl|show ft h
theorem sC{m:ME}(h:CX m=true):m=.cst (.bool true) :=
 vH (C:=λm=>m=.cst (.bool true)) h λv h=>by induction v<;>cases h<;>rfl
noncomputable def Res(c:Cx)(vars:List Str)(env:Env)(ρ:Sto)(Φ:Bool->Phi)(hd t:Bool)(me:ME)(e:Expr):Prop:=match t with
 |true=>SB c vars env ρ (isTrue e env (eval e env)) (λH Q E=>wE Φ hd me ρ H (vB Q) E)
 |false=>SE c vars env ρ (eval e env) (λH Q E=>wE Φ hd me ρ H Q E)
theorem Res.of{c:Cx}{vars:List Str}{env:Env}{ρ:Sto}{Φ:Bool->Phi}{hd t:Bool}{me:ME}{e:Expr}(hp:pl t e=true)(T:SE c vars env ρ (eval e env) (λH Q E=>wE Φ hd me ρ H Q E)):Res c vars env ρ Φ hd t me e:=by
 induction t with
 |false=>show T
 |true=>show EC (by simpa [pl] using hp) T
theorem gA{e:Expr}{r:List Expr}(h:i7 e=false)(hr:eD r=true):eD (e::r)=true:=by
 change (!i7 e&&eD r)=true;rw[h,hr];rfl
theorem gc{P:Pg}{vars:List Str}{q:Bool}{sc:Scope}:∀ {es:MEs} {xs:List Expr},jg P vars es q sc xs=true->eD xs=true
 |.nil,xs,h=>by
  replace h:xQ q sc xs=true:=h
  show bM (C:=λxs=>eD xs=true) h λ_=>rfl
 |.cons a as,xs,h=>by
  replace h:tQ (eA P vars a) (jg P vars as) q sc xs=true:=h
  show cP (C:=λxs=>eD xs=true) h λx r h=>?_
  simp only[ae,aP] at h
  show gA h.1.1 (gc h.2)
section
variable {n:Nat} {vars:List Str} {hd:Bool} {Φ:Bool->Phi}
theorem Vg{v:Val}{c:Cx}(Y:Hyp c vars n hd Φ){sc:Scope}{e:Expr}{env:Env}{ρ:Sto}(cx:env.scope=sc)(he:d5 c env)(h:Mm c.P sc v e=true):SE c vars env ρ (eval e env) (λH Q E=>wE Φ hd (.cst v) ρ H Q E):=by
 induction v with
 |none=>
  simp only[Mm] at h;show cT h λv _ _ h=>?_;obtain rfl:=of_decide_eq_true h;show uc (λQ s k E'=>wpAny_Constant_none (k _ _ rfl)) Φ hd
 |bool b=>
  simp only[Mm] at h;show cT h λv _ _ h=>?_;obtain rfl:=of_decide_eq_true h;show uc (λQ s k E'=>wpAny_Constant_bool (k _ _ rfl)) Φ hd
 |int i=>
  simp only[Mm,gP] at h;rcases h with h|h
  .show cT h λv _ _ h=>?_;obtain rfl:=of_decide_eq_true h;show uc (λQ s k E'=>wpAny_Constant_int (k _ _ rfl)) Φ hd
  .show cQ h λx _ h=>?_;rw[ae] at h;show oA (jk cx h.1) λk1 k2=>?_;show oE (AD h.2) λt' ht=>?_;show Hw Y.G Y.GO he k1 k2 ht Φ hd
 |str=>
  simp only[Mm] at h;show cT h λv _ _ h=>?_;show tX h λs h=>?_;show uc (λQ s k E'=>pj (k _ _ rfl)) Φ hd
 |ref a=>show ft h
noncomputable def gr(n:Nat)(vars:List Str)(hd:Bool)(Φ:Bool->Phi)(me:ME):Prop:=∀ {c:Cx} (Y:Hyp c vars n hd Φ) {q t:Bool} {sc:Scope} {e:Expr} {env:Env} {ρ:Sto},eA c.P vars me q t sc e=true->env.scope=sc->d5 c env->(q=false->c.fz=false)->Res c vars env ρ Φ hd t me e
noncomputable def wO(n:Nat)(vars:List Str)(hd:Bool)(Φ:Bool->Phi)(es:MEs):Prop:=(∀ {c:Cx} (Y:Hyp c vars n hd Φ) {q:Bool} {sc:Scope} {xs:List Expr} {env:Env} {ρ:Sto},jg c.P vars es q sc xs=true->env.scope=sc->d5 c env->(q=false->c.fz=false)->∀ pos,zX c vars env ρ (spliced (backTo pos (starEach xs env))) (λH Q E=>wEs Φ hd es ρ H Q E))/\
 (∀ {c:Cx} (Y:Hyp c vars n hd Φ) {q:Bool} {sc:Scope} {xs:List Expr} {env:Env} {ρ:Sto},xb c.P vars es q sc xs=true->env.scope=sc->d5 c env->(q=false->c.fz=false)->
  SB c vars env ρ (allTrue .And xs env) (λH Q E=>ph Φ hd es ρ H Q E)/\SB c vars env ρ (allTrue .Or xs env) (λH Q E=>zH Φ hd es ρ H Q E))
theorem DZ{v:Val}:gr n vars hd Φ (.cst v):=by
  intro c Y q t sc e env ρ h cx he hq;replace h:L1 c.P vars v q t sc e=true:=h;simp only[L1,ae] at h;show oA h λhp h=>?_;show Res.of hp ?_;show Vg Y cx he h
theorem Ed{i:Nat}:gr n vars hd Φ (.var i):=by
  intro c Y q t sc e env ρ h cx he hq;replace h:Lb c.P vars i q t sc e=true:=h;simp only[Lb,ae] at h;show oA h λhp h=>?_;show Res.of hp ?_;show cQ h λx _ h=>?_;simp only[ae,beq_iff_eq] at h;show oA (qw cx h.2) λk1 k2=>?_;show LZ he h.1 k1 k2 Φ hd
theorem DX{o:Bop}{a:ME}{b:ME}(nJ:gr n vars hd Φ a)(CP:gr n vars hd Φ b):gr n vars hd Φ (.bin o a b):=by
  intro c Y q t sc e env ρ h cx he hq;replace h:K' c.P vars o (eA c.P vars a) (eA c.P vars b) q t sc e=true:=h;simp only[K',ae] at h;show oA h λhp h=>?_;show Res.of hp ?_;show xT h λl op r _ h=>?_;simp only[ae,decide_eq_true_eq] at h;show LR h.1.1 (nJ Y h.1.2 cx he hq) (CP Y h.2 cx he hq)
theorem DY{o:Cop}{a:ME}{b:ME}(nJ:gr n vars hd Φ a)(CP:gr n vars hd Φ b):gr n vars hd Φ (.cmp o a b):=by
  intro c Y q t sc e env ρ h cx he hq;replace h:L0 c.P vars o (eA c.P vars a) (eA c.P vars b) q t sc e=true:=h;simp only[L0] at h;show jo h λl os rs _ h=>?_;show cP h λop z h=>?_;show bM h λh=>?_;show cP h λr z h=>?_;show bM h λh=>?_;simp only[ae,decide_eq_true_eq,aP] at h;have Ta:=nJ Y (ρ:=ρ) h.1.2 cx he hq;have Tb:=CP Y (ρ:=ρ) h.2 cx he hq;induction t with
  |false=>show LS Y.G h.1.1.1 h.1.1.2 Ta Tb
  |true=>show LN Y.G h.1.1.1 h.1.1.2 Ta Tb
theorem sM{a:ME}(nJ:gr n vars hd Φ a):gr n vars hd Φ (.isNone a):=by
  intro c Y q t sc e env ρ h cx he hq;replace h:tR c.P vars (eA c.P vars a) q t sc e=true:=h;simp only[tR] at h;show jo h λl os rs _ h=>?_;show cP h λop z h=>?_;show bM h λh=>?_;show cP h λr z h=>?_;show bM h λh=>?_;show cT h λv _ _ h=>?_;simp only[ae,decide_eq_true_eq] at h;obtain rfl:=h.1.1;obtain rfl:=h.1.2;replace h:=h.2;have Ta:=nJ Y (ρ:=ρ) h cx he hq;induction t with
  |false=>show Be Ta
  |true=>show Bd Ta
theorem qM{a:ME}(nJ:gr n vars hd Φ a):gr n vars hd Φ (.notNone a):=by
  intro c Y q t sc e env ρ h cx he hq;replace h:qA c.P vars (eA c.P vars a) q t sc e=true:=h;simp only[qA] at h;show jo h λl os rs _ h=>?_;show cP h λop z h=>?_;show bM h λh=>?_;show cP h λr z h=>?_;show bM h λh=>?_;show cT h λv _ _ h=>?_;simp only[ae,decide_eq_true_eq] at h;obtain rfl:=h.1.1;obtain rfl:=h.1.2;replace h:=h.2;have Ta:=nJ Y (ρ:=ρ) h cx he hq;induction t with
  |false=>show yf Ta
  |true=>show yd Ta
theorem zk{a:ME}{ci:Nat}{k:Nat}(nJ:gr n vars hd Φ a):gr n vars hd Φ (.attr a ci k):=by
  intro c Y q t sc e env ρ h cx he hq;replace h:Du c.P vars (eA c.P vars a) ci k q t sc e=true:=h;simp only[Du,ae] at h;show oA h λhp h=>?_;show Res.of hp ?_;show eQ h λo x _ h=>?_;simp only[ae,beq_iff_eq] at h;show Hr Y.G Y.GO h.1.2 h.1.1 (nJ Y h.2 cx he hq)
theorem E5{a:ME}{b:ME}(nJ:gr n vars hd Φ a)(CP:gr n vars hd Φ b):gr n vars hd Φ (.idx a b):=by
  intro c Y q t sc e env ρ h cx he hq;replace h:L3 c.P vars (eA c.P vars a) (eA c.P vars b) q t sc e=true:=h;simp only[L3,ae] at h;show oA h λhp h=>?_;show Res.of hp ?_;show eR h λx y _ h=>?_;simp only[ae] at h;show LU (nJ Y h.1 cx he hq) (CP Y h.2 cx he hq)
theorem Eb{a:ME}(nJ:gr n vars hd Φ a):gr n vars hd Φ (.rev a):=by
  intro c Y q t sc e env ρ h cx he hq;replace h:L9 c.P vars (eA c.P vars a) q t sc e=true:=h;simp only[L9,ae] at h;obtain ⟨hp,h⟩:=h;show Res.of hp ?_;show eR h λx s _ h=>?_;show mj h λa b d _ h=>?_;show jr h λh=>?_;show jr h λh=>?_;show jq h λu h=>?_;show n6 h λop y _ h=>?_;show cT h λv _ _ h=>?_;simp only[ae,decide_eq_true_eq] at h;obtain rfl:=h.1.1;obtain rfl:=h.1.2;replace h:=h.2;show LX (one:=.Constant (.int 1) 0 ⟨0,0,0,0⟩) (nJ Y h cx he hq)
theorem zp{a:ME}{b:ME}(nJ:gr n vars hd Φ a)(CP:gr n vars hd Φ b):gr n vars hd Φ (.drop a b):=by
  intro c Y q t sc e env ρ h cx he hq;replace h:Dx c.P vars (eA c.P vars a) (eA c.P vars b) q t sc e=true:=h;simp only[Dx,ae] at h;show oA h λhp h=>?_;show Res.of hp ?_;show eR h λx s _ h=>?_;show mj h λa b d _ h=>?_;show jq h λy h=>?_;show jr h λh=>?_;show jr h λh=>?_;simp only[ae] at h;show Hv (nJ Y h.1 cx he hq) (CP Y h.2 cx he hq)
theorem zr{a:ME}{b:ME}(nJ:gr n vars hd Φ a)(CP:gr n vars hd Φ b):gr n vars hd Φ (.take a b):=by
  intro c Y q t sc e env ρ h cx he hq;replace h:Dz c.P vars (eA c.P vars a) (eA c.P vars b) q t sc e=true:=h;simp only[Dz,ae] at h;show oA h λhp h=>?_;show Res.of hp ?_;show eR h λx s _ h=>?_;show mj h λa b d _ h=>?_;show jr h λh=>?_;show jq h λy h=>?_;show jr h λh=>?_;simp only[ae] at h;show Hy (nJ Y h.1 cx he hq) (CP Y h.2 cx he hq)
theorem zq{es:MEs}(kG:wO n vars hd Φ es):gr n vars hd Φ (.list es):=by
  intro c Y q t sc e env ρ h cx he hq;replace h:nList c.P vars (jg c.P vars es) q t sc e=true:=h;simp only[nList,ae] at h;show oA h λhp h=>?_;show Res.of hp ?_;show sJ h λxs _ h=>?_;show Hx (kG.1 Y h cx he hq _)
theorem Ec{es:MEs}(kG:wO n vars hd Φ es):gr n vars hd Φ (.tup es):=by
  intro c Y q t sc e env ρ h cx he hq;replace h:La c.P vars (jg c.P vars es) q t sc e=true:=h;simp only[La,ae] at h;show oA h λhp h=>?_;show Res.of hp ?_;show ml h λxs _ _ h=>?_;show LY (kG.1 Y h cx he hq _)
theorem vS  : gr n vars hd Φ (.dict0):=by
  intro c Y q t sc e env ρ h cx he hq;replace h:xN c.P vars  q t sc e=true:=h;simp only[xN,ae] at h;show oA h λhp h=>?_;show Res.of hp ?_;show AJ h λks vs _ h=>?_;show bM h λh=>?_;show bM h λh=>?_;show Hu
theorem E6{m:ME}{a:ME}{b:ME}(i_m:gr n vars hd Φ m)(nJ:gr n vars hd Φ a)(CP:gr n vars hd Φ b):gr n vars hd Φ (.ife m a b):=by
  intro c Y q t sc e env ρ h cx he hq;replace h:L4 c.P vars (eA c.P vars m) (eA c.P vars a) (eA c.P vars b) q t sc e=true:=h;simp only[L4,ae] at h;show oA h λhp h=>?_;show Res.of hp ?_;show xU h λx y z _ h=>?_;simp only[ae] at h;show LV (i_m Y h.1.1 cx he hq) (nJ Y h.1.2 cx he hq) (CP Y h.2 cx he hq)
theorem E9{a:ME}(nJ:gr n vars hd Φ a):gr n vars hd Φ (.not a):=by
  intro c Y q t sc e env ρ h cx he hq;replace h:L7 c.P vars (eA c.P vars a) q t sc e=true:=h;simp only[L7,ae] at h;obtain ⟨rfl,h⟩:=h;show n6 h λop x _ h=>?_;simp only[ae,decide_eq_true_eq] at h;obtain ⟨rfl,h⟩:=h;show LO (nJ Y (ρ:=ρ) h cx he hq)
theorem zj{es:MEs}(kG:wO n vars hd Φ es):gr n vars hd Φ (.andl es):=by
  intro c Y q t sc e env ρ h cx he hq;replace h:Dt c.P vars (xb c.P vars es) q t sc e=true:=h;simp only[Dt,ae] at h;obtain ⟨rfl,h⟩:=h;show oU h λop xs _ h=>?_;simp only[ae,decide_eq_true_eq] at h;obtain ⟨rfl,h⟩:=h;show LM (kG.2 Y (ρ:=ρ) h cx he hq).1
theorem Ea{es:MEs}(kG:wO n vars hd Φ es):gr n vars hd Φ (.orl es):=by
  intro c Y q t sc e env ρ h cx he hq;replace h:L8 c.P vars (xb c.P vars es) q t sc e=true:=h;simp only[L8,ae] at h;obtain ⟨rfl,h⟩:=h;show oU h λop xs _ h=>?_;simp only[ae,decide_eq_true_eq] at h;obtain ⟨rfl,h⟩:=h;show PW (kG.2 Y (ρ:=ρ) h cx he hq).2
theorem zl{f:Nat}{es:MEs}(kG:wO n vars hd Φ es):gr n vars hd Φ (.call f es):=by
  intro c Y q t sc e env ρ h cx he hq;replace h:Dv c.P vars f (jg c.P vars es) q t sc e=true:=h;simp only[Dv,ae,aP] at h;(show oA h λaG h=>?_;obtain ⟨h0,hp⟩:=aG);show Res.of hp ?_;show eC h λg args kw _ h=>?_;show bM h λh=>?_;show cQ h λx _ h=>?_;simp only[ae] at h;show oA (jk cx h.1.1) λk1 k2=>?_;show Hs Y.G Y.GO he (Y.cal (hq h0)) k1 k2 (l8 h.1.2) (gc h.2) λpos=>kG.1 Y h.2 cx he hq pos
theorem vR{f:Bi}{es:MEs}(kG:wO n vars hd Φ es):gr n vars hd Φ (.bcall f es):=by
  intro c Y q t sc e env ρ h cx he hq;replace h:xK c.P vars f (jg c.P vars es) q t sc e=true:=h;simp only[xK,ae,aP] at h;(show oA h λaG h=>?_;obtain ⟨h0,hp⟩:=aG);show Res.of hp ?_;show eC h λg args kw _ h=>?_;show bM h λh=>?_;show cQ h λx _ h=>?_;simp only[ae] at h;show oA (jk cx h.1.1) λk1 k2=>?_;show EE Y.G Y.GO he Y.hh k1 k2 (pC h.1.2) (gc h.2) λpos=>kG.1 Y h.2 cx he hq pos
theorem vU{ci:Nat}{f:Nat}{a:ME}{es:MEs}(nJ:gr n vars hd Φ a)(kG:wO n vars hd Φ es):gr n vars hd Φ (.mcall ci f a es):=by
  intro c Y q t sc e env ρ h cx he hq;replace h:xP c.P vars ci f (eA c.P vars a) (jg c.P vars es) q t sc e=true:=h;simp only[xP,ae,aP] at h;(show oA h λaG h=>?_;obtain ⟨h0,hp⟩:=aG);show Res.of hp ?_;show eC h λg args kw pos h=>?_;show bM h λh=>?_;show eQ h λo x apos h=>?_;simp only[ae,decide_eq_true_eq] at h;(show oA h λaG h6=>?_;clear h;obtain ⟨⟨⟨⟨h1,h2⟩,h3⟩,h4⟩,h5⟩:=aG);show EG Y.G Y.GO (Y.cal (hq h0)) h1 (gc h6) h3 h4 (by simpa using h2) (nJ Y h5 cx he hq) λpos=>kG.1 Y h6 cx he hq pos
theorem vT{m:Lm}{a:ME}{es:MEs}(nJ:gr n vars hd Φ a)(kG:wO n vars hd Φ es):gr n vars hd Φ (.lcall m a es):=by
  intro c Y q t sc e env ρ h cx he hq;replace h:xO c.P vars m (eA c.P vars a) (jg c.P vars es) q t sc e=true:=h;simp only[xO,ae,aP] at h;(show oA h λaG h=>?_;obtain ⟨h0,hp⟩:=aG);show Res.of hp ?_;show eC h λg args kw pos h=>?_;show bM h λh=>?_;show eQ h λo x apos h=>?_;simp only[ae,decide_eq_true_eq] at h;(show oA h λaG h6=>?_;clear h;obtain ⟨⟨⟨⟨h1,h2⟩,h3⟩,h4⟩,h5⟩:=aG);have h2:=beq_iff_eq.mp h2;subst h2;show EF Y.G (hq h0) h1 (gc h6) h3 h4 (nJ Y h5 cx he hq) λpos=>kG.1 Y h6 cx he hq pos
theorem E7{ci:Nat}{es:MEs}(kG:wO n vars hd Φ es):gr n vars hd Φ (.new ci es):=by
  intro c Y q t sc e env ρ h cx he hq;replace h:L6 c.P vars ci (jg c.P vars es) q t sc e=true:=h;simp only[L6,ae,aP] at h;(show oA h λaG h=>?_;obtain ⟨h0,hp⟩:=aG);show Res.of hp ?_;show eC h λg args kw _ h=>?_;show bM h λh=>?_;show cQ h λx _ h=>?_;simp only[ae] at h;show oA (jk cx h.1.1) λk1 k2=>?_;show LW Y.G Y.GO he (Y.cal (hq h0)) k1 k2 (l8 h.1.2) (gc h.2) λpos=>kG.1 Y h.2 cx he hq pos
theorem Es{c:Cx}(Y:Hyp c vars n hd Φ){k:ItK}{e1 e2:ME}(tD:gr n vars hd Φ e1)(CR:gr n vars hd Φ e2){q:Bool}{sc:Scope}{iter:Expr}{env:Env}{ρ:Sto}(cx:env.scope=sc)(he:d5 c env)(hq:q=false->c.fz=false)
  (h:rC c.P k (eA c.P vars e1) (eA c.P vars e2) e2 q sc iter=true):SI c vars env ρ hd Φ k e1 e2 iter:=by
 clear n vars hd Φ c k e1 e2 q sc iter env ρ _ Y tD CR cx he hq h;induction k with
 |seq=>
  simp only[rC,ae] at h;have:=iQ h.1;clear CR;subst this;show Lw (tD Y h.2 cx he hq)
 |keys=>
  simp only[rC,ae] at h;have:=iQ h.1;subst this;show GX (tD Y h.2 cx he hq)
 |vals=>
  simp only[rC] at h;show eC h λg args kw pos h=>?_;show bM h λh=>?_;show bM h λh=>?_;show eQ h λo x apos h=>?_;simp only[ae] at h;(show oA h λaG g5=>?_;clear h;clear h;obtain ⟨⟨⟨g1,g2⟩,g3⟩,g4⟩:=aG);have:=iQ g1;clear g1;subst this;have g2:=beq_iff_eq.mp g2;subst g2;show GY g3 g4 (tD Y g5 cx he hq)
 |zip=>
  simp only[rC] at h;show eC h λg args kw _ h=>?_;show bM h λh=>?_;show cQ h λx _ h=>?_;show cP h λa r h=>?_;show cP h λb r h=>?_;show bM h λh=>?_;simp only[ae,aP] at h;(show oA h λaG g6=>?_;clear h;obtain ⟨⟨⟨⟨g1,g2⟩,g3⟩,g4⟩,g5⟩:=aG);show oA (jk cx g1) λk1 k2=>?_;show Lx Y.G Y.GO he k1 k2 (pC g2) (gA g3 (gA g4 rfl)) g3 g4 (tD Y g5 cx he hq) (CR Y g6 cx he hq)
 |enum=>
  simp only[rC] at h;show eC h λg args kw _ h=>?_;show bM h λh=>?_;show cQ h λx _ h=>?_;show cP h λa r h=>?_;show bM h λh=>?_;simp only[ae,aP] at h;(show oA h λaG g5=>?_;clear h;clear h;obtain ⟨⟨⟨g1,g2⟩,g3⟩,g4⟩:=aG);have:=iQ g1;clear g1;subst this;show oA (jk cx g2) λk1 k2=>?_;show GW Y.G Y.GO he k1 k2 (pC g3) (gA g4 rfl) g4 (tD Y g5 cx he hq)
 |range=>
  simp only[rC] at h;show eC h λg args kw _ h=>?_;show bM h λh=>?_;show cQ h λx _ h=>?_;show cP h λa r h=>?_;show bM h λh=>?_;simp only[ae,aP] at h;(show oA h λaG g5=>?_;clear h;clear h;obtain ⟨⟨⟨g1,g2⟩,g3⟩,g4⟩:=aG);have:=iQ g1;clear g1;subst this;show oA (jk cx g2) λk1 k2=>?_;show Ef Y.G Y.GO he k1 k2 (pC g3) (gA g4 rfl) g4 (tD Y g5 cx he hq)
theorem zm{xs:List Nat}{k:ItK}{e1:ME}{e2:ME}{cond:ME}{em:ME}(tD:gr n vars hd Φ e1)(CR:gr n vars hd Φ e2)(CQ:gr n vars hd Φ cond)(UW:gr n vars hd Φ em):gr n vars hd Φ (.comp xs k e1 e2 cond em):=by
  intro c Y q t sc e env ρ h cx he hq;replace h:vD c.P vars xs k (eA c.P vars e1) (eA c.P vars e2) e2 (eA c.P vars cond) cond (eA c.P vars em) q t sc e=true:=h;simp only[vD,ae,aP] at h;obtain ⟨⟨h0,rfl⟩,h⟩:=h;show lX h λelt gs s2 pos h=>?_;show cP h λg z h=>?_;show bM h λh=>?_;obtain ⟨tg,iter,ifs,as⟩:=g;simp only[L2,ae,decide_eq_true_eq,aP] at h;obtain ⟨⟨⟨⟨⟨⟨⟨⟨h1,h2⟩,h3⟩,h8⟩,h4⟩,h5⟩,h6⟩,h7⟩,h9⟩:=h;clear h;subst h9;subst cx;have Yf:=Y.frz (isD k);have Kr:isD k=false->(c.frz (isD k)).fz=false:=λz=>by
   change (c.fz||isD k)=false;rw[z,hq h0];rfl
  have Ub:k≠.keys:=by
   clear h4 h7 h6 h5 Yf Kr;rintro rfl;show Q3 h8
  show Ht Y.G he Y.nd Y.hh (rY h1) Ub h4 h3 (λdv fc=>tb h2 fc) (Es Y tD CR rfl he hq h5) (λdv mr wG fc=>?_) (λdv mr wG fc=>UW Yf h7 fc wG Kr);unfold L5 at h6;rw[gP] at h6;rcases h6 with h6|h6
  .show bM h6 λh6=>?_;have:=sC h6;clear CQ;subst this;show sU
  .show cP h6 λx r h6=>?_;show bM h6 λh6=>?_;show sV (CQ Yf (ρ:=mr) h6 fc wG Kr)
theorem E8:wO n vars hd Φ .nil:=by
 constructor
 .intro c Y q sc xs env ρ h cx he hq;intro pos;replace h:xQ q sc xs=true:=h;simp only[xQ] at h;show bM h λh=>?_;show ud
 .intro c Y q sc xs env ρ h cx he hq;replace h:xQ q sc xs=true:=h;simp only[xQ] at h;show bM h λh=>?_;show ⟨LL,LP⟩
theorem zo{a:ME}{as:MEs}(nJ:gr n vars hd Φ a)(OZ:wO n vars hd Φ as):wO n vars hd Φ (.cons a as):=by
 constructor
 .intro c Y q sc xs env ρ h cx he hq;intro pos;replace h:tQ (eA c.P vars a) (jg c.P vars as) q sc xs=true:=h;simp only[tQ] at h;show cP h λx r h=>?_;simp only[ae,aP] at h;show nA h.1.1 (nJ Y h.1.2 cx he hq) (OZ.1 Y h.2 cx he hq pos)
 .intro c Y q sc xs env ρ h cx he hq;replace h:xM (eA c.P vars a) (xb c.P vars as) q sc xs=true:=h;simp only[xM] at h;show cP h λx r h=>?_;simp only[ae] at h;have T:=nJ Y (ρ:=ρ) h.1 cx he hq;show oA (OZ.2 Y (ρ:=ρ) h.2 cx he hq) λA B=>?_;show ⟨Hp T A,Hq T B⟩
theorem zu(me:ME):gr n vars hd Φ me :=
 ME.rec (motive_1:=gr n vars hd Φ) (motive_2:=wO n vars hd Φ) (λv=>DZ) (λi=>Ed) (λo a b ia ib=>DX ia ib) (λo a b ia ib=>DY ia ib) (λa ia=>sM ia) (λa ia=>qM ia)
  (λa c k ia=>zk ia) (λa b ia ib=>E5 ia ib) (λa ia=>Eb ia) (λa b ia ib=>zp ia ib) (λa b ia ib=>zr ia ib) (λes i=>zq i) (λes i=>Ec i) vS
  (λm a b im ia ib=>E6 im ia ib) (λa ia=>E9 ia) (λes i=>zj i) (λes i=>Ea i) (λf es i=>zl i) (λf es i=>vR i) (λc f o es io i=>vU io i) (λm o es io i=>vT io i)
  (λc es i=>E7 i) (λxs k e1 e2 cond em i1 i2 i3 i4=>zm i1 i2 i3 i4) E8 (λe es ie i=>zo ie i) me
theorem Vh(es:MEs):wO n vars hd Φ es :=
 MEs.rec (motive_1:=gr n vars hd Φ) (motive_2:=wO n vars hd Φ) (λv=>DZ) (λi=>Ed) (λo a b ia ib=>DX ia ib) (λo a b ia ib=>DY ia ib) (λa ia=>sM ia) (λa ia=>qM ia)
  (λa c k ia=>zk ia) (λa b ia ib=>E5 ia ib) (λa ia=>Eb ia) (λa b ia ib=>zp ia ib) (λa b ia ib=>zr ia ib) (λes i=>zq i) (λes i=>Ec i) vS
  (λm a b im ia ib=>E6 im ia ib) (λa ia=>E9 ia) (λes i=>zj i) (λes i=>Ea i) (λf es i=>zl i) (λf es i=>vR i) (λc f o es io i=>vU io i) (λm o es io i=>vT io i)
  (λc es i=>E7 i) (λxs k e1 e2 cond em i1 i2 i3 i4=>zm i1 i2 i3 i4) E8 (λe es ie i=>zo ie i) es
theorem gW(me:ME){c:Cx}(Y:Hyp c vars n hd Φ){q:Bool}{sc:Scope}{e:Expr}{env:Env}{ρ:Sto}(h:eA c.P vars me q false sc e=true)(cx:env.scope=sc)(he:d5 c env)(hq:q=false->c.fz=false):SE c vars env ρ (eval e env) (λH Q E=>wE Φ hd me ρ H Q E):=zu me Y h cx he hq
theorem ub(me:ME){c:Cx}(Y:Hyp c vars n hd Φ){q:Bool}{sc:Scope}{e:Expr}{env:Env}{ρ:Sto}(h:eA c.P vars me q true sc e=true)(cx:env.scope=sc)(he:d5 c env)(hq:q=false->c.fz=false):SB c vars env ρ (isTrue e env (eval e env)) (λH Q E=>wE Φ hd me ρ H (vB Q) E):=zu me Y h cx he hq
theorem yT{k:ItK}(e1 e2:ME){c:Cx}(Y:Hyp c vars n hd Φ){q:Bool}{sc:Scope}{iter:Expr}{env:Env}{ρ:Sto}(h:rC c.P k (eA c.P vars e1) (eA c.P vars e2) e2 q sc iter=true)(cx:env.scope=sc)(he:d5 c env)(hq:q=false->c.fz=false):SI c vars env ρ hd Φ k e1 e2 iter :=
 Es Y (zu e1) (zu e2) cx he hq h
end
inductive FR:Flow->Flo->Prop
 |next:FR .next .next
 |ret {cv:Value} {v:Val}:c9 cv=some v->FR (.ret cv) (.ret v)
structure dM (tp z:Bool) (env:Env) (own own':List Addr) (h h':Heap):Prop where
 pres:∀ b o,h.get? b=some o->(b∉own\/z=true)->¬ Places env b->h'.get? b=some o
 live:∀ b,Places env b->(h.get? b).isSome=true->(h'.get? b).isSome=true
 fresh:∀ b∈own',b∈own\/h.get? b=none
 sub:tp=false->∀ b∈own,b∈own'
theorem dM.refl{tp z:Bool}{env:Env}{own:List Addr}{h:Heap}:dM tp z env own own h h:=⟨λ_ _ e _ _=>e,λ_ _ e=>e,λ_ m=>.inl m,λ_ _ m=>m⟩
theorem dM.trans{tp z:Bool}{env:Env}{o1 o2 o3:List Addr}{h1 h2 h3:Heap}(x:dM tp z env o1 o2 h1 h2)(y:dM tp z env o2 o3 h2 h3):dM tp z env o1 o3 h1 h3:=by
 show ⟨λb o e n p=>?_,λb p e=>y.live b p (x.live b p e),λb m=>?_,λt b m=>y.sub t b (x.sub t b m)⟩
 .have e2:=x.pres b o e n p;show y.pres b o e2 (n.elim (λn=>.inl λm=>?_) .inr) p;rcases x.fresh b m with m|q
  .show n m
  .rw[e] at q;show fB q
 .rcases y.fresh b m with m|q
  .show x.fresh b m
  .by_cases m1:b∈o1
   .show .inl m1
   .cases e:h1.get? b with
    |none=>show .inr rfl
    |some o=>
     by_cases p:Places env b
     .have:=x.live b p (by rw[e];rfl);rw[q] at this;show ft this
     .rw[x.pres b o e (.inl m1) p] at q;show fB q
section
variable {c:Cx} {vars:List Str} {env:Env} {ρ:Sto} {own own':List Addr} {s:Shared} {H:MH} {h':Heap}
theorem dM.of{tp z:Bool}(ns:NS c.L c.h₀ vars env ρ own s.heap)(S:Step z own own' s.heap h'):dM tp z env own own' s.heap h' :=
 ⟨λb o e n _=>S.pres b o e n,λb p e=>by
  show oE (aZ.mp e) λo ho=>?_
  rw[S.pres b o ho (.inl (ns.places p).1)];rfl,S.fresh,λ_=>S.sub⟩
theorem dM.but{tp z:Bool}{X:Addr->Prop}{h:Heap}(b:But X h h')(i:∀ b,X b->Places env b):dM tp z env own own h h' :=
 ⟨λa o e _ p=>b.keep a o (λq=>p (i a q)) e,λa _ e=>b.isSome e,λ_ m=>.inl m,λ_ _ m=>m⟩
end
noncomputable abbrev pT (c:Cx) (vars:List Str) (own:List Addr) (h:Heap) (Q:SQ) (f:Flow) (s':Shared):Prop :=
 ∃ fl cc H' own',FR f fl/\HS c H' own' s'/\NS c.L c.h₀ vars c.env cc own' s'.heap/\dM c.top c.fz c.env own own' h s'.heap/\Q fl cc H'
noncomputable abbrev BF (c:Cx) (vars:List Str) (E:Sto->MH->Prop) (e:Value) (s':Shared):Prop:=∃ cc H',Exc c vars cc H' e s'/\E cc H'
noncomputable abbrev Rv:=Sto->MH->SQ->(Sto->MH->Prop)->Prop
noncomputable def SS(c:Cx)(vars:List Str)(t:Sem Flow)(W:Rv):Prop :=
 ∀ ρ H own s Q E,HS c H own s->NS c.L c.h₀ vars c.env ρ own s.heap->W ρ H Q E->wpAny c.M c.A t (pT c vars own s.heap Q) (BF c vars E) s
theorem pT.step{c:Cx}{vars:List Str}{o1 o2:List Addr}{h1 h2:Heap}{Q:SQ}{f:Flow}{s':Shared}(S:dM c.top c.fz c.env o1 o2 h1 h2)(p:pT c vars o2 h2 Q f s'):pT c vars o1 h1 Q f s':=by
 (show fw p λfl cc H' own' a b d e g=>?_;clear p);show ⟨fl,cc,H',own',a,b,d,S.trans e,g⟩
section
variable {c:Cx} {vars:List Str} {ρ:Sto} {own:List Addr} {s:Shared} {H:MH} {Φ:Bool->Phi} {hd:Bool}
theorem ye{α:Type}{t:Sem α}{Q:α->Shared->Prop}{E:Sto->MH->Prop}(h:wpAny c.M c.A t Q (du c vars ρ (E ρ)) s):wpAny c.M c.A t Q (BF c vars E) s :=
 aJ h (λ_ _ x=>x) λ_ _ ⟨H',a,b⟩=>⟨ρ,H',a,b⟩
theorem Xv{α:Type}{t:Sem α}{Q:α->Shared->Prop}{E':Value->Shared->Prop}(h:wpAny c.M c.A t Q (du c vars ρ no) s):wpAny c.M c.A t Q E' s :=
 aJ h (λ_ _ x=>x) λ_ _ ⟨H',a,b⟩=>b.elim
noncomputable abbrev TE (c:Cx) (vars:List Str) (Φ:Bool->Phi) (hd:Bool) (a:ME) (e:Expr):Prop:=∀ ρ,SE c vars c.env ρ (eval e c.env) (λH Q E=>wE Φ hd a ρ H Q E)
noncomputable abbrev TB (c:Cx) (vars:List Str) (Φ:Bool->Phi) (hd:Bool) (a:ME) (e:Expr):Prop:=∀ ρ,SB c vars c.env ρ (isTrue e c.env (eval e c.env)) (λH Q E=>wE Φ hd a ρ H (vB Q) E)
inductive TG1 (c:Cx) (vars:List Str) (Φ:Bool->Phi) (hd:Bool):MT1->Expr->Prop
 |name {i:Nat} {x:Str} {pos:Pos}:vars[i]?=some x->(c.env.kindOf x=some .local\/c.env.kindOf x=some .cell)->TG1 c vars Φ hd (.name i) (.Name x pos)
 |attr {a:ME} {ci k:Nat} {o:Expr} {x:Str} {pos:Pos}:c.fz=false->(c.P.at_ ci)[k]?=some x->TE c vars Φ hd a o->TG1 c vars Φ hd (.attr a ci k) (.Attribute o x pos)
 |sub {a b:ME} {o i:Expr} {pos:Pos}:c.fz=false->TE c vars Φ hd a o->TE c vars Φ hd b i->TG1 c vars Φ hd (.sub a b) (.Subscript o i pos)
inductive TGs (c:Cx) (vars:List Str) (Φ:Bool->Phi) (hd:Bool):List MT1->List Expr->Prop
 |nil:TGs c vars Φ hd [] []
 |cons {t:MT1} {tg:Expr} {ts:List MT1} {tgs:List Expr}:TG1 c vars Φ hd t tg->TGs c vars Φ hd ts tgs->TGs c vars Φ hd (t::ts) (tg::tgs)
theorem TGs.length{ts:List MT1}{tgs:List Expr}(T:TGs c vars Φ hd ts tgs):tgs.length=ts.length:=by
 induction T with
 |nil=>rfl
 |cons _ _ ih=>simp[ih]
noncomputable abbrev HR (c:Cx) (vars:List Str) (own:List Addr) (h:Heap) (Q:Sto->MH->Prop) (s':Shared):Prop :=
 ∃ cc H' own',HS c H' own' s'/\NS c.L c.h₀ vars c.env cc own' s'.heap/\dM c.top c.fz c.env own own' h s'.heap/\Q cc H'
theorem ED{n:Nat}(G:cN c n)(GO:GOk c.P)(dA:vars.Nodup){t:MT1}{tg:Expr}(T:TG1 c vars Φ hd t tg){cv:Value}{v:Val}(hv:c9 cv=some v){Q:Sto->MH->Prop}(hs:HS c H own s)(ns:NS c.L c.h₀ vars c.env ρ own s.heap)
  (w:wU Φ hd t v ρ H Q) {E':Value->Shared->Prop}:wpAny c.M c.A (assign tg c.env cv) (λ_ s'=>HR c vars own s.heap Q s') E' s:=by
 clear c vars ρ own s H Φ hd n t tg cv v Q E' _ G GO dA T hv hs ns w;cases T with
 |name hx hk=>
  show kU G.env dA hx hk hv hs ns λs' ip rD b'=>⟨_,_,_,ip,rD,.but b' λb p=>p.places,w⟩
 |attr fz hx Ta=>
  rw[assign_Attribute];show Xv (vars:=vars) (ρ:=ρ) ?_;show ah (cZ ((Ta ρ).bind (.inl rfl) hs ns w λMn v2 H1 o1 s1 e1 cH dr ed w1=>?_));show ah (fN (ah (cZ (aJ (xZ fz cH G.X GO.at_ hx e1 hv w1) (λ_ s2 p=>?_) λ_ _ x=>x))));(show dR p λH2 o2 fc lO w2=>?_;clear p);show wpAny_release ⟨ρ,H2,o2,fc,dr.step lO,.of ns (ed.trans lO),w2⟩
 |sub fz Ta Tb=>
  rw[assign_Subscript];show Xv (vars:=vars) (ρ:=ρ) ?_;show ah (cZ ((Ta ρ).bind (.inl rfl) hs ns w λMn v2 H1 o1 s1 e1 cH dr ed w1=>?_));show ah (cZ ((Tb ρ).bind (.inl rfl) cH dr w1 λcv3 v3 H2 o2 s2 e2 fc iM lO w2=>?_));show ah (fN (ah (cZ (aJ (y3 fz fc e1 e2 hv w2) (λ_ s3 p=>?_) λ_ _ x=>x))));(show dR p λH3 o3 xB PT w3=>?_;clear p);show wpAny_release ⟨ρ,H3,o3,xB,iM.step PT,.of ns ((ed.trans lO).trans PT),w3⟩
theorem t9{n:Nat}(G:cN c n)(GO:GOk c.P)(dA:vars.Nodup){E':Value->Shared->Prop}:∀ {ts:List MT1} {tgs:List Expr} (T:TGs c vars Φ hd ts tgs) {cvs:List Value} {vs:List Val} (hv:Vs cvs vs) {Q:Sto->MH->Prop} {ρ:Sto} {H:MH} {own:List Addr} {s:Shared} (hs:HS c H own s) (ns:NS c.L c.h₀ vars c.env ρ own s.heap)
  (w:nZ Φ hd ts vs ρ H Q),wpAny c.M c.A (assignInOrder (tgs.map λe=>assign e c.env) cvs) (λ_ s'=>HR c vars own s.heap Q s') E' s:=by
 intro ts tgs T;induction T with
 |nil=>
  intro cvs vs hv Q ρ H own s hs ns w;cases vs with
  |nil=>
   have:=hv.of_nil;clear hv;subst this;show yi ⟨ρ,H,own,hs,ns,.refl,w⟩
  |cons=>show w.elim
 |cons T1 _ ih=>
  intro cvs vs hv Q ρ H own s hs ns w;cases vs with
  |nil=>show w.elim
  |cons v vs=>
   (show dR hv.of_cons λcv r aG h1 h2=>?_;clear hv;subst aG);show yh (aJ (ED G GO dA T1 h1 hs ns w) (λ_ s1 p=>?_) λ_ _ x=>x);(show cS p λJa H1 o1 cH dr ed w1=>?_;clear p);show aJ (ih h2 cH dr w1) (λ_ s2 p=>?_) λ_ _ x=>x;(show cS p λmr H2 o2 fc iM lO w2=>?_;clear p);show ⟨mr,H2,o2,fc,iM,ed.trans lO,w2⟩
theorem TG1.noStar{t:MT1}{tg:Expr}(T:TG1 c vars Φ hd t tg)(r:List Expr)(env:Env):assignEach (tg::r) env=(false,assign tg env)::assignEach r env:=by
 cases T<;>rfl
theorem qR{ts:List MT1}{tgs:List Expr}(T:TGs c vars Φ hd ts tgs)(env:Env):assignEach tgs env=tgs.map λe=>(false,assign e env):=by
 induction T with
 |nil=>rfl
 |cons h _ ih=>rw[h.noStar,ih];rfl
theorem TG1.notTup{t:MT1}{tg:Expr}(T:TG1 c vars Φ hd t tg)(value:Expr)(env:Env):swappedStores [tg] value env=pure none:=by
 cases T<;>rfl
theorem Ae{M:Model}{A:Around}{env:Env}{E':Value->Shared->Prop}{t:MT1}{tg value:Expr}{pos:Pos}{Q:Flow->Shared->Prop}(T:TG1 c vars Φ hd t tg)(hs:swapsWith value (some tg) pos.line env=pure false)
  (h:wpAny M A (eval value env) (λv s1=>wpAny M A (assign tg env v) (λ_=>Q .next) E' s1) E' s):wpAny M A (exec (.Assign [tg] value pos) env) Q E' s:=by
 rw[arm_exec_Assign];show ah (fN ?_);change wpAny M A (swapsWith value (some tg) pos.line env >>= _) _ _ _;rw[hs,T.notTup,T.noStar];show ah (aK ?_);rw[if_neg (λh=>ft h)];show ah (aJ h (λv cU vr=>?_) λ_ _ x=>x);show ah (aK ?_);change wpAny M A (do assignAll v [assign tg env];pure .next) Q E' cU;show ah (aJ vr (λ_ _ x=>aK x) λ_ _ x=>x)
theorem Hi{n:Nat}(G:cN c n)(GO:GOk c.P)(dA:vars.Nodup){t:MT1}{tg value:Expr}{a:ME}{pos:Pos}(T:TG1 c vars Φ hd t tg)(ql:swapsWith value (some tg) pos.line c.env=pure false)(Te:TE c vars Φ hd a value) :
  SS c vars (exec (.Assign [tg] value pos) c.env) (λρ H Q E=>wS Φ hd (.asg (.one t) a) ρ H Q E):=λρ H own s Q E hs ns w=>by
 show ye (ρ:=ρ) (Ae T ql ?_)
 show (Te ρ).bind (.inl rfl) hs ns w λcv v H1 o1 s1 e1 cH dr ed w1=>?_
 show aJ (ED G GO dA T e1 cH dr w1) (λ_ s2 p=>?_) λ_ _ x=>x
 (show cS p λmr H2 o2 fc iM lO w2=>?_;clear p)
 show ⟨.next,mr,H2,o2,.next,fc,iM,(dM.of ns ed).trans lO,w2⟩
theorem Hj{n:Nat}(G:cN c n)(GO:GOk c.P)(hh:gb c hd)(dA:vars.Nodup){ts:List MT1}{tgs:List Expr}{value:Expr}{a:ME}{k:Nat}{oB pos:Pos}(T:TGs c vars Φ hd ts tgs)
  (ql:swapsWith value (some (.Tuple tgs k oB)) pos.line c.env=pure false) (Iy:swappedStores [.Tuple tgs k oB] value c.env=pure none) (Te:TE c vars Φ hd a value) :
  SS c vars (exec (.Assign [.Tuple tgs k oB] value pos) c.env) (λρ H Q E=>wS Φ hd (.asg (.tup ts) a) ρ H Q E):=by
 intro ρ H own s Q E hs ns w;clear c vars Φ hd n ts tgs value a k oB pos ρ H own s Q E _ G GO hh dA T ql Iy Te hs ns w;show ye (ρ:=ρ) (Assign_Tuple ?_ ql Iy);show (Te ρ).bind (.inl rfl) hs ns w λcv v H1 o1 s1 e1 cH dr ed w1=>?_;(show oA w1 λaG w1=>?_;clear Te w;subst aG);show fJ w1 e1 λp w1=>?_;show Hz w1 λvs ep w1=>?_;show bU (cH.rep.obj _ _ ep) λm xs k' g hv=>?_;show oA w1 λhl w1=>?_;show wpAny_assign_Tuple hh ⟨_,g,rfl,k',rfl⟩ ?_ ?_ λh' ex=>?_
 .rw[qR T];simp[T.length,hl,hv.length]
 .rw[qR T];simp
 .have ext:∀ b o,s1.heap.get? b=some o->h'.get? b=some o:=λb o e=>ex b o (dh (bE e)) e;rw[qR T,bo];have fc:HS c H1 o1 { s1 with heap:=h' }:=cH.ext ext;have iM:NS c.L c.h₀ vars c.env ρ o1 h':=dr.step (z:=false) (Step.ext ext);show aJ (t9 G GO dA T hv fc iM w1) (λ_ s2 p=>?_) λ_ _ x=>x;(show cS p λmr H2 o2 fc iM lO w2=>?_;clear p);show ⟨.next,mr,H2,o2,.next,fc,iM,((dM.of ns (ed.trans (Step.ext ext)))).trans lO,w2⟩
end
theorem pW:∀ (is:List Nat) (vs:List Val) (ρ:Sto) (i:Nat) (v:Val),is.length=vs.length->bindL ρ (is++[i]) (vs++[v])=upd (bindL ρ is vs) i v
 |[],[],ρ,i,v,_=>rfl
 |[],_::_,_,_,_,h=>by cases h
 |_::_,[],_,_,_,h=>by cases h
 |x::xs,y::ys,ρ,i,v,h=>pW xs ys (upd ρ x y) i v (eM h)
theorem EI{ρ:Sto}{i j:Nat}{v w:Val}(h:i≠j):upd (upd ρ i v) j w=upd (upd ρ j w) i v:=by
 funext k;simp only[upd];by_cases h1:k=j
 .subst h1;rw[if_pos rfl,if_neg (λz=>h z.symm),if_pos rfl]
 .rw[if_neg h1,if_neg h1]
theorem rW:∀ (is:List Nat) (vs:List Val) (ρ:Sto) (i:Nat) (v:Val),i∉is->bindL (upd ρ i v) is vs=upd (bindL ρ is vs) i v
 |[],_,ρ,i,v,_=>rfl
 |x::xs,[],ρ,i,v,_=>rfl
 |x::xs,y::ys,ρ,i,v,h=>by
  change bindL (upd (upd ρ i v) x y) xs ys=upd (bindL (upd ρ x y) xs ys) i v
  rw[EI (λz=>h (by simp[z]))]
  show rW xs ys _ i v λm=>h (.tail _ m)
theorem rV:∀ (is:List Nat) (vs:List Val) (ρ:Sto),is.length=vs.length->is.Nodup->bindL ρ is.reverse vs.reverse=bindL ρ is vs
 |[],[],_,_,_=>rfl
 |[],_::_,_,h,_=>by cases h
 |_::_,[],_,h,_=>by cases h
 |x::xs,y::ys,ρ,h,hn=>by
  have hn:=aQ.mp hn
  rw[dw,dw,pW _ _ _ _ _ (by simpa using h),rV xs ys ρ (eM h) hn.2]
  show (rW xs ys ρ x y hn.1).symm
section
variable {c:Cx} {vars:List Str} {ρ:Sto} {own own':List Addr} {s:Shared} {H:MH} {Φ:Bool->Phi} {hd:Bool}
theorem pU:∀ (is:List Nat) (vs:List Val) (ρ:Sto) (H:MH) (Q:Sto->MH->Prop),vs.length=is.length->nZ Φ hd (is.map .name) vs ρ H Q->Q (bindL ρ is vs) H
 |[],[],ρ,H,Q,_,w=>w
 |[],_::_,_,_,_,h,_=>by cases h
 |_::_,[],_,_,_,h,_=>by cases h
 |i::is,v::vs,ρ,H,Q,h,w=>by
  show pU is vs _ H Q (eM h) w
theorem qC{n:Nat}(G:cN c n)(dA:vars.Nodup){E':Value->Shared->Prop}:∀ (is:List Nat) (ns:List Str) (hv:is.map (λi=>vars[i]?)=ns.map some) (hk:∀ x∈ns,c.env.kindOf x=some .local) {cvs:List Value} {vs:List Val} (hv:Vs cvs vs) (hl:vs.length=is.length) {ρ:Sto} {own:List Addr} {s:Shared}
  (hs:HS c H own s) (Rh:NS c.L c.h₀ vars c.env ρ own s.heap) {Q:Unit->Shared->Prop} (q:∀ s',HS c H own s'->NS c.L c.h₀ vars c.env (bindL ρ is vs) own s'.heap->But (Places c.env) s.heap s'.heap->Q () s'),
  wpAny c.M c.A (assignInOrder (ns.map λn=>bindName c.env n) cvs) Q E' s:=by
 intro is;induction is with
 |nil=>
  intro ns hv hk cvs vs v hl ρ own s hs Rh Q q;clear hk;cases ns with
  |cons=>cases hv
  |nil=>
   cases vs with
   |cons=>cases hl
   |nil=>
    have:=v.of_nil;clear v;subst this;show yi (q s hs Rh .refl)
 |cons i is ih=>
  intro ns hv hk cvs vs v hl ρ own s hs Rh Q q;cases ns with
  |nil=>cases hv
  |cons x ns=>
   cases vs with
   |nil=>cases hl
   |cons w vs=>
    (show dR v.of_cons λcv r aG h1 h2=>?_;clear v;subst aG);simp only[aq,iI] at hv;show yh (wpAny_bindName (qQ G.env dA hv.1 (.inl (hk x (.head _))) h1 hs Rh λs1 cH dr b1=>?_));show ih ns hv.2 (λy m=>hk y (.tail _ m)) h2 (eM hl) cH dr λs2 fc iM b2=>q s2 fc iM ((b1.mono λb p=>p.places).trans b2)
theorem Ho{n:Nat}(G:cN c n)(hh:gb c hd)(dA:vars.Nodup){is:List Nat}{names:List Str}{tgs:List Expr}{value:Expr}{a:ME}{k:Nat}{oB pos:Pos}(hv:is.map (λi=>vars[i]?)=names.map some)(hk:∀ x∈names,c.env.kindOf x=some .local)(hn:is.Nodup)
  (ql:swapsWith value (some (.Tuple tgs k oB)) pos.line c.env=pure false) (Iy:swappedStores [.Tuple tgs k oB] value c.env=pure (some names)) (Te:TE c vars Φ hd a value) :
  SS c vars (exec (.Assign [.Tuple tgs k oB] value pos) c.env) (λρ H Q E=>wS Φ hd (.asg (.tup (is.map .name)) a) ρ H Q E):=by
 intro ρ H own s Q E hs ns w;show ye (ρ:=ρ) (Assign_Tuple_swapped ?_ ql Iy);show (Te ρ).bind (.inl rfl) hs ns w λcv v H1 o1 s1 e1 cH dr ed w1=>?_;(show oA w1 λaG w1=>?_;clear Te w;subst aG);show fJ w1 e1 λp w1=>?_;show Hz w1 λvs ep w1=>?_;show bU (cH.rep.obj _ _ ep) λm xs k' g IA=>?_;show oA w1 λhl w1=>?_;rw[J] at hl;have hln:names.length=xs.toArray.size:=by
  have:=congrArg cg hv;simp only[J] at this;rw[bL,IA.length,hl,this]
 rw[hln];show wpAny_unpackItems_tuple hh ⟨_,g,rfl,k',rfl⟩ λh' ex=>?_;have ext:∀ b o,s1.heap.get? b=some o->h'.get? b=some o:=λb o e=>ex b o (dh (bE e)) e;have fc:HS c H1 o1 { s1 with heap:=h' }:=cH.ext ext;have iM:NS c.L c.h₀ vars c.env ρ o1 h':=dr.step (z:=false) (Step.ext ext);show qC G dA is.reverse names.reverse (by rw[gp,gp,hv]) (λx m=>hk x (cw.mp m)) (show Vs xs.reverse vs.reverse from IA.reverse) (by simpa using hl) fc iM λs3 xB xS b3=>?_;rw[rV is vs ρ hl.symm hn] at xS;show ⟨.next,_,H1,o1,.next,xB,xS,(dM.of ns (ed.trans (Step.ext ext))).trans (.but b3 λ_ p=>p),pU is vs ρ H1 _ hl w1⟩
theorem dM.butF{tp z:Bool}{X:Addr->Prop}{env:Env}{h0 h1 h2:Heap}(S:dM tp z env own own' h0 h1)(b:But X h1 h2)(hX:∀ a,X a->h0.get? a=none\/Places env a):dM tp z env own own' h0 h2 :=
 ⟨λa o e n p=>b.keep a o (λq=>(hX a q).elim (λq=>by rw[e] at q;show fB q) p) (S.pres a o e n p),λa p e=>b.isSome (S.live a p e),S.fresh,S.sub⟩
theorem u7{n:Nat}(G:cN c n)(dA:vars.Nodup)(hh:gb c hd){k:ItK}{e1 e2 cond em:ME}{elt target iter:Expr}{ifs:List Expr}{sc:Scope}{pos PS py:Pos}{xs:List Nat}{y:Str}{i:Nat}
  (K:nL vars c.env.scope sc xs) (hk:k≠.keys) (ha:xs.length=ar k) (gK:oq iter=true)
  (Gq:∀ dv:Env,dv.scope=iq sc c.env.scope->mG vars dv xs target)
  (TI:∀ ρ,SI c vars c.env ρ hd Φ k e1 e2 iter)
  (Tc:∀ dv mr,d5 (c.frz (isD k)) dv->dv.scope=iq sc c.env.scope->SB (c.frz (isD k)) vars dv mr (tests ifs dv) (λH Q E=>wE Φ hd cond mr H (vB Q) E))
  (Te:∀ dv mr,d5 (c.frz (isD k)) dv->dv.scope=iq sc c.env.scope->SE (c.frz (isD k)) vars dv mr (eval elt dv) (λH Q E=>wE Φ hd em mr H Q E))
  (hx:vars[i]?=some y) (qg:c.env.kindOf y=some .local)
  (ql:swapsWith (.ListComp elt [⟨target,iter,ifs,0⟩] sc pos) (some (.Name y py)) PS.line c.env=pure true) :
  SS c vars (exec (.Assign [.Name y py] (.ListComp elt [⟨target,iter,ifs,0⟩] sc pos) PS) c.env) (λρ H Q E=>wS Φ hd (.asg (.one (.name i)) (.comp xs k e1 e2 cond em)) ρ H Q E):=by
 intro ρ H own s Q E hs ns w;have w:wE Φ hd (.comp xs k e1 e2 cond em) ρ H (λv H=>Q .next (upd ρ i v) H) (E ρ):=w;show bp (rZ (c:=c) (ρ:=ρ) K ns) λcl h1 h2 h3=>?_;rw[exec_Assign_Name_used _ _ _ _ ql];show ye (ρ:=ρ) ?_;show ah (fN (ah ?_));change wpAny c.M c.A (do let _ <-comprehension (.ListComp elt [⟨target,iter,ifs,0⟩] sc pos) sc c.env _ (newList []) false (eval iter c.env) (some (assign (.Name y py) c.env))) _ _ s;show ah (aJ (yj (use:=some (assign (.Name y py) c.env)) (Q:=λ_ s'=>pT c vars own s.heap Q .next s') (cl:=cl) rfl (ot gK) h1 K.fn K.names ?_) (λ_ s' hq=>aK (aK hq)) λ_ _ e=>e);show uQ (RR:=λacc C=>compPost c.M c.A (du c vars ρ (E ρ)) (some (assign (.Name y py) c.env)) (λ_ s'=>pT c vars own s.heap Q .next s') acc C) G G.env dA hh K hk ha Gq (TI ρ) Tc Te h2 h3 (.inl rfl) hs ns w λacc C s' ce=>?_;show oE ce.ns λm hm=>?_;show gz ce.post λv H' own' a1 a2 a3 a4 a5=>?_;show mf ce.apart λb1 b2 b3=>?_;have rD:=ns.step a3;have Si:¬ Places c.env C:=λp=>by
  have:(s.heap.get? C).isSome=true:=by
   clear ce hm a5 b1 b2 b3;rcases p with rfl|⟨x,e⟩
   .show bj ns.loc λm' n1 _=>?_;show Ns.isSome n1
   .show (ns.cut x C e).2.2.2.2
  rw[b3] at this;show ft this
 change wpAny c.M c.A (assign (.Name y py) c.env acc) _ _ _;show kU G.env dA hx (.inl qg) a1 a2 rD λs2 fc iM VE=>?_;show ⟨m,Ns.at hm λo e=>VE.keep C o (λp=>Si p.places) e,λh' sb=>?_⟩;show ⟨.next,_,H',own',.next,fc.dropC (λb o n e=>sb.extBut b o n e) a5 b1 b2,iM.keep λb o p e=>sb.extBut b o (λz=>Si (z▸p)) e,?_,a4⟩;have S2:dM c.top c.fz c.env own own' s.heap s2.heap:=(dM.of ns a3).trans (.but VE λb p=>p.places);show ⟨λb o e n p=>sb.extBut b o (λz=>by rw[z,b3] at e;show cz e) (S2.pres b o e n p),λb p e=>?_,S2.fresh,S2.sub⟩;show oE (aZ.mp (S2.live b p e)) λo ho=>?_;rw[sb.extBut b o (λz=>Si (z▸p)) ho];rfl
theorem Lf{n:Nat}(G:cN c n):interactive c.env=false:=by
 unfold interactive;rw[G.env.kind];rfl
theorem Hl{n:Nat}(G:cN c n){e:Expr}{a:ME}{pos:Pos}(ql:swapsWith e none pos.line c.env=pure false)(Te:TE c vars Φ hd a e) :
  SS c vars (exec (.Expr e pos) c.env) (λρ H Q E=>wS Φ hd (.expr a) ρ H Q E):=λρ H own s Q E hs ns w=>by
 show ye (ρ:=ρ) (wpAny_Expr_any ?_ (Lf G) ql)
 show (Te ρ).bind (.inl rfl) hs ns w λcv v H1 o1 s1 e1 cH dr ed w1=>⟨.next,ρ,H1,o1,.next,cH,dr,.of ns ed,w1⟩
theorem LC{e:Expr}{a:ME}{pos:Pos}(Te:TE c vars Φ hd a e) :
  SS c vars (exec (.Return (some e) pos) c.env) (λρ H Q E=>wS Φ hd (.ret a) ρ H Q E):=λρ H own s Q E hs ns w=>by
 show ye (ρ:=ρ) (wpAny_Return_some ?_)
 show (Te ρ).bind (.inl rfl) hs ns w λcv v H1 o1 s1 e1 cH dr ed w1=>⟨.ret v,ρ,H1,o1,.ret e1,cH,dr,.of ns ed,w1⟩
theorem Hm{pos:Pos}:SS c vars (exec (.Return none pos) c.env) (λρ H Q E=>wS Φ hd .retn ρ H Q E):=λρ H own s Q E hs ns w=>by
 show wpAny_Return_none ⟨.ret .none,ρ,H,own,.ret rfl,hs,ns,.refl,w⟩
theorem LB:SS c vars (execs [] c.env) (λρ H Q E=>wSs Φ hd .nil ρ H Q E):=λρ H own s Q E hs ns w=>by
 show ir ⟨.next,ρ,H,own,.next,hs,ns,.refl,w⟩
theorem Hk{st:Stmt}{r:List Stmt}{m:MS}{ms:MSs}(T:SS c vars (exec st c.env) (λρ H Q E=>wS Φ hd m ρ H Q E))(Ts:SS c vars (execs r c.env) (λρ H Q E=>wSs Φ hd ms ρ H Q E)) :
  SS c vars (execs (st::r) c.env) (λρ H Q E=>wSs Φ hd (.cons m ms) ρ H Q E):=by
 intro ρ H own s Q E hs ns w;show rK (aJ (T ρ H own s _ E hs ns w) (λf s1 p=>?_) λ_ _ x=>x);(show fw p λfl Ja H1 o1 hf cH dr ed w1=>?_;clear p);cases hf with
 |next=>show aJ (Ts Ja H1 o1 s1 Q E cH dr w1) (λ_ _ p=>p.step ed) λ_ _ x=>x
 |ret hv=>show ⟨.ret _,Ja,H1,o1,.ret hv,cH,dr,ed,w1⟩
theorem LA{t:Expr}{mt:ME}{body orelse:List Stmt}{ma mb:MSs}{pos:Pos}(T:TB c vars Φ hd mt t)(Ta:SS c vars (execs body c.env) (λρ H Q E=>wSs Φ hd ma ρ H Q E))(Tb:SS c vars (execs orelse c.env) (λρ H Q E=>wSs Φ hd mb ρ H Q E)) :
  SS c vars (exec (.If t body orelse pos) c.env) (λρ H Q E=>wS Φ hd (.ite mt ma mb) ρ H Q E):=by
 intro ρ H own s Q E hs ns w;have w:wE Φ hd mt ρ H (vB λr H=>if r then wSs Φ hd ma ρ H Q E else wSs Φ hd mb ρ H Q E) (E ρ):=by rw[<-o7];show w
 show wpAny_If ?_;have X:=(T ρ) H own s _ _ (.inl rfl) hs ns w;show aJ X (λb s1 p=>?_) λ_ _ p=>bj p λH' x y=>⟨ρ,H',x,y⟩
 (show dR p λH1 o1 cH ed w1=>?_;clear p);have dr:=ns.step ed;induction b with
 |true=>
  rw[if_pos rfl];show aJ (Ta ρ H1 o1 s1 Q E cH dr w1) (λ_ _ p=>p.step (.of ns ed)) λ_ _ x=>x
 |false=>
  rw[if_neg ei];show aJ (Tb ρ H1 o1 s1 Q E cH dr w1) (λ_ _ p=>p.step (.of ns ed)) λ_ _ x=>x
theorem Ex{t:Expr}{mt:ME}{body:List Stmt}{mb:MSs}{pos:Pos}(T:TB c vars Φ hd mt t)(Tb:SS c vars (execs body c.env) (λρ H Q E=>wSs Φ hd mb ρ H Q E)) :
  SS c vars (exec (.While t body [] pos) c.env) (λρ H Q E=>wS Φ hd (.while mt mb) ρ H Q E):=by
 intro ρ H own s Q E hs ns w;clear c vars Φ hd t mt body mb pos ρ H own s Q E _ T Tb hs ns w;show oE w λn w=>?_
 show wpAny_While (codeAny_whileLoop (λn st=>∃ cc H' own',HS c H' own' st/\NS c.L c.h₀ vars c.env cc own' st.heap/\dM c.top c.fz c.env own own' s.heap st.heap/\
  kX (λρ H Q=>wE Φ hd mt ρ H Q no) (λρ H Q=>wSs Φ hd mb ρ H Q (λ_=>no)) n cc H' Q) (λn st hI=>?_) n ⟨ρ,H,own,hs,ns,.refl,w⟩)
 (show cS hI λcc H' own' ip rD um w'=>?_;clear hI);cases n with
 |zero=>show w'.elim
 |succ n=>
  have w':wE Φ hd mt cc H' (vB λr H=>if r then wSs Φ hd mb cc H (λf ρ H=>Flo.rec (motive:=λ_=>Prop) (kX (λρ H Q=>wE Φ hd mt ρ H Q no) (λρ H Q=>wSs Φ hd mb ρ H Q (λ_=>no)) n ρ H Q) (λv=>Q (.ret v) ρ H) f) (λ_=>no) else Q .next cc H) no:=by rw[<-o7];show w'
  have X:=(T cc) H' own' st _ _ (.inl rfl) ip rD w';show aJ X (λb s1 p=>?_) λ_ _ p=>bj p λ_ _ y=>y.elim;(show dR p λH1 o1 cH ed w1=>?_;clear p);have dr:=rD.step ed;have S1:=um.trans (.of rD ed);induction b with
  |true=>
   rw[if_pos rfl];show aJ (Tb cc H1 o1 s1 _ _ cH dr w1) (λf s2 p=>?_) λ_ _ p=>jQ p λ_ _ _ y=>y.elim;(show fw p λfl mr H2 o2 hf fc iM lO w2=>?_;clear p);cases hf with
   |next=>show ⟨n,dj n,mr,H2,o2,fc,iM,S1.trans lO,w2⟩
   |ret hv=>show ⟨.ret _,mr,H2,o2,.ret hv,fc,iM,S1.trans lO,w2⟩
  |false=>
   rw[if_neg ei];show ir ⟨.next,cc,H1,o1,.next,cH,dr,S1,w1⟩
theorem HK{B:Sto->MH->SQ->Prop}{xs:List Nat}{ok:MH->Prop}{its:List (List Val)}{ρ:Sto}{H:MH}{Q:SQ}(w:we B xs ok its ρ H Q):ok H:=by
 cases its with
 |nil=>show w.1
 |cons=>show w.1
theorem Lz{n:Nat}(G:cN c n)(dA:vars.Nodup)(hh:gb c hd){k:ItK}{e1 e2:ME}{target iter:Expr}{body:List Stmt}{mb:MSs}{pos:Pos}{xs:List Nat}
  (ha:xs.length=ar k) (gK:oq iter=true) (Gq:mG vars c.env xs target) (TI:∀ ρ,SI c vars c.env ρ hd Φ k e1 e2 iter) (Tb:SS (c.frz (isD k)) vars (execs body c.env) (λρ H Q E=>wSs Φ hd mb ρ H Q E)) :
  SS c vars (exec (.For target iter body [] pos) c.env) (λρ H Q E=>wS Φ hd (.for xs k e1 e2 mb) ρ H Q E):=by
 intro ρ H own s Q E hs ns w;clear c vars Φ hd n k e1 e2 target iter body mb pos xs ρ H own s Q E _ G dA hh ha gK Gq TI Tb hs ns w;show ye (ρ:=ρ) (wpAny_For ?_ (ot gK));show aJ ((TI ρ) H own s (λits as H=>we (λρ H Q=>wSs Φ hd mb ρ H Q (λ_=>no)) xs (iD as H) its ρ H Q) (E ρ) (.inl rfl) hs ns w) (λxv s1 h1=>aJ h1 (λitv s2 h2=>?_) λ_ _ x=>x) λ_ _ x=>x;obtain ⟨x,y,its,as,it,fp,H0,tY,rfl,bT,I0,Iw,Py,Ey,vg,ZL,w0⟩:=h2.it;have W6:∀ own',(∀ b∈fp,b∉own')->Fh c c.env own' fp:=λown' av b m=>⟨av b m,(vg b m).2.2.1,(vg b m).2.2.2.1,(vg b m).2.2.2.2.1⟩
 show codeAny_forLoop_any (λn st=>∃ i cc H' own',n+i=its.length/\HS c H' own' st/\NS c.L c.h₀ vars c.env cc own' st.heap/\ITs c.P k x y its it fp i st.heap/\dM c.top c.fz c.env own own' s.heap st.heap/\(∀ b∈fp,b∉own')/\
  we (λρ H Q=>wSs Φ hd mb ρ H Q (λ_=>no)) xs (iD as H0) (its.drop i) cc H' Q) (λn st hI=>?_) its.length ⟨0,ρ,H0,tY,rfl,Iw,Py,I0,.of ns Ey,λb m=>(vg b m).2.1,w0⟩
 obtain ⟨i,cc,H',own',Gh,ip,rD,I',um,Br,w'⟩:=hI;have hu:=HK w';cases hv:its[i]? with
 |none=>
  have JV:its.drop i=[]:=ui (eZ.mp hv);rw[JV] at w';show wb hh I' (W6 own' Br) ip rD (λm=>(vg _ m).2.2.2.2.1 rfl) bT hu hv λs5 Ky Pz kp=>?_;show ir ⟨.next,cc,H',own',.next,Ky,Pz,⟨λa o e nn p=>kp a o (λz=>by rw[(vg a z).1] at e;show cz e) (um.pres a o e nn p),λb p e=>?_,um.fresh,um.sub⟩,w'.2⟩;obtain ⟨o,ho⟩:=aZ.mp (um.live b p e);rw[kp b o (λz=>(vg b z).2.2.2.1 p) ho];rfl
 |some vs=>
  have iL:i<its.length:=(ao.mp hv).1;have JV:its.drop i=vs::its.drop (i+1):=by
   rw[aW iL];rw[aU iL] at hv;cases hv;rfl
  rw[JV] at w';(show oA w' λ_ wc=>?_;clear w');show aJ (sW (Q:=?QQ) hh G.env dA I' (W6 own' Br) ip rD bT hu hv Gq ha ?body) (λr s1 h=>?conv) λ_ _ x=>x;case conv=>
   obtain ⟨v,rfl,h⟩:=h;show h
  case body=>
  intro s3 xB xS I3 b3;have S3:dM c.top c.fz c.env own own' s.heap s3.heap:=um.butF b3 λa z=>z.elim (λz=>.inl (vg a z).1) λz=>.inr z.places;show aJ (Tb (bindL cc xs vs) H' own' s3 _ _ (xB.frz _) xS wc) (λf s4 p=>?_) λ_ _ p=>jQ p λ_ _ _ y=>y.elim;(show fw p λfl XP H4 o4 hf xC GN Bb w4=>?_;clear p);have Bb:dM c.top (c.fz||isD k) c.env own' o4 s3.heap s4.heap:=Bb;have N5:∀ b∈fp,b∉o4:=λb m q=>by
   rcases Bb.fresh b q with q|q
   .show Br b m q
   .have:=vy I3 b m;rw[q] at this;show ft this
  have I4:ITs c.P k x y its it fp (i+1) s4.heap:=iS I3 (λb m o e=>Bb.pres b o e (.inl (Br b m)) (vg b m).2.2.2.1) λhD d hx o e=>
   Bb.pres d o e (.inr (by rw[hD,nD])) λp=>(xS.places p).1 (ip.dAt bT hu hD hx)
  have S4:dM c.top c.fz c.env own o4 s.heap s4.heap:=S3.trans ⟨λb o e n p=>Bb.pres b o e (n.imp id λz=>by rw[z];rfl) p,Bb.live,Bb.fresh,Bb.sub⟩;cases hf with
  |next=>show ⟨n-1,li 0x1010001010110ffb76edd2043ecd4070210faf5200fa1081d2141ea0b8018140 rfl Gh iL (ef n 1),i+1,XP,H4,o4,li 0x10100111001010101001001010ffb76edd417060420c3ecd4070210faf5200fa1081d2141ea0b8018140 rfl Gh iL (ef n 1),xC.unfrz,GN,I4,S4,N5,w4⟩
  |ret hv=>show ⟨.ret _,XP,H4,o4,.ret hv,xC.unfrz,GN,S4,w4⟩
end
deriving instance Nonempty for Model
section
variable {M:Model} {A:Around} {E:Value->Shared->Prop} {s:Shared} {base:Heap} {env:Env} {outer l:List Env} {L e C:Addr} {fl:Value} {Q:Unit->Shared->Prop}
structure Air (base:Heap) (l:List Env) (C e:Addr) (fl:Value) (h:Heap):Prop where
 stay:base.StaysIn h
 new:base.get? e=none
 ff:h.FunFrames base l
 tx:TX C base e h fl
theorem uV{oe:Obj}{vs:Array Value}{head:Value}{yE:Bool}
  (wH:A.frames=some (env::outer)) (hl:s.heap.FunFrames base (env::outer)) (hf:env.frame=some L)
  (he:s.heap.get? e=some oe) (hc:oe.cls=.ref C) (WG:base.StaysIn s.heap) (Tj:base.get? e=none) (hd:oe.data=.fields vs) (qo:1<vs.size) (h2:vs[2]?=some .none)
  (h:∀ h',Air base (env::outer) C e (rawInt L) h'->s.heap.UpToSlots h'->Q () { s with heap:=h' }) :
  wpAny M A (do let a <-frameOf env;let pl <-entryPlaceOf L yE;let b <-rh head a .none (rawInt L) .none pl;setField (.ref e) 1 b) Q E s:=by
 clear M A E s base env outer L e C Q oe vs head yE _ wH hl hf he hc WG Tj hd qo h2 h;have noF:e∉(env::outer).filterMap (·.frame):=λhm=>by
  show fm (hl.mem hm) λ_ o ho U9=>?_;rw[he] at ho;cases ho;show U9 vs hd
 show ah (wpAny_frameOf_fun wH hl hf λg hg=>ah (wpAny_entryPlaceOf λpl QO=>?_));unfold rh newFields;show ah (jJ ?_ (QO.sizeOk5 _ _ _ _ _));have e1:g.get? e=some oe:=(hg.2.1 e noF).trans he;have k1:base.StaysIn g:=λb o q=>(hg.2.1 b λhm=>by rw[(hl.mem hm).1] at q;show cz q).trans (WG b o q);have e2:=aC (h:=g) { cls:=.type "traceback",dict:=none,data:=.fields ([head,.ref L,.none,rawInt L,.none]++(if pl.isEmpty then bf 6 eP else pl)).toArray } e1;show j3 e2 hd qo (h _ ?_ ?_);all_goals
  have ne:g.objs.size≠e:=fT (bE e1)
  have keep:∀ b o,b≠e->g.get? b=some o->
    ((g.push { cls:=.type "traceback",dict:=none,data:=.fields ([head,.ref L,.none,rawInt L,.none]++(if pl.isEmpty then bf 6 eP else pl)).toArray }).update e (gG (·.setIfInBounds 1 (cm g.objs.size)))).get? b=some o:=λb o n q=>by
   rw[cp _ _ (fW n)];show aC _ q
  have Px:∀ b o,s.heap.get? b=some o->(∀ vs,o.data≠.fields vs)->b≠e:=λb o hb hn q=>by
   rw[q,he] at hb;cases hb;show hn vs hd
 .have d3:=ik hd (·.setIfInBounds 1 (cm g.objs.size));have e3:=eF (gG (·.setIfInBounds 1 (cm g.objs.size))) e2 (k7 d3);show ⟨λb o q=>keep b o (λz=>by rw[z,Tj] at q;show cz q) (k1 b o q),Tj,hl.of_keeps λb o hb hn=>?_,?_⟩
  .show oE (hg.2.2 b o hb) λsl q=>?_;show ⟨_,keep b _ (Px b o hb hn) q,rfl⟩
  .show ⟨_,_,e3,(Bn _ _).trans hc,d3,by rw[Array.getElem?_setIfInBounds_ne (by decide)];show h2,.inr ⟨g.objs.size,_,_,by simp[qo],Heap.StaysIn.fresh k1,ne,
    (cp _ _ (fW ne)).trans (aS g rfl),rfl,by first|(simp;done)|(rcases QO with rfl|⟨_,_,_,_,_,_,_,rfl⟩<;>simp)⟩⟩
 .show λb o hb hn=>by
   show oE (hg.2.2 b o hb) λsl q=>?_;show ⟨sl,keep b _ (Px b o hb hn) q⟩
theorem yZ(wH:A.frames=some (env::outer))(hf:env.frame=some L)(a:Air base (env::outer) C e .none s.heap)
  (h:∀ h',Air base (env::outer) C e (rawInt L) h'->s.heap.UpToSlots h'->Q () { s with heap:=h' }):wpAny M A (noteFrame (.ref e) env) Q E s:=by
 clear M A E s base env outer L e C Q _ wH hf a h;obtain ⟨k1,k2,k3,oe,vs,he,hc,hd,h2,h1⟩:=a;unfold noteFrame;simp only[hf];rcases h1 with h1|⟨T,oT,ts,h1,nT,Te,hT,dT,h3⟩
 .show ah (fZ he hd h1 ?_);rw[if_neg (by decide)];show uV wH k3 hf he hc k1 k2 hd (eN.mp h1).1 h2 h
 .show ah (fZ he hd h1 ?_);rw[if_pos (show (cm T !=eP)=true from by simp)];show ah (fZ hT dT h3 ?_);rw[if_neg (show ¬ ((eP==rawInt L)=true) from by simp[rawInt])];show ah (j3 hT dT (eN.mp h3).1 ?_);have other:∀ b,b≠T->(s.heap.update T (gG (·.setIfInBounds 3 eP))).get? b=s.heap.get? b:=λb n=>cp _ _ (fW n);have DD:∀ b o,s.heap.get? b=some o->(∀ vs,o.data≠.fields vs)->b≠T:=λb o hb hn q=>by
   rw[q,hT] at hb;cases hb;show hn ts dT
  show uV wH (k3.of_keeps λb o hb hn=>⟨o,(other b (DD b o hb hn)).trans hb,rfl⟩) hf ((other e (fW Te)).trans he) hc
   (λb o q=>(other b λz=>by rw[z,nT] at q;show cz q).trans (k1 b o q)) k2 hd (eN.mp h1).1 h2 λh' a' u=>h h' a' λb o hb hn=>u b o ((other b (DD b o hb hn)).trans hb) hn
theorem xg(a:Air base l C e fl s.heap)(h:∀ h',Air base l C e .none h'->s.heap.UpToSlots h'->Q () { s with heap:=h' }):wpAny M A (setFlight (.ref e) none) Q E s:=by
 clear M A E s base l e C fl Q _ a h;obtain ⟨k1,k2,k3,oe,vs,he,hc,hd,h2,h1⟩:=a;unfold setFlight;rcases h1 with h1|⟨T,oT,ts,h1,nT,Te,hT,dT,h3⟩
 .show ah (fZ he hd h1 ?_);rw[if_neg (by decide)];show aK (h s.heap ⟨k1,k2,k3,oe,vs,he,hc,hd,h2,.inl h1⟩ (.refl _))
 .show ah (fZ he hd h1 ?_);rw[if_pos (show (cm T !=eP)=true from by simp)];have sz:3<ts.size:=(eN.mp h3).1;have other:∀ b,b≠T->(s.heap.update T (gG (·.setIfInBounds 3 ((none:Option Addr).elim eP λf=>rawInt f)))).get? b=s.heap.get? b:=λb n=>cp _ _ (fW n);have DD:∀ b o,s.heap.get? b=some o->(∀ vs,o.data≠.fields vs)->b≠T:=λb o hb hn q=>by
   rw[q,hT] at hb;cases hb;show hn ts dT
  show j3 hT dT sz (h _ ⟨λb o q=>(other b λz=>by rw[z,nT] at q;show cz q).trans (k1 b o q),k2,k3.of_keeps λb o hb hn=>⟨o,(other b (DD b o hb hn)).trans hb,rfl⟩,
   oe,vs,(other e (fW Te)).trans he,hc,hd,h2,.inr ⟨T,_,_,h1,nT,Te,eF _ hT (k7 (ik dT _)),ik dT _,by simp[sz]⟩⟩
   λb o hb hn=>⟨o.slots,(other b (DD b o hb hn)).trans hb⟩)
theorem Dh(wH:A.frames=some (env::outer))(hf:env.frame=some L)(a:Air base (env::outer) C e .none s.heap)
  (h:∀ h',Air base outer C e .none h'->s.heap.UpToSlots h'->Q () { s with heap:=h' }):wpAny M A (leaving env (.ref e)) Q E s:=by
 unfold leaving;show ah (yZ wH hf a λh1 a1 u1=>xg a1 λh2 a2 u2=>?_);obtain ⟨x1,x2,⟨_,_,x3⟩,x4⟩:=a2;show h h2 ⟨x1,x2,x3,x4⟩ (u1.trans u2)
theorem DK.of_slots{h h':Heap}(u:h.UpToSlots h'):DK h h':=λb o es ep ho hd=>by
 show oE (u b o ho λvs z=>by rw[hd] at z;cases z) λsl q=>?_;show ⟨_,q,hd⟩
theorem DK.trans{h1 h2 h3:Heap}(x:DK h1 h2)(y:DK h2 h3):DK h1 h3:=λb o es ep ho hd=>by
 show bj (x b o es ep ho hd) λo1 g1 d1=>?_;show y b o1 es ep g1 d1
theorem DK.of_stays{h h':Heap}(k:h.StaysIn h'):DK h h':=λb o es ep ho hd=>⟨o,k b o ho,hd⟩
theorem DK.ns{h h':Heap}(x:DK h h'){a:Addr}{m:Str->Option Value}(n:h.Ns a m):h'.Ns a m:=by
 (show kK n λo es ep g d r=>?_;clear n);show bj (x a o es ep g d) λo' g' d'=>?_;show ⟨o',es,ep,g',d',r⟩
end
theorem jL{α:Type}{names:List Str}:∀ {args:List α},args.length=names.length->∀ n∈names,((names.zip args).lookup n).isSome=true:=by
 induction names with
 |nil=>intro _ _ n m;show iF m
 |cons x r ih=>intro args h n m;cases args with
  |nil=>cases h
  |cons a as=>
  rw[cD,bB];cases q:n==x with
  |true=>rfl
  |false=>
   rcases ag.mp m with rfl|m
   .simp at q
   .show ih (eM h) n m
theorem YQ{α β:Type}{f g:α->Option β}:∀ {l:List α},(∀ x∈l,f x=g x)->l.filterMap f=l.filterMap g:=by
 intro l;induction l with
 |nil=>
  intro _;show rfl
 |cons x r ih=>
  intro h;rw[dJ,dJ,h x (.head _),ih λy m=>h y (.tail _ m)]
theorem rM{α:Type}{names:List Str}:∀ {args:List α},args.length=names.length->names.Nodup->names.filterMap (λn=>((names.zip args).lookup n).map (n,·))=names.zip args:=by
 induction names with
 |nil=>intro _ _ _;rfl
 |cons x r ih=>intro args h hn;cases args with
  |nil=>cases h
  |cons a as=>
  show oA (aQ.mp hn) λh1 h2=>?_;rw[cD,dJ,bB,beq_self_eq_true];dsimp only[Option.map];congr 1;show Eq.trans (YQ λn m=>?_) (ih (eM h) h2);rw[bB];have:(n==x)=false:=beq_eq_false_iff_ne.mpr λz=>h1 (z▸m);rw[this];dsimp only;cases (r.zip as).lookup n<;>rfl
theorem Af{α β:Type}{l:List α}{c:β}{f:α->β->Sem (ForInStep β)}(h:∀ x∈l,f x c=pure (.yield c)):forIn l c f=pure c:=by
 induction l with
 |nil=>rfl
 |cons x l ih=>
  rw[pn,h x (.head _),pure_bind];show ih λy m=>h y (.tail _ m)
theorem UX{M:Model}{A:Around}{α:Type}{c:Prop}[Decidable c]{a b:Sem α}{Q:α->Shared->Prop}{E:Value->Shared->Prop}{s:Shared}(h:¬ c)(w:wpAny M A b Q E s):wpAny M A (if c then a else b) Q E s:=by rw[if_neg h];show w
theorem kg{s:Shared}{fd:FuncData}{args:List Value}{names:List Str}(h1:fd.params.posonlyargs=[])(h2:fd.params.args.map (·.arg)=names)(h3:fd.params.vararg=none)(h4:fd.params.kwonlyargs=[])(h5:fd.params.kwarg=none)
  (hl:args.length=names.length) (hn:names.Nodup) (hd:∀ M A E Q,(∀ r,Q r s)->wpAny M A (seqItems? fd.defaults) Q E s):BindsTo s fd ⟨args,[]⟩ (names.zip args):=by
 cases fd with|mk nm qn p bd sc gl clo df kdf doc pm an cd ct bt=>
 cases p with|mk po as va ko kd kw df0=>
 replace h2:as.map (·.arg)=names:=h2;cases h1;cases h3;cases h4;cases h5;have hm:∀ k,(((as.map (·.arg)).take k).filter λn=>(((as.map (·.arg)).zip args).lookup n).isNone)=[]:=λk=>by
  clear hd;rw[h2,jv];intro n m;have:=jL hl n (cj m);simp[pS,Option.isSome_iff_ne_none.mp this]
 have hk:∀ x∈as.map (·.arg),¬ ((((as.map (·.arg)).zip args).lookup x).isNone=true):=λx m z=>by
  clear hd hm;rw[h2] at m z;rw[pS] at z;have:=jL hl x m;rw[z] at this;show ft this
 intro M A E Q hQ;show ah (aK (ah (hd _ _ _ _ λr=>UX (λh=>mA _ (hl▸h2▸of_decide_eq_true (gE.mp h).1)) (UX ?_ (ah ?_)))))
 .intro h;change (!(((as.map (·.arg)).take _).filter λn=>(((as.map (·.arg)).zip args).lookup n).isNone).isEmpty)=true at h;rw[hm] at h;show ft h
 .rw[Af λx m=>if_neg (hk _ (l4 (ey m).1))];show aK (ah (aK (UX ei (aK ?_))));rw[<-rM hl hn] at hQ;subst h2;change Q (List.filterMap (λn=>(((as.map (·.arg)).zip args).lookup n).map (n,·)) (as.map (·.arg)++[])) s;rw[bK];show hQ
theorem lT(names:List (Str×NameKind)):∀ (n:Nat) (acc:List (Str×Addr)) (x:Str),((acc.lookup x).isSome=true\/names.lookup x=some .cell)->((cellsFrom n names acc).lookup x).isSome=true:=by
 induction names with
 |nil=>
  intro n acc x h;rcases h with h|h
  .show h
  .show cz h
 |cons p r ih=>
  obtain ⟨y,k⟩:=p;intro n acc x h;unfold cellsFrom;split
  .rename_i hk;show ih _ _ x ?_;rw[bB];cases q:x==y with
   |true=>show .inl rfl
   |false=>
    dsimp only;rw[bB,q] at h;show h
  .rename_i hk;show ih _ _ x ?_;rw[bB] at h;cases q:x==y with
   |true=>
    rw[q] at h;rcases h with h|h
    .show .inl h
    .cases h;show absurd rfl hk
   |false=>
    rw[q] at h;show h
theorem zh{kd:Str->Option NameKind}:∀ (b:List (Str×Value)) (m:Str->Option Value) (x:Str),(∀ p∈b,p.1≠x)->k8 kd b m x=m x:=by
 intro b;induction b with
 |nil=>
  intro _ _ _;show rfl
 |cons px r ih=>
  obtain ⟨n,v⟩:=px;intro m x h;unfold k8;rw[ih _ x λp hp=>h p (.tail _ hp)];split
  .show if_neg λz=>h (n,v) (.head _) z.symm
  .rfl
theorem zg{kd:Str->Option NameKind}:∀ (b:List (Str×Value)) (m:Str->Option Value) (x:Str),(∀ p∈b,p.1≠x)->oK kd b m x=m x:=by
 intro b;induction b with
 |nil=>
  intro _ _ _;show rfl
 |cons px r ih=>
  obtain ⟨n,v⟩:=px;intro m x h;unfold oK;rw[ih _ x λp hp=>h p (.tail _ hp)];split
  .rfl
  .show if_neg λz=>h (n,v) (.head _) z.symm
theorem j5{α:Type}{names:List Str}{args:List α}{p:Str×α}(h:p∈names.zip args):p.1∈names:=(ey h).1
theorem DV{kd:Str->Option NameKind}{names:List Str}:∀ {args:List Value} (m mc:Str->Option Value),args.length=names.length->names.Nodup->∀ (i:Nat) (x:Str),names[i]?=some x->
  (kd x=some .local->k8 kd (names.zip args) m x=args[i]?)/\(kd x≠some .local->oK kd (names.zip args) mc x=args[i]?):=by
 induction names with
 |nil=>intro _ _ _ _ _ i x h;show cz h
 |cons n r ih=>intro args m mc h hn i x hx;cases args with
  |nil=>cases h
  |cons a as=>
  show oA (aQ.mp hn) λh1 h2=>?_;rw[cD];unfold k8 oK;cases i with
  |zero=>
   have hx:n=x:=by simpa using hx
   subst hx;have off:∀ p∈r.zip as,p.1≠n:=λp hp z=>h1 (z▸j5 hp);show ⟨λhk=>?_,λhk=>?_⟩
   .rw[zh _ _ _ off,if_pos hk];simp
   .rw[zg _ _ _ off,if_neg hk];simp
  |succ i=>
   have hx:r[i]?=some x:=by simpa using hx
   have:=ih (args:=as) (if kd n=some .local then λy=>if y=n then some a else m y else m) (if kd n=some .local then mc else λy=>if y=n then some a else mc y) (eM h) h2 i x hx;simpa using this
structure BB (P:Pg) (f np:Nat) (qual:Str) (scope:Scope) (body:List Stmt) (cdv:Value):Prop where
 look:∃ name params dV kV doc pm an ct oc od osl,P.K.lookup (P.fa f)=some ⟨oc,od,.func (fnOf name qual params body scope dV kV doc pm an cdv ct),osl⟩/\
  params.posonlyargs=[]/\params.args.map (·.arg)=(P.vn f).take np/\params.vararg=none/\params.kwonlyargs=[]/\params.kwarg=none/\
  (dV=.none\/∃ T o items n,dV=.ref T/\P.K.lookup T=some o/\o.data=.seq items n)
 cd:codeIn P.K cdv qual=true
 nd:(P.vn f).Nodup
 le:np<=(P.vn f).length
 kinds:∀ x∈(P.vn f).take np,scope.names.lookup x=some .local\/scope.names.lookup x=some .cell
 cells:((cellsFrom 0 scope.names []).map (·.1)).Nodup
 co:scope.isCoroutine=false
 gen:scope.isGenerator=false
 kd:scope.kind=.function
section
variable {c:Cx} {own:List Addr} {s:Shared} {H:MH}
theorem HS.low0(hs:HS c H own s):c.h₀.StaysIn (hideAll s.heap own):=λb o e=>d7 _ (hs.stay b o e) λm=>by
 rw[(hs.apart b m).1] at e;show cz e
theorem Ca{h₀ root:Heap}{l:List Env}(ff:h₀.FunFrames root l)(ap:∀ b∈own,h₀.get? b=none):∀ env∈l,∀ a∈own,env.frame≠some a:=λenv he a ha hf=>by
 have:=ff.mem (yq.mpr ⟨env,he,hf⟩);(show fm this λ_ o ho _=>?_;clear this);rw[ap a ha] at ho;show cz ho
theorem Np{n:Nat}(G:cN c n)(hs:HS c H own s):(hideAll s.heap own).FunFrames c.root (c.env::c.outer):=by
 show bj hs.lives λo ho hn=>?_;show ⟨by rw[G.env.kind];decide,⟨c.L,o,G.env.frame,?_,d7 _ ho λm=>(hs.apart _ m).2 rfl,hn⟩,?_⟩
 .cases q:c.root.get? c.L with
  |none=>rfl
  |some o'=>have:=G.rootIn _ _ q;rw[G.new] at this;show cz this
 .show G.ff.of_keeps λb o e _=>⟨o,hs.low0 b o e,rfl⟩
noncomputable def RR(c:Cx)(vars:List Str)(own:List Addr)(h:Heap)(Q:PQ)(ρ:Sto)(E:MH->Prop):Result->Shared->Prop:=λr s'=>match r with
 |.ok (.ret v)=>ba c own h Q v s'
 |.ok _=>False
 |.error e=>du c vars ρ E e s'
theorem rX{n f np:Nat}{qual:Str}{scope:Scope}{body:List Stmt}{cdv:Value}{hd:Bool}{W:Rv}(fz:c.fz=false)(G:cN c n)(tm:c.A.depth+1+3*n<=900)(OO:c.A.units+3+20*n<=9000)(hh:gb c hd)
  (FO:BB c.P f np qual scope body cdv)
  (hb:∀ c':Cx,c'.P=c.P->c'.env.scope=scope->c'.fz=false->cN c' n->gb c' hd->SS c' (c.P.vn f) (execs body c'.env) W)
  {vars:List Str} {env:Env} {ρ:Sto} {vs:List Val} {cvs:List Value} {Q:PQ} {E:MH->Prop} (hE:env=c.env\/E=λ_=>False) (hs:HS c H own s) (ns:NS c.L c.h₀ vars env ρ own s.heap) (hv:Vs cvs vs) (hl:vs.length=np)
  (w:W (λi=>vs[i]?) H (λr _ H=>Flo.rec (motive:=λ_=>Prop) (Q .none H) (λv=>Q v H) r) (λ_ H=>E H)) :
  codeAny c.M c.A (.call (.ref (c.P.fa f)) ⟨cvs,[]⟩) (RR c vars own s.heap Q ρ E) s:=by
 clear c own s H n f np qual scope body cdv hd W vars env ρ vs cvs Q E _ fz G tm OO hh FO hb hE hs ns hv hl w;obtain ⟨⟨name,params,dV,kV,doc,pm,an,ct,oc,od,osl,look,q1,q2,q3,q4,q5,q6⟩,JQ,nd,Uc,kinds,cells,co,gen,kd⟩:=FO;have X:=G.X.keeps hs.stay;have It:((c.P.vn f).take np).length=np:=by rw[cq];show pR Uc
 have mU:cvs.length=((c.P.vn f).take np).length:=by rw[hv.length,hl,It]
 have dA:((c.P.vn f).take np).Nodup:=nd.sublist (nH _ _);have sq:BindsTo s (fnOf name qual params body scope dV kV doc pm an cdv ct) ⟨cvs,[]⟩ (((c.P.vn f).take np).zip cvs):=by
  show kg q1 q2 q3 q4 q5 mU dA λM A E Q k=>?_;clear look;rcases q6 with rfl|⟨T,o,items,m,rfl,hT,hd⟩
  .show aK (k none)
  .show wm (X _ _ hT) hd (k _)
 show codeAny_call_function (by change c.A.depth<1000;show li 0x47fedd2880e859830834b8108120 rfl tm) (X _ _ look) rfl co gen rfl (codeRec_of X JQ) (sq _ _ _ _ ?_);show wpAny_newFunctionEnv_cells kd (λx hx=>?_) λlI he cU x=>?_
 .have hx:=j5 hx;rcases kinds x.1 hx with k|k
  .show .inl k
  .show .inr ⟨k,lT _ _ _ _ (.inr k)⟩
 subst he;show ⟨(G.nolimit.keeps hs.stay).keeps x.toInCall.keep,codeAny_func ?_⟩;have Cu:=x.toInCall.keep;show jQ x.done λvr tk Ni _=>?_;generalize lJ:newEnv (fnOf name qual params body scope dV kV doc pm an cdv ct).scope s.heap.objs.size (fnOf name qual params body scope dV kV doc pm an cdv ct).globals (cellsFrom (s.heap.objs.size+1) (fnOf name qual params body scope dV kV doc pm an cdv ct).scope.names []) ((fnOf name qual params body scope dV kV doc pm an cdv ct).qualname++".<locals>.") (some (c.P.fa f)) (fnOf name qual params body scope dV kV doc pm an cdv ct).code none (fnOf name qual params body scope dV kV doc pm an cdv ct).builtins=lI at x ⊢;have s1:lI.scope=scope:=by rw[<-lJ];rfl
 have s2:lI.locals=s.heap.objs.size:=by rw[<-lJ];rfl
 have s3:lI.frame=some s.heap.objs.size:=by rw[<-lJ];rfl
 have s4:lI.globals=mainGlobals:=by rw[<-lJ];rfl
 have s5:lI.builtins=builtinsNs:=by rw[<-lJ];rfl
 have s6:lI.cells=cellsFrom (s.heap.objs.size+1) scope.names []:=by rw[<-lJ];rfl
 have i9:c.h₀.StaysIn (hideAll s.heap own):=hs.low0;have tu:s.heap.get? s.heap.objs.size=none:=dG (aT _);have yF:(hideAll s.heap own).get? s.heap.objs.size=none:=dG (by rw[hideAll_size];show aT _);let c':Cx:={ P:=c.P,A:=c.A.deeper lI,env:=lI,outer:=c.env::c.outer,h₀:=hideAll s.heap own,L:=s.heap.objs.size,root:=c.root,os:=c.os,fz:=false,top:=false }
 have G':cN c' n:=by
  show ⟨G.X.keeps i9,Ns.at G.g λo e=>i9 _ o e,Ns.at G.b λo e=>i9 _ o e,G.nolimit.keeps i9,G.builtins,⟨?_,s4,s5,s3⟩,s2,yF,λb o e=>i9 b o (G.rootIn b o e),Np G hs,jS G.frames,?_,?_⟩
  .change lI.scope.kind=_;rw[s1];show kd
  .change (c.A.deeper lI).depth+3*n<=900;rw[depth_deeper];show tm
  .change (c.A.deeper lI).units+20*n<=9000;rw[units_deeper];show OO
 have NW:gb c' hd:=by
  clear hb;induction hd with
  |false=>show hh
  |true=>
   (show kK hh λy ob us h1 h2 h3=>?_;clear hh);show ⟨y,ob,us,h1,i9 _ _ h2,h3⟩
 have alive:∀ b∈own,(s.heap.get? b).isSome=true:=λb m=>(hs.rep.here b m).1;have IU:cU.heap.Ns s.heap.objs.size (k8 lI.kindOf (((c.P.vn f).take np).zip cvs) λ_=>none):=s2▸x.toInCall.ns;have OL:HS c' H own cU:=by
  show ⟨hs.rep.ext Cu,λb o e=>Cu b o (vF _ e),G'.rootIn,?_,FL.of_ns IU,λb m=>⟨lK _ m,?_⟩,by rw[Ni];show hs.gens,by rw[Ni];show hs.os⟩
  .show oE hs.low λo e=>?_;show ⟨o,i9 _ _ e⟩
  .rintro rfl;have:=alive _ m;rw[show ({ c' with }:Cx).L=s.heap.objs.size from rfl,tu] at this;show ft this
 have Rt:NS c'.L c'.h₀ (c.P.vn f) lI (λi=>vs[i]?) own cU.heap:=by
  have HJ:∀ (i:Nat) y,(c.P.vn f)[i]?=some y->(i<np->((c.P.vn f).take np)[i]?=some y)/\(np<=i->y∉(c.P.vn f).take np):=λi y e=>by
   show ⟨λh=>by rw[rR h];show e,λh m=>?_⟩;show oE (kZ m) λj hj=>?_;have jj:j<np:=by
    have:=(ao.mp hj).1;rw[It] at this;show this
   rw[rR jj] at hj;have:=(nF (ao.mp e).1 nd).mp (e.trans hj.symm);show li 0x447feddbb506a0a0f4810ba018130 rfl h jj this
  have DW:∀ (i:Nat),rel cvs[i]? vs[i]?:=λi=>by
   unfold rel;have:=congrArg (λl=>l[i]?) hv;simpa using this
  show ⟨⟨_,s2.symm▸IU,λi y e k=>?_⟩,λi y e k=>?_,λm=>?_,λy a e=>?_,λy z a e1 e2=>?_,by rw[s2];show yF⟩
  .by_cases hi:i<np
   .rw[(DV _ (λ_=>none) mU dA i y ((HJ i y e).1 hi)).1 k];show DW i
   .rw[zh _ _ _ λp hp z=>(HJ i y e).2 (zW.mp hi) ((show p.1=y from z)▸j5 hp)];have:vs[i]?=none:=eZ.mpr (li 0x4407feddba0281dda418541a818130 rfl hl hi);rw[this];rfl
  .show oE (aZ.mp (lT scope.names (s.heap.objs.size+1) [] y (.inr (by rw[<-s1];show k)))) λa ha=>?_;rw[<-s6] at ha;show ⟨a,_,ha,x.cell y a ha,?_⟩;by_cases hi:i<np
   .rw[(DV (λ_=>none) _ mU dA i y ((HJ i y e).1 hi)).2 (by rw[k];decide)];show DW i
   .rw[zg _ _ _ λp hp z=>(HJ i y e).2 (zW.mp hi) ((show p.1=y from z)▸j5 hp)];have:vs[i]?=none:=eZ.mpr (li 0x4407feddba0281dda418541a818130 rfl hl hi);rw[this];rfl
  .rw[s2] at m;have:=alive _ m;rw[tu] at this;show ft this
  .have ab:=x.above y a (dE e);rw[s2] at ab;show bj (x.cell y a e) λo ho _=>?_;show ⟨λm=>?_,by rw[s2];show fT ab,fT ab,dG (by rw[hideAll_size];show uE ab),by rw[ho];rfl⟩;have:=alive a m;rw[dG (uE ab)] at this;show ft this
  .show name_of_addr x.apart (dE e1) (dE e2)
 have T:=hb c' rfl s1 rfl G' NW (λi=>vs[i]?) H own cU _ _ OL Rt w;have BI:∀ {H':MH} {own':List Addr} {s':Shared},HS c' H' own' s'->HS c H' own' s':=λ{H' own' s'} z=>by
  show ⟨z.rep,λb o e=>z.stay b o (i9 b o e),hs.rootIn,hs.low,?_,λb m=>⟨?_,?_⟩,z.gens,z.os⟩
  .show bj hs.lives λo e fo=>?_;show ⟨o,z.stay _ _ (d7 _ e λm=>(hs.apart _ m).2 rfl),fo⟩
  .cases q:c.h₀.get? b with
   |none=>rfl
   |some o=>have:=i9 b o q;rw[(z.apart b m).1] at this;show cz this
  .rintro rfl;show bj hs.lives λo e fo=>?_;have:=d7 own e λm=>(hs.apart _ m).2 rfl;rw[(z.apart _ m).1] at this;show cz this
 show aJ T (λfl s' p=>?_) λe s' p=>?_
 ·(show fw p λfo cc H' own' hf ip rD um wq=>?_;clear p);have S:Step c.fz own own' s.heap s'.heap:=by
   show ⟨λb o e nn=>?_,λb m=>?_,um.sub rfl⟩
   .have n1:b∉own:=nn.elim id λz=>by rw[fz] at z;show ft z
    show ip.stay b o (d7 _ e n1)
   .rcases um.fresh b m with q|q
    .show .inl q
    .cases q':s.heap.get? b with
     |none=>show .inr rfl
     |some o=>rw[Cu b o q'] at q;show fB q
  cases hf with
  |next=>show ⟨.none,H',own',rfl,BI ip,S,wq⟩
  |ret hv=>show ⟨_,H',own',hv,BI ip,S,wq⟩
 ·(show jQ p λcc H' ex W5=>?_;clear p);clear w T;rcases hE with hE|hE;case inr=>subst hE;show W5.elim
  subst hE;obtain ⟨⟨y,B,own',rfl,r1,r2,r3,r4,r5,r6,r7,r8⟩,_,dk,eg,eo⟩:=ex;show Dh (base:=B) (outer:=c.env::c.outer) (L:=s.heap.objs.size) (C:=c.P.CE) (show (c.A.deeper lI).frames=some (lI::c.env::c.outer) from jS G.frames) s3 ⟨r2,r3,r4,r5⟩ λYV a u=>?_;have VI:DK (hideAll s.heap own) YV:=DK.trans dk (.of_slots u);show ⟨H',⟨⟨y,B,own',rfl,r1,a.stay,a.new,a.ff,a.tx,r6,λb m=>?_,λb o e nf=>?_⟩,?_,λb o es ep ho hd=>VI b o es ep (i9 b o ho) hd,eg,eo⟩,W5⟩
  .cases q:c.h₀.get? b with
   |none=>rfl
   |some o=>
    have:=i9 b o q;rw[show (hideAll s.heap own).get? b=none from r7 b m] at this;show cz this
  .show r8 b o (i9 b o e) λm=>?_;rw[dJ,show c'.env.frame=some s.heap.objs.size from s3] at m;rcases ag.mp m with z|m
   .rw[z] at e;rw[i9 _ _ e] at yF;show fB yF
   .show nf m
  show bj ns.loc λm n1 n2=>?_;rw[G.eloc] at n1;show ⟨m,VI.ns (Ns.at n1 λo e=>d7 _ e λz=>(hs.apart _ z).2 rfl),n2⟩
end
section
variable {c:Cx} {own:List Addr} {s:Shared} {H:MH}
theorem mT(A:Around)(C:Addr)(vals:List Value):(A.under (.builtin "type.__call__" ⟨.ref C::vals,[]⟩)).frames=A.frames:=by
 obtain ⟨a,b,f,g,u⟩:=A;cases f<;>rfl
theorem xt(A:Around)(C:Addr)(vals:List Value):(A.under (.builtin "type.__call__" ⟨.ref C::vals,[]⟩)).handled=A.handled:=rfl
theorem gX{C C' a b:Addr}(h:instObj C a=instObj C' b):a=b:=by
 injection h with _ h;injection h
theorem HS.newI{ci:Nat}(hs:HS c H own s){a dx:Addr}{h':Heap}(hd:dx=s.heap.objs.size)(ha:a=s.heap.objs.size+1)(he:h'=(s.heap.push emptyDict).push (instObj (c.P.C ci) s.heap.objs.size)) :
  H a=none/\HS c (upd H a (.inst ci [])) (a::dx::own) { s with heap:=h' }/\Step c.fz own (a::dx::own) s.heap h':=by
 clear c own s H ci a dx h' _ hs hd ha he;have ext:∀ b ob,s.heap.get? b=some ob->h'.get? b=some ob:=λb ob e=>by rw[he];show aC _ (aC _ e)
 have gd:h'.get? dx=some emptyDict:=by rw[he,hd];show aC _ (aS _ rfl)
 have ga:h'.get? a=some (instObj (c.P.C ci) dx):=by
  have:=aS (s.heap.push emptyDict) (o:=instObj (c.P.C ci) s.heap.objs.size) rfl;rw[i8] at this;rw[he,ha,hd];show this
 have na:s.heap.get? a=none:=dG (by rw[ha];show iJ _);have nd:s.heap.get? dx=none:=dG (by rw[hd];show aT _);have cV:a≠dx:=by rw[ha,hd];show Nat.succ_ne_self _
 have lo:=hs.lowAt;have Ha:=hs.none_of na;have Hd:=hs.none_of nd;have E:=hs.ext (s':={ s with heap:=h' }) ext;have IT:∀ b,s.heap.get? b=none->c.h₀.get? b=none:=λb e=>by
  cases q:c.h₀.get? b with
  |none=>rfl
  |some o=>have:=hs.stay b o q;rw[e] at this;show cz this
 have Pu:∀ b,s.heap.get? b=none->c.root.get? b=none:=λb e=>by
  cases q:c.root.get? b with
  |none=>rfl
  |some o=>have:=hs.rootIn b o q;rw[IT b e] at this;show cz this
 have new:∀ b,b∈a::dx::own->b∈own\/s.heap.get? b=none:=λb m=>by
  clear hd ha gd ga cV Ha Hd;rcases ag.mp m with rfl|m
  .show .inr na
  .rcases ag.mp m with rfl|m
   .show .inr nd
   .show .inl m
 have sub:∀ b∈own,b∈a::dx::own:=λb m=>.tail _ (.tail _ m);have old:∀ b c1 l1 C1 d1,b≠a->upd H a (.inst ci []) b=some (.inst c1 l1)->h'.get? b=some (instObj C1 d1)->H b=some (.inst c1 l1)/\s.heap.get? b=some (instObj C1 d1)/\d1≠a/\d1≠dx:=λb c1 l1 C1 d1 nb e g=>by
  have e':H b=some (.inst c1 l1):=by simpa [upd,nb] using e
  show dt (hs.rep.obj b _ e') λ_ d' es n m1 _ g1 g2 _=>?_;have:=ext _ _ g1;rw[g] at this;have hC:C1=c.P.C c1:=by injection this with z;injection z with z;injection z
  have hD:=gX (aN this);clear g m1 this;subst hD;subst hC;show ⟨e',g1,λz=>?_,λz=>?_⟩
  .rw[z,na] at g2;show cz g2
  .rw[z,nd] at g2;show cz g2
 show ⟨Ha,⟨⟨λb ob e=>?_,λb1 b2 c1 l1 c2 l2 C1 C2 d e1 e2 g1 g2=>?_,λb m=>?_⟩,E.stay,E.rootIn,E.low,E.lives,λb m=>?_,E.gens,E.os⟩,⟨λb o e _=>ext b o e,new,sub⟩⟩
 .by_cases q:b=a
  .clear na new sub old;subst q;have:d6.inst ci []=ob:=by simpa [upd] using e
   clear e;subst this;show ⟨.head _,dx,[],0,.tail _ (.head _),by simp[upd,cV.symm,Hd],ga,gd,fP.nil _⟩
  .have e':H b=some ob:=by simpa [upd,q] using e
   show OR.updH (λc1 l1 d1 C1 eo g z=>?_) ((E.rep.obj b ob e').more sub λx m=>(new x m).imp id (Pu x));clear e;subst eo;show dt (hs.rep.obj b _ e') λ_ d' es n m1 _ g1 g2 _=>?_;have:=ext _ _ g1;rw[g] at this;have:=gX (aN this);clear m1 g1;subst this;rw[z,na] at g2;show cz g2
 .by_cases q1:b1=a
  .by_cases q2:b2=a
   .rw[q1,q2]
   .show gM (old b2 _ _ _ _ q2 e2 g2) λ_ _ _ k=>?_;rw[q1,ga] at g1;show absurd (gX (aN g1)).symm k
  .show gM (old b1 _ _ _ _ q1 e1 g1) λx1 x2 _ k=>?_;by_cases q2:b2=a
   .rw[q2,ga] at g2;show absurd (gX (aN g2)).symm k
   .show mf (old b2 _ _ _ _ q2 e2 g2) λy1 y2 _=>?_;show hs.rep.inj b1 b2 _ _ _ _ _ _ _ x1 y1 x2 y2
 .clear nd;rcases ag.mp m with rfl|m
  .show ⟨by rw[ga];rfl,by rw[ha];show iK lo⟩
  .rcases ag.mp m with rfl|m
   .show ⟨by rw[gd];rfl,by rw[hd];show lo⟩
   .show E.rep.here b m
 .have:∀ b,s.heap.get? b=none->c.h₀.get? b=none/\b≠c.L:=λb e=>⟨IT b e,λz=>by
   show bj hs.lives λ_ q _=>?_
   rw[<-z,e] at q;show cz q⟩
  rcases new b m with q|q
  .show hs.apart b q
  .show this b q
noncomputable def Cx.under(c:Cx)(A:Around):Cx:={ c with A:=A }
theorem HS.under{A:Around}(hs:HS c H own s):HS (c.under A) H own s:=⟨hs.rep,hs.stay,hs.rootIn,hs.low,hs.lives,hs.apart,hs.gens,hs.os⟩
theorem HS.un_under{A:Around}(hs:HS (c.under A) H own s):HS c H own s:=⟨hs.rep,hs.stay,hs.rootIn,hs.low,hs.lives,hs.apart,hs.gens,hs.os⟩
structure HO (P:Pg) (ci:Nat):Prop where
 makes:makesIn P.K (P.C ci)=true
 init:findIn P.K (.ref (P.C ci)) "__init__" = some (some (.ref (P.fa ci)))
 fn:typeIn P.K (.ref (P.fa ci))=some (.type "function")
theorem uM{n ci np:Nat}{qual:Str}{scope:Scope}{body:List Stmt}{cdv:Value}{hd:Bool}{W:Rv}(fz:c.fz=false)(G:cN c n)(tm:c.A.depth+2+3*n<=900)(OO:c.A.units+4+20*n<=9000)(hh:gb c hd)
  (CO:HO c.P ci) (FO:BB c.P ci np qual scope body cdv)
  (hb:∀ c':Cx,c'.P=c.P->c'.env.scope=scope->c'.fz=false->cN c' n->gb c' hd->SS c' (c.P.vn ci) (execs body c'.env) W)
  {vars:List Str} {env:Env} {ρ:Sto} {vs:List Val} {cvs:List Value} {Q:PQ} {E:MH->Prop} (hE:env=c.env\/E=λ_=>False) (hs:HS c H own s) (ns:NS c.L c.h₀ vars env ρ own s.heap) (hv:Vs cvs vs) (hl:vs.length+1=np)
  (w:alloc (.inst ci []) H (λx H=>W (λi=>(x::vs)[i]?) H (λr _ H=>Flo.rec (motive:=λ_=>Prop) (Val.none=.none/\Q x H) (λv=>v=.none/\Q x H) r) (λ_ H=>E H))) :
  wpAny c.M c.A (call (.ref (c.P.C ci)) cvs) (ba c own s.heap Q) (du c vars ρ E) s:=by
 obtain ⟨hm,hi,hf⟩:=CO;have X:=G.X.keeps hs.stay;obtain ⟨hp,g,d,t,os⟩:=s;show wj (make_core (makes_of X hm) (looks_findIn X hi) (λself=>bind_fn X self hf) (.inl rfl) ?_);show mf (HS.newI (ci:=ci) hs (a:=hp.objs.size+1) (dx:=hp.objs.size) (h':=(hp.push emptyDict).push (instObj (c.P.C ci) hp.objs.size)) rfl rfl rfl) λHa fc S2=>?_;have w2:=w _ Ha;let A':=c.A.under (.builtin "type.__call__" ⟨.ref (c.P.C ci)::cvs,[]⟩)
 have G2:cN (c.under A') n:=⟨G.X,G.g,G.b,G.nolimit,G.builtins,⟨G.env.kind,G.env.globals,G.env.builtins,G.env.frame⟩,G.eloc,G.new,G.rootIn,G.ff,(mT _ _ _).trans G.frames,by
  change A'.depth+3*n<=900
  rw[show A'.depth=c.A.depth+1 from rt _ _ _];show li 0x11ffb742cc1841a5c0840e859830834b8118120 rfl tm,by
  change A'.units+20*n<=9000
  rw[show A'.units=c.A.units+1 from units_under_make _ _ _];show li 0x11ffb742dc1841a8c0840e85b83083518130120 rfl OO⟩
 have NX:gb (c.under A') hd:=by
  clear hb;cases hd with
  |false=>show hh
  |true=>show hh
 have iM:=ns.step S2
 have T:=rX (c:=c.under A') (f:=ci) (Q:=λr H=>r=.none/\Q (.ref (hp.objs.size+1)) H) fz G2 (by
  change A'.depth+1+3*n<=900
  rw[show A'.depth=c.A.depth+1 from rt _ _ _];show li 0x47fedd0b30610697021c0840e859830834b8118120 rfl tm) (by
  change A'.units+3+20*n<=9000
  rw[show A'.units=c.A.units+1 from units_under_make _ _ _];show li 0x47fedd0b706106a3025c0840e85b83083518130120 rfl OO) NX FO hb (vars:=vars) (env:=env) (ρ:=ρ) (vs:=.ref (hp.objs.size+1)::vs) (cvs:=.ref (hp.objs.size+1)::cvs) (E:=E) hE (HS.under fc) iM (.cons rfl hv) (by rw[aH,hl]) (by
   show w2)
 show codeAny_mono T λr s' z=>?_;rcases r with e|(v|_|_|_)
 ·(show bj z λH' aG q=>?_;clear z;obtain ⟨x1,x2,x3,x4,x5⟩:=aG);show ⟨H',⟨x1,x2,x3,x4,x5⟩,q⟩
 all_goals first|show z.elim|skip
 (show gz z λv' H' own' e1 z1 z2 aG z3=>?_;clear z;subst aG);have:=ly e1;show ⟨this,_,H',own',rfl,HS.un_under z1,S2.trans z2,z3⟩
end
section
open Builtin Builtin.ObjectAttr
noncomputable def bmE:List Value:=[.type "Exception",.type "BaseException",.type "object"]
section
variable {prog:Program} {w:World} {A:Around} {E:Value->Shared->Prop} {h:Heap} {g:Array GenState} {d:Drawn} {t:Nat} {os:OsState}
variable {nm q:Str} {C N x:Addr} {bs bm:List Value} {sn:List Str} {sub:List Value} {ab:Bool} {col:Option Bool} {dd:Option Addr} {k0 k1 k2 k3 k5:Option Value} {B newId sa owner:String}
 {mN:Str->Option Value} {name:Str} {v:Value} {vs:Array Value}
theorem v9{tk:Tok}{Q:Fin->Shared->Prop}(SF:StoreFacts B bm sa owner)
  (hC:h.get? C=some (excClassObj nm q C N bs bm true sn sub ab col dd k0 k1 k2 k3 k5 newId)) (hn:h.Ns N mN) (Ir:mN name=none)
  (hB:typeLookup (.type B) name=pure none) (hx:h.get? x=some { cls:=.ref C,data:=.fields vs })
  (hq:∀ h' PZ,h'.get? x=some { cls:=.ref C,dict:=some h.objs.size,data:=.fields vs }->h'.Ns1 h.objs.size (λy=>if y=name then some v else none)->
   (∀ b o,b≠x->h.get? b=some o->h'.get? b=some o)->Q (.done (.ret .none)) ⟨h',g,d,PZ,os⟩) :
  wpAny (model prog w) A (Builtin.«object.__setattr__» ⟨[.ref x,.str name tk,v],[]⟩) Q E ⟨h,g,d,t,os⟩:=by
 clear prog w A E h g d t os nm q C N x bs bm sn sub ab col dd k0 k1 k2 k3 k5 B newId sa owner mN name v vs tk Q _ SF hC hn Ir hB hx hq;obtain ⟨o,ho⟩:∃ o,o=({ cls:=.ref C,data:=.fields vs }:Obj):=⟨_,rfl⟩
 rw[<-ho] at hx;have hc:o.cls=.ref C:=by rw[ho]
 have xu:o.dict=none:=by rw[ho]
 have hnc:∀ c,o.data≠.cls c:=by rw[ho];intro c z;cases z
 have pass:=SF.passes (.ref x);unfold Builtin.«object.__setattr__»;repeat (first|rw[refuse_eq]|(rw[refuseLoop_ref,pass])|(with_reducible show jI hx ?_;rw[hc])|with_reducible show wpAny_mroOf_exc hC ?_|(with_reducible show wpAny_typeLookup_exc hC hn SF.mro hB ?_;rw[Ir])|wp_step)
 rw[xu,if_neg (λh=>ft h)];split
 .rename_i z;show cz z
 split
 .rename_i c z;show absurd z (hnc c)
 have x1:(h.push { cls:=.type "dict",data:=.dict #[] }).get? x=some o:=aC _ hx;have xs:x≠h.objs.size:=dh (bE hx);show ah (wpAny_alloc' (ah (wpAny_update' x1 (aK ?_))));have gd:((h.push { cls:=.type "dict",data:=.dict #[] }).update x λo=>{ cls:=o.cls,dict:=some h.objs.size,data:=o.data,slots:=o.slots }).get? h.objs.size
   = some { cls:=.type "dict",data:=.dict #[] }:=(wL _ _ _ _ xs.symm).trans (Heap.get?_push_at rfl rfl)
 have nd:((h.push { cls:=.type "dict",data:=.dict #[] }).update x λo=>{ cls:=o.cls,dict:=some h.objs.size,data:=o.data,slots:=o.slots }).Ns h.objs.size (λ_=>none) :=
  ⟨_,#[],_,gd,rfl,λe he=>absurd he (by simp),λ_=>rfl⟩
 change wpAny _ _ (storeInDict h.objs.size (.str name tk) name v) _ _ _;unfold storeInDict newKeyGuard;show ah (aK (ah (wpAny_nsSet1 (Heap.Ns1.of_empty nd) λh' n' sb=>?_)));show kK (n'.count (Within.cons name v Within.nil)) λoD esD epD hoD ZI S'=>?_;show ah (wpAny_lookBehind hoD (by rw[ZI];show pastItsLine_dict (aR S' (by rw[aH,List.length_nil,jH];show li 0x1ffa30216f810a000 rfl))) ?_);wp_walk;show hq h' _ ?_ ?_ λb ob nb hb=>?_
 .show (sb.2 x xs).trans ((eF _ x1 (by rw[ho];rfl)).trans (by rw[ho]))
 .show n'
 .show (sb.2 b (dh (bE hb))).trans ((wL _ _ _ _ nb).trans (aC _ hb))
theorem xf{Q:Unit->Shared->Prop}(SF:StoreFacts B bm sa owner)
  (hC:h.get? C=some (excClassObj nm q C N bs bm true sn sub ab col dd k0 k1 k2 k3 k5 newId)) (hn:h.Ns N mN) (sv:mN "__setattr__" = none) (Ir:mN name=none)
  (hB:typeLookup (.type B) name=pure none) (hx:h.get? x=some { cls:=.ref C,data:=.fields vs })
  (hq:∀ h' PZ,h'.get? x=some { cls:=.ref C,dict:=some h.objs.size,data:=.fields vs }->h'.Ns1 h.objs.size (λy=>if y=name then some v else none)->
   (∀ b o,b≠x->h.get? b=some o->h'.get? b=some o)->Q () ⟨h',g,d,PZ,os⟩) :
  wpAny (model prog w) A (setAttr (.ref x) name v) Q E ⟨h,g,d,t,os⟩:=by
 have f3:=SF.slot.bind (.ref x);unfold setAttr callSpecial? specialOf;repeat (any_goals (first|assumption|with_reducible show jI hx ?_|(with_reducible show wpAny_typeLookup_exc hC hn SF.mro SF.slot.lookup ?_;rw[sv])|wp_step))
 show codeAny_call_builtin SF.slot.plain SF.entry (wpAny_check_sa SF hC hx rfl (v9 SF hC hn Ir hB hx λh' PZ g1 g2 g3=>?_));repeat (any_goals (first|assumption|wp_step))
 show hq h' PZ g1 g2 g3
theorem xX{s:Shared}{env:Env}{y:Sem Value}{od:Option Addr}{Q:Flow->Shared->Prop}(NF:bm.contains (.type "BaseException")=true)(hh:A.handled=none)
  (k:wpAny (model prog w) A y (λv cU=>∃ e t,v=.ref e/\cU.heap.get? C=some (excClassObj nm q C N bs bm true sn sub ab col dd k0 k1 k2 k3 k5 newId)/\
   (∃ od,cU.heap.get? e=some { cls:=.ref C,dict:=od,data:=.fields #[.ref t,.none,.none,.none,.bool false,.none] })/\E (.ref e) cU) E s) :
  wpAny (model prog w) A (raiseStmt env (some y) none) Q E s:=by
 clear od;have ZE:(cm C::bm).contains (.type "BaseException")=true:=by rw[ym,NF,nD]
 unfold raiseStmt;show ah (aJ k (λv cU vr=>?_) λ_ _ x=>x);(show jn vr λe t aG hC cE hE=>?_;clear vr;subst aG;obtain ⟨od,he⟩:=cE);obtain ⟨hp,g,d,tk,os⟩:=cU;repeat (first|with_reducible show jI he ?_|with_reducible show jI hC ?_|(with_reducible show wpAny_isSubtype_exc hC ?_;rw[ZE])|wp_step)
 show wpAny_raiseNew_none hh hE
end
end
theorem DB:typeLookup (.type "Exception") "symbol" = pure none:=by rw[typeLookup_type,Bp];kernel_rfl
theorem Ld:typeLookup (.type "Exception") "data" = pure none:=by rw[typeLookup_type,Bp];kernel_rfl
noncomputable def initParams:List Str:=["self","symbol","data"]
structure BD (K:Frag) (fI:Addr):Prop where
 look:∃ name qual params scope dV kV doc pm an cdv ct od osl p1 p2 p3 p4 p5 p6 p7 p8,K.lookup fI=some ⟨.type "function",od,.func (fnOf name qual params
   [.Assign [.Attribute (.Name "self" p1) "symbol" p2] (.Name "symbol" p3) p4,.Assign [.Attribute (.Name "self" p5) "data" p6] (.Name "data" p7) p8] scope dV kV doc pm an cdv ct),osl⟩/\codeIn K cdv qual=true/\
  params.posonlyargs=[]/\params.args.map (·.arg)=initParams/\params.vararg=none/\params.kwonlyargs=[]/\params.kwarg=none/\dV=.none/\
  scope.isCoroutine=false/\scope.isGenerator=false/\scope.kind=.function/\(∀ x∈initParams,scope.names.lookup x=some .local)/\(∀ x∈scope.names,x.2≠.cell)
structure rN (P:Pg):Prop where
 cls:∃ nm q N bs sn sub ab col dd k0 k1 k2 k3 k5 oN es ep fI,P.K.lookup P.CE=some (excClassObj nm q P.CE N bs bmE true sn sub ab col dd k0 k1 k2 k3 k5 "Exception.__new__")/\
  P.K.lookup N=some oN/\oN.data=.dict es ep/\StrKeys es/\nsFind es "__init__" = some (.ref fI)/\nsFind es "__setattr__" = none/\nsFind es "symbol" = none/\nsFind es "data" = none/\BD P.K fI
 keep:keepIn P.K (.ref P.CE)=true
section
variable {prog:Program} {w:World} {A:Around} {g:Array GenState} {d:Drawn} {t:Nat} {os:OsState}
theorem CT{K:Frag}{C fI e N:Addr}{h:Heap}{nm q:Str}{bs:List Value}{sn:List Str}{sub:List Value}{ab:Bool}{col:Option Bool}{dd:Option Addr}{k0 k1 k2 k3 k5:Option Value}{newId:String}{mN:Str->Option Value}{vs:Array Value}{v1 v2:Value}
  {R:Result->Shared->Prop} (IO:BD K fI) (X:K.In h) (xy:h.NoLimit) (jG:A.depth<recursionLimit)
  (hC:h.get? C=some (excClassObj nm q C N bs bmE true sn sub ab col dd k0 k1 k2 k3 k5 newId)) (hn:h.Ns N mN) (sv:mN "__setattr__" = none) (h1:mN "symbol" = none) (h2:mN "data" = none)
  (he:h.get? e=some { cls:=.ref C,data:=.fields vs })
  (hR:∀ h' t',(∀ b o,b≠e->h.get? b=some o->h'.get? b=some o)->(∃ od,h'.get? e=some { cls:=.ref C,dict:=od,data:=.fields vs })->R (.ok (.ret .none)) ⟨h',g,d,t',os⟩) :
  codeAny (model prog w) A (.call (.ref fI) ⟨[.ref e,v1,v2],[]⟩) R ⟨h,g,d,t,os⟩:=by
 clear prog w A g d t os K C fI e N h nm q bs sn sub ab col dd k0 k1 k2 k3 k5 newId mN vs v1 v2 R _ IO X xy jG hC hn sv h1 h2 he hR;obtain ⟨name,qual,params,scope,dV,kV,doc,pm,an,cdv,ct,od,osl,p1,p2,p3,p4,p5,p6,p7,p8,look,JQ,q1,q2,q3,q4,q5,rfl,co,gen,kd,loc,nocell⟩:=IO.look;have sq:BindsTo ⟨h,g,d,t,os⟩ (fnOf name qual params [.Assign [.Attribute (.Name "self" p1) "symbol" p2] (.Name "symbol" p3) p4,.Assign [.Attribute (.Name "self" p5) "data" p6] (.Name "data" p7) p8] scope .none kV doc pm an cdv ct) ⟨[.ref e,v1,v2],[]⟩ (initParams.zip [.ref e,v1,v2]) :=
  kg q1 q2 q3 q4 q5 rfl (by decide) λM A E Q k=>aK (k none)
 show codeAny_call_def (fd:=fnOf name qual params _ scope .none kV doc pm an cdv ct) jG (X _ _ look) rfl xy (codeRec_of X JQ) rfl sq nocell (λx hx=>loc _ (j5 hx)) (λh₀ sI fG=>?_) co gen kd;dsimp only at sI fG ⊢;generalize lJ:callEnv (fnOf name qual params [.Assign [.Attribute (.Name "self" p1) "symbol" p2] (.Name "symbol" p3) p4,.Assign [.Attribute (.Name "self" p5) "data" p6] (.Name "data" p7) p8] scope .none kV doc pm an cdv ct) h.objs.size fI=env;have s1:env.scope=scope:=by rw[<-lJ];rfl
 have s2:env.locals=h.objs.size:=by rw[<-lJ];rfl
 have Rc:env.scope.kind=.function:=by rw[s1];show kd
 have kn:∀ x∈initParams,env.kindOf x=some .local:=λx m=>by
  change env.scope.names.lookup x=_;rw[s1];show loc x m
 have Ze:h.objs.size≠e:=fT (bE he);have dr:h₀.Ns env.locals (λx=>(initParams.zip [cm e,v1,v2]).reverse.lookup x):=s2.symm▸sI;show rK (rd ?_);show lP (fi Rc (kn _ (.tail _ (.head _))) dr (v:=v1) rfl ?_);show lP (fi Rc (kn _ (.head _)) dr (v:=.ref e) rfl ?_);have hN:∀ {h':Heap},(∀ b o,b≠e->h₀.get? b=some o->h'.get? b=some o)->h'.Ns N mN:=λ{h'} k=>by
  (show kK hn λo es ep g1 g2 r=>?_;clear hn);show ⟨o,es,ep,k _ _ (λz=>?_) (fG _ _ g1),g2,r⟩;rw[z,he] at g1;cases g1;cases g2
 have W2:C≠e:=λz=>by rw[z,he] at hC;cases hC
 show xf F.store_Exception (fG _ _ hC) (hN λb o _ q=>q) sv h1 DB (fG _ _ he) λh1 t1 e1 d1 k1=>?_;have iM:h1.Ns env.locals (λx=>(initParams.zip [cm e,v1,v2]).reverse.lookup x):=Ns.at dr λo q=>k1 _ o (by rw[s2];show Ze) q;show rK (rd ?_);show lP (fi Rc (kn _ (.tail _ (.tail _ (.head _)))) iM (v:=v2) rfl ?_);show lP (fi Rc (kn _ (.head _)) iM (v:=.ref e) rfl ?_);have xu:h₀.objs.size≠e:=fT (bE (fG _ _ he));have I:h1.Inst e C (λy=>if y=("symbol" : Str) then some v1 else none):=⟨_,e1,rfl,(λc z=>by cases z),.inr ⟨h₀.objs.size,rfl,xu,d1⟩⟩
 show store_attr F.store_Exception (k1 _ _ W2 (fG _ _ hC)) (hN k1) sv h2 Ld (λz=>W2 z.symm) I (λh2 t2 I2 k2 same=>?_) (ns:=["symbol"]) (hw:=Within.cons _ _ Within.nil);show ir ?_;show Li (same _ e1) λo2 g2 c2 VJ XM _=>?_;show hR h2 t2 (λb o nb q=>k2 b o nb (λza4 dx z1 z2=>?_) (k1 b o nb (fG b o q))) ⟨o2.dict,?_⟩
 .rw[e1] at z1;cases z1;cases z2;show dh (bE (fG b o q))
 .rw[g2];obtain ⟨a1,a2,a3,a4⟩:=o2;simp only at c2 VJ XM;rw[c2,VJ,XM]
end
section
variable {c:Cx} {vars:List Str} {ρ:Sto} {own:List Addr} {s:Shared} {H:MH} {Φ:Bool->Phi} {hd:Bool}
theorem Nn{n:Nat}(G:cN c n)(hs:HS c H own s):s.heap.FunFrames c.root (c.env::c.outer):=by
 show bj hs.lives λo ho hn=>?_;show ⟨by rw[G.env.kind];decide,⟨c.L,o,G.env.frame,?_,ho,hn⟩,G.ff.of_keeps λb o e _=>⟨o,hs.stay b o e,rfl⟩⟩;cases q:c.root.get? c.L with
 |none=>rfl
 |some o'=>have:=G.rootIn _ _ q;rw[G.new] at this;show cz this
theorem tZ{n:Nat}(G:cN c n)(hs:HS c H own s){b:Addr}(m:b∈own):b∉(c.env::c.outer).filterMap (·.frame):=λhm=>by
 rw[dJ,G.env.frame] at hm;rcases ag.mp hm with z|hm
 .show (hs.apart b m).2 z
 .show fm (G.ff.mem hm) λ_ o ho _=>?_;rw[(hs.apart b m).1] at ho;show cz ho
theorem C6{n:Nat}(G:cN c n)(hs:HS c H own s)(ns:NS c.L c.h₀ vars c.env ρ own s.heap){e t:Addr}{s':Shared}(k:∀ b o,s.heap.get? b=some o->s'.heap.get? b=some o)(hn:s.heap.get? e=none)
  (he:∃ od,s'.heap.get? e=some { cls:=.ref c.P.CE,dict:=od,data:=.fields #[.ref t,.none,.none,.none,.bool false,.none] }) (hg:s'.gens=s.gens) (ho:s'.os=s.os):Exc c vars ρ H (.ref e) s':=by
 clear c vars ρ own s H n e t s' _ G hs ns k hn he hg ho;have F:=Nn G hs;have qX:∀ env∈c.env::c.outer,∀ a,env.frame=some a->a∈(c.env::c.outer).filterMap (·.frame):=λenv m a q=>yq.mpr ⟨env,m,q⟩;have rB:c.root.StaysIn (hideAll s.heap ((c.env::c.outer).filterMap (·.frame))):=λb o q=>d7 _ (hs.stay b o (G.rootIn b o q)) λm=>by
  rw[(F.mem m).1] at q;show cz q
 show oE he λod he=>?_
 show ⟨⟨e,hideAll s.heap ((c.env::c.outer).filterMap (·.frame)),own,rfl,rB,λb o q=>k b o (vF _ q),?_,(funFrames_hide F qX).of_keeps λb o q _=>⟨o,k b o q,rfl⟩,⟨_,_,he,rfl,rfl,rfl,.inl rfl⟩,?_,λb m=>(hs.apart b m).1,
  λb o q nf=>d7 _ (hs.stay b o q) nf⟩,?_,λb o es ep q hd=>⟨o,k _ _ (hs.stay b o q),hd⟩,hg.trans hs.gens,ho.trans hs.os⟩
 .cases q:(hideAll s.heap ((c.env::c.outer).filterMap (·.frame))).get? e with
  |none=>rfl
  |some o=>have:=vF _ q;rw[hn] at this;show cz this
 .show hs.rep.keep λb m o q=>d7 _ q (tZ G hs m)
 .show bj ns.loc λm n1 n2=>?_;rw[G.eloc] at n1;show ⟨m,Ns.at n1 λo q=>k _ o q,n2⟩
theorem Ew{n:Nat}(G:cN c n)(GO:GOk c.P)(EX:rN c.P)(hh:c.A.handled=none){x s1 s2:Str}{np Jr pos p1 p2 p3:Pos}{k1 k2:Nat}(hk:c.env.kindOf x=some .globalImplicit)(iB:(x==("__debug__" : Str))=false)
  (hv:c.P.gl.lookup x=some (.ref c.P.CE)) (tm:c.A.depth<=900) :
  SS c vars (exec (.Raise (some (.Call (.Name x np) [.Constant (.str s1) k1 p1,.List [.Constant (.str s2) k2 p2] p3] [] Jr)) none pos) c.env) (λρ H Q E=>wS Φ false .raise ρ H Q E):=by
 intro ρ H own s Q E hs ns w;clear c vars Φ n x s1 s2 np Jr pos p1 p2 p3 k1 k2 ρ H own s Q E _ G GO EX hh hk iB hv tm hs ns w;obtain ⟨nm,q,N,bs,sn,sub,ab,col,dd,Xk,Xl,Xm,Xn,Xo,oN,es,ep,fI,hC,hN,Zg,Zh,i1,i2,i3,i4,IO⟩:=EX.cls;have X0:=G.X.keeps hs.stay;rw[arm_exec_Raise];change wpAny c.M c.A (do standAt pos;raiseStmt c.env (some (do let v <-eval (.Call (.Name x np) [.Constant (.str s1) k1 p1,.List [.Constant (.str s2) k2 p2] p3] [] Jr) c.env;standAt pos;pure v)) none) _ _ s;show ah (fN (xX (C:=c.P.CE) (nm:=nm) (q:=q) (N:=N) (bs:=bs) (bm:=bmE) (sn:=sn) (sub:=sub) (ab:=ab) (col:=col) (dd:=dd) (k0:=Xk) (k1:=Xl) (k2:=Xm) (k3:=Xn) (k5:=Xo) (newId := "Exception.__new__") (od:=none) (rfl) hh ?_));show ah (dU (pA G GO G.env hk iB hv hs ?_));show eG (P:=λh=>c.P.K.In h) (by rw[plain_any (es:=[.Constant (.str s1) k1 p1,.List [.Constant (.str s2) k2 p2] p3]) rfl];rfl) (keeps_K EX.keep) (da (es:=[.Constant (.str s1) k1 p1,.List [.Constant (.str s2) k2 p2] p3]) rfl ?_);show kY (pj (kY (wpAny_List (kY (pj (ue ⟨lb rfl,ue ?_⟩))))));have ext:∀ b o,s.heap.get? b=some o->(s.heap.push { cls:=.type "list",data:=.seq [Value.str s2 (s.toks+1)].toArray }).get? b=some o:=λb o e=>aC _ e;show ⟨X0.keeps ext,?_⟩;have X1:=X0.keeps ext;have dr:(s.heap.push { cls:=.type "list",data:=.seq [Value.str s2 (s.toks+1)].toArray }).Ns N (λy=>nsFind es y):=⟨oN,es,ep,X1 _ _ hN,Zg,Zh,λy=>rfl⟩
 obtain ⟨oI,hI,Zb⟩:∃ oI,c.P.K.lookup fI=some oI/\oI.cls=.type "function":=by
  obtain ⟨_,_,_,_,_,_,_,_,_,_,_,_,_,_,_,_,_,_,_,_,_,look,_⟩:=IO.look;show ⟨_,look,rfl⟩
 show wpAny_call_exc_init F.excBase_Exception (X1 _ _ hC) dr i1 (X1 _ _ hI) Zb (λh' e hm=>?_) (lb rfl);have X2:=X1.keeps hm.keeps;show bp hm.there λt he ht _=>?_;have iM:h'.Ns N (λy=>nsFind es y):=Ns.at dr λo q=>hm.keeps _ o q;have ext2:∀ b o,s.heap.get? b=some o->h'.get? b=some o:=λb o q=>hm.keeps b o (ext b o q);have cV:s.heap.get? e=none:=by
  cases q:s.heap.get? e with
  |none=>rfl
  |some o=>have:=ext _ _ q;rw[hm.new] at this;show cz this
 show wj (CT (g:=s.gens) (d:=s.drawn) (os:=s.os) IO X2 ((G.nolimit.keeps hs.stay).keeps ext2) ?_ (hm.keeps _ _ (X1 _ _ hC)) iM i2 i3 i4 he λh3 t3 k3 e3=>?_)
 .change (c.A.under (.builtin "type.__call__" ⟨.ref c.P.CE::_,[]⟩)).depth<1000;rw[rt];show li 0x47fedd28b02103a160110 rfl tm
 .have ext3:∀ b o,s.heap.get? b=some o->h3.get? b=some o:=λb o q=>k3 b o (λz=>by rw[z,cV] at q;show cz q) (ext2 b o q);show ⟨rfl,ah (fN (aK ⟨e,t,rfl,?_,e3,ρ,H,C6 G hs ns ext3 cV e3 rfl rfl,w.2⟩))⟩
  show k3 _ _ (λz=>by
   have:=hm.keeps _ _ (X1 _ _ hC)
   rw[z,he] at this;cases this) (hm.keeps _ _ (X1 _ _ hC))
end
section
variable {c:Cx} {vars:List Str} {ρ:Sto} {own:List Addr} {s:Shared} {H:MH} {Φ:Bool->Phi} {hd:Bool}
noncomputable def Cx.hold(c:Cx)(h:Heap)(own:List Addr)(A:Around):Cx:={ c with h₀:=hideAll h (c.L::own),A:=A }
theorem sx(n0:c.h₀.get? c.L=none)(k:∀ b o,c.h₀.get? b=some o->s.heap.get? b=some o)(ap:∀ b∈own,c.h₀.get? b=none):c.h₀.StaysIn (hideAll s.heap (c.L::own)):=λb o e=>d7 _ (k b o e) λm=>by
 rcases ag.mp m with rfl|m
 .rw[n0] at e;show cz e
 .rw[ap b m] at e;show cz e
theorem yG{n:Nat}{A:Around}(G:cN c n)(out:c.outer=[])(k:c.h₀.StaysIn (hideAll s.heap (c.L::own)))(h1:A.frames=c.A.frames)(h2:A.depth=c.A.depth)(h3:A.units=c.A.units):cN (c.hold s.heap own A) n :=
 ⟨G.X.keeps k,Ns.at G.g λo e=>k _ o e,Ns.at G.b λo e=>k _ o e,G.nolimit.keeps k,G.builtins,⟨G.env.kind,G.env.globals,G.env.builtins,G.env.frame⟩,G.eloc,lK _ (.head _),λb o e=>k b o (G.rootIn b o e),by
  change (hideAll s.heap (c.L::own)).FunFrames c.root c.outer
  rw[out];trivial,h1.trans G.frames,by change A.depth+_<=_;rw[h2];show G.depth,by change A.units+_<=_;rw[h3];show G.units⟩
theorem HS.hold{A:Around}(hs:HS c H own s)(k:c.h₀.StaysIn (hideAll s.heap (c.L::own))):HS (c.hold s.heap own A) H own s:=by
 show ⟨hs.rep,λb o e=>vF _ e,λb o e=>k b o (hs.rootIn b o e),?_,hs.lives,λb m=>⟨lK _ (.tail _ m),(hs.apart b m).2⟩,hs.gens,hs.os⟩;show oE hs.low λo e=>?_;show ⟨o,k _ _ e⟩
theorem HS.unhold{A:Around}{h:Heap}{tY:List Addr}(hs:HS (c.hold h tY A) H own s)(k:c.h₀.StaysIn (hideAll h (c.L::tY)))(r:c.root.StaysIn c.h₀)(lo:∃ o,c.h₀.get? cStatics=some o):HS c H own s:=by
 show ⟨hs.rep,λb o e=>hs.stay b o (k b o e),r,lo,hs.lives,λb m=>⟨?_,(hs.apart b m).2⟩,hs.gens,hs.os⟩;cases q:c.h₀.get? b with
 |none=>rfl
 |some o=>
  have:=k b o q;rw[show (hideAll h (c.L::tY)).get? b=none from (hs.apart b m).1] at this;show cz this
theorem NS.rebase{L:Addr}{h₀ vr h:Heap}{env:Env}(N:NS L h₀ vars env ρ own h)(nc:env.cells=[])(e:vr.get? env.locals=none):NS L vr vars env ρ own h :=
 ⟨N.loc,N.cel,N.out,λx a q=>(by rw[nc] at q;show cz q),N.inj,e⟩
theorem iE{n:Nat}{A:Around}(G:cN c n)(GO:GOk c.P){x:Str}{v:Value}(hk:c.env.kindOf x=some .globalImplicit)(hv:c.P.gl.lookup x=some v)(k:c.h₀.StaysIn s.heap){Q:Value->Shared->Prop}{E':Value->Shared->Prop}
  (h:Q v s):wpAny c.M A (loadName c.env x) Q E' s:=by
 clear c s n A x v Q E' _ G GO hk hv k h;have:=loadGlobal_global (M:=c.M) (A:=A) (E:=E') (env:=c.env) (mg:=c.P.mg) (s:=s) (by rw[G.env.globals];show Ns.at G.g λo e=>k _ _ e) (GO.gl x v hv) h;unfold loadName;simp only[Env.blockKind,G.env.kind,hk,ScopeKind.isAnnotationScope,Bool.false_and,yk,if_false];show this
theorem LD{n:Nat}(G:cN c n)(GO:GOk c.P)(EX:rN c.P)(fz:c.fz=false)(hh:c.A.handled=none)(tp:c.top=true)(out:c.outer=[])(nc:c.env.cells=[])(locs:∀ (i:Nat) x,vars[i]?=some x->c.env.kindOf x≠some .cell)
  {x:Str} {np ry pos:Pos} {body sT:List Stmt} {b0:Stmt} {mb mh:MSs} (hk:c.env.kindOf x=some .globalImplicit) (iB:(x==("__debug__" : Str))=false) (hv:c.P.gl.lookup x=some (.ref c.P.CE))
  (Tb:∀ c2:Cx,c2.P=c.P->c2.env=c.env->c2.outer=c.outer->c2.fz=false->c2.top=c.top->cN c2 n->gb c2 false->SS c2 vars (execs body c.env) (λρ H Q E=>wSs Φ false mb ρ H Q E))
  (Th:∀ c2:Cx,c2.P=c.P->c2.env=c.env->c2.outer=c.outer->c2.fz=false->c2.top=c.top->cN c2 n->gb c2 true->SS c2 vars (execs (b0::sT) c.env) (λρ H Q E=>wSs Φ true mh ρ H Q E)) :
  SS c vars (exec (.Try body [.ExceptHandler (some (.Name x np)) none (b0::sT) ry] [] [] pos) c.env) (λρ H Q E=>wS Φ false (.try mb mh) ρ H Q E):=by
 intro ρ H own s Q E hs ns w;clear c vars Φ n x np ry pos body sT b0 mb mh ρ H own s Q E _ G GO EX fz hh tp out nc locs hk iB hv Tb Th hs ns w;show oA w λ_ w=>?_;obtain ⟨nm,q,N,bs,sn,sub,ab,col,dd,Xk,Xl,Xm,Xn,Xo,oN,es,ep,fI,hC,_⟩:=EX.cls;have pl:∀ b,Places c.env b->b=c.L:=λb p=>by
  rcases p with p|⟨y,p⟩
  .rw[<-G.eloc];show p
  .rw[nc] at p;show cz p
 have k1:c.h₀.StaysIn (hideAll s.heap (c.L::own)):=sx (own:=own) G.new hs.stay λb m=>(hs.apart b m).1;have cH:HS (c.hold s.heap own c.A) H own s:=hs.hold k1;have dr:NS c.L (hideAll s.heap (c.L::own)) vars c.env ρ own s.heap:=ns.rebase nc (by rw[G.eloc];show lK _ (.head _));have T:=Tb (c.hold s.heap own c.A) rfl rfl rfl fz rfl (yG G out k1 rfl rfl rfl) hh ρ H own s Q _ cH dr w;have back:∀ {H':MH} {own':List Addr} {s':Shared} {cc:Sto},NS c.L (hideAll s.heap (c.L::own)) vars c.env cc own' s'.heap->NS c.L c.h₀ vars c.env cc own' s'.heap:=λn=>n.rebase nc (by rw[G.eloc];show G.new);show wpAny_Try_except (aJ T (λf s1 p=>?_) λe s1 p=>?_)
 ·(show fw p λfl Ja H1 o1 hf ip rD um wq=>?_;clear p);have P1:pT c vars own s.heap Q f s1:=⟨fl,Ja,H1,o1,hf,ip.unhold k1 hs.rootIn hs.low,back (H':=H1) rD,um,wq⟩
  cases hf with
  |next=>show ir P1
  |ret=>show P1
 ·(show jQ p λJa H1 ex w1=>?_;clear p);obtain ⟨⟨y,B,n7,rfl,r1,r2,r3,r4,r5,r6,r7,r8⟩,⟨m,n1,n2⟩,dk,eg,eo⟩:=ex;have fr:(c.env::c.outer).filterMap (·.frame)=[c.L]:=by rw[out,dJ,G.env.frame];rfl
  have kB:∀ b o,s.heap.get? b=some o->b∉own->b≠c.L->B.get? b=some o:=λb o e n1 n2=>r8 b o (d7 _ e λm=>(ag.mp m).elim n2 n1) (by
   change b∉(c.env::c.outer).filterMap (·.frame)
   rw[fr];simpa using n2)
  have Rb:c.h₀.StaysIn B:=λb o e=>kB b o (hs.stay b o e) (λm=>by rw[(hs.apart b m).1] at e;show cz e) λz=>by rw[z,G.new] at e;show cz e
  have BL:B.get? c.L=none:=by
   (show mf r4 λ_ aG _=>?_;clear r4;obtain ⟨L',_,hf,Iq,_⟩:=aG);rw[show (c.hold s.heap own c.A).env.frame=some c.L from G.env.frame] at hf;cases hf;show Iq
  show yZ (base:=B) (outer:=c.outer) (L:=c.L) (C:=c.P.CE) G.frames G.env.frame ⟨r2,r3,r4,r5⟩ λh2 a2 u2=>xg a2 λh3 a3 u3=>?_;have X3:c.P.K.In h3:=G.X.keeps λb o e=>a3.stay b o (Rb b o e);show wpAny_handleBy_cons (codeAny_handlers_test ?_) (by intro z;cases z);show lP (iE G GO hk hv (λb o e=>a3.stay b o (Rb b o e)) ?_) iB;show z0 a3.tx λoe vs e1 e2 e3 e4 _=>?_;show wpAny_excMatches_sub_self (X3 _ _ hC) e1 e2 (rfl) ?_;show codeAny_handlers_suite (xg a3 λh4 a4 u4=>?_);show z0 a4.tx λoe vs e1 e2 e3 e4 _=>?_;have Yj:DK s1.heap h4:=DK.of_slots ((u2.trans u3).trans u4);have PA:h4.Ns c.L m:=Yj.ns n1;have al:∀ b∈n7,(B.get? b).isSome=true:=λb m=>(r6.here b m).1;have oL:c.L∉n7:=λm=>by have:=al _ m;rw[BL] at this;show ft this
  have oy:y∉n7:=λm=>by have:=al _ m;rw[r3] at this;show ft this
  have VC:∀ b∈n7,c.h₀.get? b=none:=λb m=>by
   cases q:c.h₀.get? b with
   |none=>rfl
   |some o=>
    have:=k1 b o q;rw[show (hideAll s.heap (c.L::own)).get? b=none from r7 b m] at this;show cz this
  have yL:y≠c.L:=λz=>by
   show bj (FL.of_ns PA) λo f1 f2=>?_;rw[<-z,e1] at f1;cases f1;show f2 vs e3
  let s4:Shared:={ s1 with heap:=h4 }
  have k4:c.h₀.StaysIn (hideAll s4.heap (c.L::n7)):=sx (own:=n7) (s:=s4) G.new (λb o e=>a4.stay b o (Rb b o e)) VC;have xC:HS c H1 n7 s4:=by
   show ⟨r6.ext λb o e=>a4.stay b o e,λb o e=>a4.stay b o (Rb b o e),hs.rootIn,hs.low,FL.of_ns PA,λb m=>⟨VC b m,λz=>oL (z▸m)⟩,eg,eo⟩
  have GN:NS c.L c.h₀ vars c.env Ja n7 s4.heap:=by
   show ⟨⟨m,by rw[G.eloc];show PA,n2⟩,λi x h1 h2=>absurd h2 (locs i x h1),by rw[G.eloc];show oL,λx a q=>(by rw[nc] at q;show cz q),λx y a q=>(by rw[nc] at q;show cz q),by rw[G.eloc];show G.new⟩
  have T2:=Th (c.hold h4 n7 (c.A.mark (some (.ref y)))) rfl rfl rfl fz rfl (yG (s:=s4) G out k4 rfl rfl rfl) ⟨y,oe,vs,rfl,d7 _ e1 (λm=>(ag.mp m).elim yL oy),e3,e4⟩ Ja H1 n7 s4 Q _
   (xC.hold k4) (GN.rebase nc (by rw[G.eloc];show lK _ (.head _))) w1
  show aJ T2 (λf s6 p=>?_) λ_ _ p=>jQ p λ_ _ _ z=>z.elim;(show fw p λfl ρ6 H6 o6 hf OC ns6 MT w6=>?_;clear p);have MT:dM c.top c.fz c.env n7 o6 h4 s6.heap:=MT;have IY:∀ b o,s.heap.get? b=some o->b∉own->b≠c.L->h4.get? b=some o/\b∉n7:=λb o e n1 n2=>by
   have hb:=d7 (c.L::own) e λm=>(ag.mp m).elim n2 n1;show ⟨a4.stay b o (kB b o e n1 n2),λm=>?_⟩;rw[show (hideAll s.heap (c.L::own)).get? b=none from r7 b m] at hb;show cz hb
  show ⟨fl,ρ6,H6,o6,hf,OC.unhold k4 hs.rootIn hs.low,NS.rebase (env:=c.env) ns6 nc (by rw[G.eloc];show G.new),⟨λb o e nn p=>?_,λb p e=>?_,λb m=>?_,λt=>by rw[tp] at t;show Q3 t⟩,w6⟩
  .have n1:b∉own:=nn.elim id λz=>by rw[fz] at z;show ft z
   have n2:b≠c.L:=λz=>p (.inl (by rw[G.eloc];show z));show oA (IY b o e n1 n2) λx1 x2=>?_;show MT.pres b o x1 (.inl x2) p
  .show MT.live b p ?_;rw[pl b p];show Ns.isSome PA
  .by_cases mo:b∈own
   .show .inl mo
   .cases q:s.heap.get? b with
    |none=>show .inr rfl
    |some o=>
     exfalso;have n2:b≠c.L:=λz=>by
      rcases MT.fresh b m with f|f
      .show oL (z▸f)
      .rw[z] at f;have:=Ns.isSome PA;rw[f] at this;show ft this
     show oA (IY b o q mo n2) λx1 x2=>?_;rcases MT.fresh b m with f|f
     .show x2 f
     .rw[f] at x1;show cz x1
end
noncomputable def LH(sc:Scope)(v tg:Expr):Bool:=match v with
 |.ListComp _ _ s _=>(match tg with
  |.Name t p=>sc.names.lookup t==some .local&&p.line==v.pos.line && !(s.names.any λ(n,k)=>n==t&&(k==.local||k==.cell))
  |_=>false)
 |.SetComp _ _ s _=>(match tg with
  |.Name t p=>sc.names.lookup t==some .local&&p.line==v.pos.line && !(s.names.any λ(n,k)=>n==t&&(k==.local||k==.cell))
  |_=>false)
 |.DictComp _ _ _ s _=>(match tg with
  |.Name t p=>sc.names.lookup t==some .local&&p.line==v.pos.line && !(s.names.any λ(n,k)=>n==t&&(k==.local||k==.cell))
  |_=>false)
 |_=>false
theorem mK{env:Env}(hk:env.scope.kind=.function):env.blockKind=.function:=by
 unfold Env.blockKind;rw[hk];rfl
theorem LJ{sc:Scope}{v tg:Expr}{env:Env}{line:Nat}(hs:env.scope=sc)(hk:env.scope.kind=.function):swapsWith v (some tg) line env=pure (LH sc v tg):=by
 subst hs;have b:=mK hk;clear hk;clear env line _ b;cases v<;>first|show (rfl:(pure false:Sem Bool)=pure false)|(cases tg<;>first|show (rfl:(pure false:Sem Bool)=pure false)|(change (pure (env.blockKind==.function&&_&&_&&_):Sem Bool)=pure _;rw[b];rfl))
noncomputable def pG:Expr->Bool
 |.ListComp ..=>false
 |.SetComp ..=>false
 |.DictComp ..=>false
 |_=>true
theorem tT{e:Expr}(h:pG e=true)(line:Nat)(env:Env):swapsWith e none line env=pure false:=by
 clear line env _;cases e<;>first|show (rfl:(pure false:Sem Bool)=pure false)|show ft h
theorem tU{e:Expr}(h:pG e=true)(t:Option Expr)(line:Nat)(env:Env):swapsWith e t line env=pure false:=by
 clear t line env _;cases e<;>first|show (rfl:(pure false:Sem Bool)=pure false)|show ft h
noncomputable def iA(sc:Scope)(ts:List Expr):List Str:=ts.filterMap fun
 |.Name id pos=>if sc.names.lookup id==some .local&&pos.line==(ts.head?.map (·.pos.line)).getD 0 then some id else none
 |_=>none
noncomputable def isStar:Expr->Bool
 |.Starred ..=>true
 |_=>false
noncomputable def Vj(sc:Scope)(ts:List Expr)(v:Expr):Option (Option (List Str)):=match v with
 |.Tuple vs _ _=>
  if !(ts.length==2||ts.length==3)||vs.length !=ts.length then some none
  else if vs.any isStar then some none
  else if (iA sc ts).length !=ts.length||(iA sc ts).eraseDups.length !=(iA sc ts).length then some none
  else if vs.all (foldedForSure 8) then some none
  else if vs.all (constantsAlone 8) then none
  else some (some (iA sc ts))
 |_=>some none
theorem Ez{sc:Scope}{ts:List Expr}{v:Expr}{env:Env}{k:Nat}{p:Pos}{r:Option (List Str)}(hs:env.scope=sc)(hk:env.scope.kind=.function)(h:Vj sc ts v=some r):swappedStores [.Tuple ts k p] v env=pure r:=by
 clear sc ts v env k p r _ hs hk h;subst hs;have b:=mK hk;have hb:(env.blockKind != .function)=false:=by rw[b];rfl
 cases v with
 |Tuple vs k2 p2=>
  delta Vj at h;dsimp only at h;delta swappedStores;dsimp only;rw[hb,Bool.or_false];split at h
  .rename_i c1;rw[if_pos c1];cases h;rfl
  .rename_i c1;rw[if_neg c1]
   change (if vs.any isStar=true then pure none else if ((iA env.scope ts).length !=ts.length||(iA env.scope ts).eraseDups.length !=(iA env.scope ts).length)=true then pure none
    else if vs.all (foldedForSure 8)=true then pure none else if vs.all (constantsAlone 8)=true then _ else pure (some (iA env.scope ts)))=pure r
   split at h
   .rename_i c;rw[if_pos c];cases h;rfl
   rename_i c;rw[if_neg c];split at h
   .rename_i c;rw[if_pos c];cases h;rfl
   rename_i c;rw[if_neg c];split at h
   .rename_i c;rw[if_pos c];cases h;rfl
   rename_i c;rw[if_neg c];split at h
   .show cz h
   rename_i c;rw[if_neg c];cases h;rfl
 |_=>cases h;rfl
noncomputable def uO(P:Pg)(vars:List Str)(q:Bool)(sc:Scope)(t:MT1)(e:Expr):Bool:=match t with
 |.name i=>fq e λx _=>vars[i]?==some x&&KJ sc x
 |.attr a c k=>fy e λo x _=>!q&&(P.at_ c)[k]?==some x&&eA P vars a q false sc o
 |.sub a b=>fA e λo i _=>!q&&eA P vars a q false sc o&&eA P vars b q false sc i
noncomputable def yy(P:Pg)(vars:List Str)(q:Bool)(sc:Scope):List MT1->List Expr->Bool
 |[]=>λes=>iW es true
 |t::ts=>λes=>oV es λe es=>uO P vars q sc t e&&yy P vars q sc ts es
noncomputable def pF:List MT1->Option (List Nat)
 |[]=>some []
 |.name i::r=>(pF r).map (i::·)
 |_=>none
noncomputable def yR:ME->Bool
 |.comp ..=>true
 |_=>false
noncomputable def yS:MT1->Bool
 |.name _=>true
 |_=>false
noncomputable def tS:List Nat->Bool
 |[]=>true
 |x::r=>!r.contains x&&tS r
noncomputable def xR(sc:Scope):Bool:=sc.names.all λp=>!(p.2==.cell)
noncomputable abbrev nK:=Bool->Bool->Scope->Stmt->Bool
noncomputable abbrev HN:=Bool->Bool->Scope->List Stmt->Bool
noncomputable def IL(P:Pg)(vars:List Str)(t:MT1)(a:ME):nK:=λq tp sc st=>ou st λes v _=>oV es λtg z=>iW z (uO P vars q sc t tg&&eA P vars a q false sc v&&(!LH sc v tg||(yS t&&yR a)))
noncomputable def wZ(P:Pg)(vars:List Str)(ts:List MT1)(a:ME)(q:Bool)(sc:Scope)(tgs:List Expr)(v:Expr):Bool:=eA P vars a q false sc v&&pG v&&(match Vj sc tgs v with
  |some none=>yy P vars q sc ts tgs
  |some (some names)=>(match pF ts with
   |some is=>decide (is.map (λi=>vars[i]?)=names.map some)&&names.all (λx=>sc.names.lookup x==some .local)&&tS is
   |none=>false)
  |none=>false)
noncomputable def IM(P:Pg)(vars:List Str)(ts:List MT1)(a:ME):nK:=λq tp sc st=>ou st λes v _=>oV es λe z=>iW z (pI e λtgs _ _=>wZ P vars ts a q sc tgs v)
noncomputable def V4(P:Pg)(vars:List Str)(t:BE)(a:ME):nK:=match t with
 |.one t=>IL P vars t a
 |.tup ts=>IM P vars ts a
noncomputable def IP(P:Pg)(vars:List Str)(a:ME):nK:=λq tp sc st=>zd st λe _=>pG e&&eA P vars a q false sc e
noncomputable def Pn(P:Pg)(vars:List Str)(t:ME)(ca cb:HN):nK:=λq tp sc st=>IX st λte body orelse _=>eA P vars t q true sc te&&ca q tp sc body&&cb q tp sc orelse
noncomputable def DA(P:Pg)(vars:List Str)(t:ME)(cb:HN):nK:=λq tp sc st=>vK st λte body z _=>iW z (eA P vars t q true sc te&&cb q tp sc body)
noncomputable def Pm(P:Pg)(vars:List Str)(xs:List Nat)(k:ItK)(e1 e2:ME)(cb:HN):nK:=λq tp sc st=>DN st λtg iter body z _=>iW z (decide (xs.length=ar k)&&oq iter&&Jq vars sc xs tg&&rC P k (eA P vars e1) (eA P vars e2) e2 q sc iter&&cb (q||isD k) tp sc body)
noncomputable def Pp(P:Pg)(vars:List Str)(a:ME):nK:=λq tp sc st=>ow st λo _=>AK o λe=>eA P vars a q false sc e
noncomputable def IS:nK:=λq tp sc st=>ow st λo _=>F9 o true
noncomputable def Dy(P:Pg):nK:=λq tp sc st=>vI st λo z _=>F9 z (AK o λe=>i5 e λf args kw _=>iW kw (fq f λx _=>oV args λa as=>dC a λv _ _=>GP v (oV as λb z=>iW z (xV b λes _=>oV es λd z=>iW z (dC d λv _ _=>GP v (De sc x&&om (P.gl.lookup x) P.CE))))))
noncomputable def Xz(h:ExceptHandler)(k:Option Expr->Option Str->List Stmt->Pos->Bool):Bool:=match h with | .ExceptHandler a b c d=>k a b c d
@[elab_as_elim] theorem Lk{h:ExceptHandler}{C:ExceptHandler->Prop}{k}(q:Xz h k=true)(f:∀ a b c d,k a b c d=true->C (.ExceptHandler a b c d)):C h:=by
 cases h with|ExceptHandler a b c d=>show f _ _ _ _ q
noncomputable def Pq(P:Pg)(cb ch:HN):nK:=λq tp sc st=>DQ st λbody hs z1 z2 _=>iW z1 (iW z2 (oV hs λh z=>iW z (Xz h λo nm Bc _=>F9 nm (AK o λe=>fq e λx _=>oV Bc λb0 sT=>tp && !q&&De sc x&&om (P.gl.lookup x) P.CE&&cb false true sc body&&ch false true sc (b0::sT)))))
noncomputable def IQ:HN:=λq tp sc Bc=>iW Bc true
noncomputable def Dw(c:nK)(cs:HN):HN:=λq tp sc Bc=>oV Bc λst r=>c q tp sc st&&cs q tp sc r
mutual
noncomputable def RG(P:Pg)(vars:List Str):MS->nK
 |.asg t a=>V4 P vars t a
 |.expr a=>IP P vars a
 |.ite t a b=>Pn P vars t (jh P vars a) (jh P vars b)
 |.while t b=>DA P vars t (jh P vars b)
 |.for xs k e1 e2 b=>Pm P vars xs k e1 e2 (jh P vars b)
 |.ret a=>Pp P vars a
 |.retn=>IS
 |.raise=>Dy P
 |.try b h=>Pq P (jh P vars b) (jh P vars h)
noncomputable def jh(P:Pg)(vars:List Str):MSs->HN
 |.nil=>IQ
 |.cons m ms=>Dw (RG P vars m) (jh P vars ms)
end
noncomputable def Snd(P:Pg)(n:Nat)(Φ:Bool->Phi):Prop:=∀ (c:Cx) (vars:List Str) (hd:Bool),c.P=P->cN c n->gb c hd->c.fz=false->Cal c vars hd Φ
structure uI (c:Cx) (vars:List Str):Prop where
 tp:c.top=true
 out:c.outer=[]
 nc:c.env.cells=[]
 locs:∀ (i:Nat) x,vars[i]?=some x->c.env.kindOf x≠some .cell
structure jX (P:Pg) (n:Nat) (Φ:Bool->Phi):Prop where
 S:Snd P n Φ
 GO:GOk P
 EX:rN P
theorem qB:∀ {ts:List MT1} {is:List Nat},pF ts=some is->ts=is.map .name
 |[],is,h=>by cases h;rfl
 |.name i::r,is,h=>by
  (show bj (aV.mp (show (pF r).map (i::·)=some is from h)) λjs h1 aG=>?_;clear h;subst aG)
  rw[qB h1];rfl
 |.attr ..::r,is,h=>cz h
 |.sub ..::r,is,h=>cz h
theorem AH:∀ {l:List Nat},tS l=true->l.Nodup:=by
 intro l;induction l with
 |nil=>
  intro _;show dX
 |cons x r ih=>
  intro h;have h:=gE.mp (show (!r.contains x&&tS r)=true from h);show aQ.mpr ⟨by simpa using h.1,ih h.2⟩
section
variable {P:Pg} {n:Nat} {Φ:Bool->Phi} {vars:List Str}
theorem AB(g:jX P n Φ)(nd:vars.Nodup){hd:Bool}{c:Cx}(hP:c.P=P)(G:cN c n)(hh:gb c hd):Hyp c vars n hd Φ:=by
 subst hP;show ⟨G,g.GO,hh,nd,λz=>g.S c vars hd rfl G hh z⟩
variable {hd:Bool} {c:Cx} {q tp:Bool} {sc:Scope}
theorem PX(Y:Hyp c vars n hd Φ)(cx:c.env.scope=sc)(hq:q=false->c.fz=false){t:MT1}{tg:Expr}(h:uO c.P vars q sc t tg=true):TG1 c vars Φ hd t tg:=by
 induction t with
 |name i=>
  show cQ h λx _ h=>?_;simp only[ae,beq_iff_eq] at h;show .name h.1 (qw cx h.2).1
 |attr a ci k=>
  show eQ h λo x _ h=>?_;simp only[ae,beq_iff_eq,aP] at h;show .attr (hq h.1.1) h.1.2 λρ=>gW _ Y h.2 cx Y.G.env hq
 |sub a b=>
  show eR h λo i _ h=>?_;simp only[ae,aP] at h;show .sub (hq h.1.1) (λρ=>gW _ Y h.1.2 cx Y.G.env hq) λρ=>gW _ Y h.2 cx Y.G.env hq
theorem PY(Y:Hyp c vars n hd Φ)(cx:c.env.scope=sc)(hq:q=false->c.fz=false):∀ {ts:List MT1} {tgs:List Expr},yy c.P vars q sc ts tgs=true->TGs c vars Φ hd ts tgs
 |[],[],_=>.nil
 |[],_::_,h=>ft h
 |_::_,[],h=>ft h
 |t::ts,e::es,h=>by
  replace h:(uO c.P vars q sc t e&&yy c.P vars q sc ts es)=true:=h
  rw[ae] at h
  show .cons (PX Y cx hq h.1) (PY Y cx hq h.2)
theorem wV(Y:Hyp c vars n hd Φ)(cx:c.env.scope=sc)(hq:q=false->c.fz=false){t:MT1}{a:ME}{tg v:Expr}{pos:Pos}
  (h:(uO c.P vars q sc t tg&&eA c.P vars a q false sc v&&(!LH sc v tg||(yS t&&yR a)))=true) :
  SS c vars (exec (.Assign [tg] v pos) c.env) (λρ H Q E=>wS Φ hd (.asg (.one t) a) ρ H Q E):=by
 clear n Φ vars hd c q sc t a tg v pos _ Y cx hq h;simp only[ae] at h;(show oA h λaG h3=>?_;clear h;obtain ⟨h1,h2⟩:=aG);have ql:swapsWith v (some tg) pos.line c.env=pure (LH sc v tg):=LJ cx Y.G.env.kind;cases hb:LH sc v tg with
 |false=>show Hi Y.G Y.GO Y.nd (PX Y cx hq h1) (hb▸ql) λρ=>gW _ Y h2 cx Y.G.env hq
 |true=>
  rw[hb] at h3 ql;simp only[Bool.not_true,Bool.false_or,ae] at h3;obtain ⟨h3,h4⟩:=h3;cases a with
  |comp xs k e1 e2 cond em=>
   clear h4;induction t with
   |name i=>
    revert ql hb;show cQ (C:=λtg=>swapsWith v (some tg) pos.line c.env=pure true->LH sc v tg=true->SS c vars (exec (.Assign [tg] v pos) c.env) (λρ H Q E=>wS Φ hd (.asg (.one (.name i)) (.comp xs k e1 e2 cond em)) ρ H Q E)) h1 λx p h1 ql hb=>?_;simp only[ae,beq_iff_eq] at h1;replace h2:vD c.P vars xs k (eA c.P vars e1) (eA c.P vars e2) e2 (eA c.P vars cond) cond (eA c.P vars em) q false sc v=true:=h2;simp only[vD,ae,aP] at h2;obtain ⟨⟨h0,_⟩,h⟩:=h2;revert ql hb;show lX (C:=λv=>swapsWith v (some (.Name x p)) pos.line c.env=pure true->LH sc v (.Name x p)=true->SS c vars (exec (.Assign [.Name x p] v pos) c.env) (λρ H Q E=>wS Φ hd (.asg (.one (.name i)) (.comp xs k e1 e2 cond em)) ρ H Q E)) h λelt gs s2 za5 h=>?_;show cP h λg z h=>?_;show bM h λh ql hb=>?_;obtain ⟨tg,iter,ifs,as⟩:=g;simp only[L2,ae,decide_eq_true_eq,aP] at h;obtain ⟨⟨⟨⟨⟨⟨⟨⟨g1,g2⟩,g3⟩,g8⟩,g4⟩,g5⟩,g6⟩,g7⟩,g9⟩:=h;clear h;subst g9;subst cx;have Yf:=Y.frz (isD k);have Kr:isD k=false->(c.frz (isD k)).fz=false:=λz=>by
     change (c.fz||isD k)=false;rw[z,hq h0];rfl
    have Ub:k≠.keys:=by
     clear g4 g7 g6 g5 Yf Kr;rintro rfl;show Q3 g8
    have qg:c.env.kindOf x=some .local:=by
     replace hb:(_&&_&&_)=true:=hb;simp only[ae,beq_iff_eq] at hb;show hb.1.1
    show u7 Y.G Y.nd Y.hh (rY g1) Ub g4 g3 (λdv fc=>tb g2 fc) (λρ=>yT _ _ Y g5 rfl Y.G.env hq) (λdv mr wG fc=>?_) (λdv mr wG fc=>gW em Yf g7 fc wG Kr) h1.1 qg ql;unfold L5 at g6;rw[gP] at g6;rcases g6 with g6|g6
    .show bM g6 λg6=>?_;have:=sC g6;subst this;show sU
    .show cP g6 λx r g6=>?_;show bM g6 λg6=>?_;show sV (ub cond Yf g6 fc wG Kr)
   |attr=>show ft h3
   |sub=>show ft h3
  |_=>show ft h4
theorem wW(Y:Hyp c vars n hd Φ)(cx:c.env.scope=sc)(hq:q=false->c.fz=false){ts:List MT1}{a:ME}{tgs:List Expr}{v:Expr}{k:Nat}{oB pos:Pos}
  (h:wZ c.P vars ts a q sc tgs v=true) :
  SS c vars (exec (.Assign [.Tuple tgs k oB] v pos) c.env) (λρ H Q E=>wS Φ hd (.asg (.tup ts) a) ρ H Q E):=by
 clear n Φ vars hd c q sc ts a tgs v k oB pos _ Y cx hq h;simp only[wZ,ae] at h;(show oA h λaG h3=>?_;clear h;obtain ⟨h1,h2⟩:=aG);have ql:swapsWith v (some (.Tuple tgs k oB)) pos.line c.env=pure false:=tU h2 _ _ _;split at h3
 .rename_i hs;show Hj Y.G Y.GO Y.hh Y.nd (PY Y cx hq h3) ql (Ez cx Y.G.env.kind hs) λρ=>gW _ Y h1 cx Y.G.env hq
 .rename_i names hs;split at h3
  .rename_i is hi;simp only[ae,decide_eq_true_eq,bQ,beq_iff_eq] at h3;(show oA h3 λaG g3=>?_;clear h3;obtain ⟨g1,g2⟩:=aG);rw[qB hi];show Ho Y.G Y.hh Y.nd g1 (λx m=>by change c.env.scope.names.lookup x=_;rw[cx];show g2 x m) (AH g3) ql (Ez cx Y.G.env.kind hs) λρ=>gW _ Y h1 cx Y.G.env hq
  .show ft h3
 .show ft h3
end
noncomputable def M1(P:Pg)(n:Nat)(Φ:Bool->Phi)(vars:List Str)(m:MS):Prop:=∀ {hd:Bool} {c:Cx},c.P=P->cN c n->gb c hd->∀ {q tp:Bool} {sc:Scope} {st:Stmt},RG P vars m q tp sc st=true->c.env.scope=sc->(q=false->c.fz=false)->(tp=true->uI c vars)->
 SS c vars (exec st c.env) (λρ H Q E=>wS Φ hd m ρ H Q E)
noncomputable def M2(P:Pg)(n:Nat)(Φ:Bool->Phi)(vars:List Str)(ms:MSs):Prop:=∀ {hd:Bool} {c:Cx},c.P=P->cN c n->gb c hd->∀ {q tp:Bool} {sc:Scope} {Bc:List Stmt},jh P vars ms q tp sc Bc=true->c.env.scope=sc->(q=false->c.fz=false)->(tp=true->uI c vars)->
 SS c vars (execs Bc c.env) (λρ H Q E=>wSs Φ hd ms ρ H Q E)
section
variable {P:Pg} {n:Nat} {Φ:Bool->Phi} {vars:List Str}
theorem P9(g:jX P n Φ)(nd:vars.Nodup)(t:BE)(a:ME):M1 P n Φ vars (.asg t a):=by
 intro hd c hP G hh q tp sc st h cx hq ht;have Y:=AB g nd hP G hh;clear g;subst hP;induction t with
 |one t=>
  replace h:IL c.P vars t a q tp sc st=true:=h;show n4 h λes v pos h=>?_;show cP h λtg z h=>?_;show bM h λh=>?_;show wV Y cx hq h
 |tup ts=>
  replace h:IM c.P vars ts a q tp sc st=true:=h;show n4 h λes v pos h=>?_;show cP h λe z h=>?_;show bM h λh=>?_;show ml h λtgs k oB h=>?_;show wW Y cx hq h
theorem KP(g:jX P n Φ)(nd:vars.Nodup)(a:ME):M1 P n Φ vars (.expr a):=by
 intro hd c hP G hh q tp sc st h cx hq ht;have Y:=AB g nd hP G hh;clear g;subst hP;replace h:IP c.P vars a q tp sc st=true:=h;show xW h λe _ h=>?_;rw[ae] at h;show Hl G (tT h.1 _ _) λρ=>gW _ Y h.2 cx G.env hq
theorem Pe(g:jX P n Φ)(nd:vars.Nodup)(a:ME):M1 P n Φ vars (.ret a):=by
 intro hd c hP G hh q tp sc st h cx hq ht;have Y:=AB g nd hP G hh;clear g;subst hP;replace h:Pp c.P vars a q tp sc st=true:=h;show n5 h λo _ h=>?_;show jq h λe h=>?_;show LC λρ=>gW _ Y h cx G.env hq
theorem KR:M1 P n Φ vars .retn:=by
 intro hd c hP G hh q tp sc st h cx hq ht;replace h:IS q tp sc st=true:=h;show n5 h λo _ h=>?_;show jr h λh=>?_;show Hm
theorem Pb(g:jX P n Φ)(nd:vars.Nodup)(t:ME)(a b:MSs)(ia:M2 P n Φ vars a)(ib:M2 P n Φ vars b):M1 P n Φ vars (.ite t a b):=by
 intro hd c hP G hh q tp sc st h cx hq ht;have Y:=AB g nd hP G hh;replace h:Pn P vars t (jh P vars a) (jh P vars b) q tp sc st=true:=h;show DP h λte body orelse _ h=>?_;simp only[ae] at h;show LA (λρ=>?_) (ia hP G hh h.1.2 cx hq ht) (ib hP G hh h.2 cx hq ht);clear g ia ib;subst hP;show ub _ Y h.1.1 cx G.env hq
theorem GL(g:jX P n Φ)(nd:vars.Nodup)(t:ME)(b:MSs)(ib:M2 P n Φ vars b):M1 P n Φ vars (.while t b):=by
 intro hd c hP G hh q tp sc st h cx hq ht;have Y:=AB g nd hP G hh;replace h:DA P vars t (jh P vars b) q tp sc st=true:=h;show vL h λte body z _ h=>?_;show bM h λh=>?_;simp only[ae] at h;show Ex (λρ=>?_) (ib hP G hh h.2 cx hq ht);clear g ib;subst hP;show ub _ Y h.1 cx G.env hq
theorem cN.frz{c:Cx}{n:Nat}(G:cN c n)(b:Bool):cN (c.frz b) n:=⟨G.X,G.g,G.b,G.nolimit,G.builtins,⟨G.env.kind,G.env.globals,G.env.builtins,G.env.frame⟩,G.eloc,G.new,G.rootIn,G.ff,G.frames,G.depth,G.units⟩
theorem gb.frz{c:Cx}{hd:Bool}(h:gb c hd)(b:Bool):gb (c.frz b) hd:=by
 induction hd with
 |false=>show h
 |true=>show h
theorem uI.frz{c:Cx}(h:uI c vars)(b:Bool):uI (c.frz b) vars:=⟨h.tp,h.out,h.nc,h.locs⟩
theorem Pa(g:jX P n Φ)(nd:vars.Nodup)(xs:List Nat)(k:ItK)(e1 e2:ME)(b:MSs)(ib:M2 P n Φ vars b):M1 P n Φ vars (.for xs k e1 e2 b):=by
 intro hd c hP G hh q tp sc st h cx hq ht;have Y:=AB g nd hP G hh;replace h:Pm P vars xs k e1 e2 (jh P vars b) q tp sc st=true:=h;show AL h λtg iter body z _ h=>?_;show bM h λh=>?_;simp only[ae,decide_eq_true_eq] at h;(show oA h λaG h5=>?_;clear h;clear g h;obtain ⟨⟨⟨h1,h2⟩,h3⟩,h4⟩:=aG);show Lz G nd hh h1 h2 (tb h3 cx) (λρ=>?_) (ib (c:=c.frz (isD k)) hP (G.frz _) (hh.frz _) h5 cx (λz=>?_) λt=>(ht t).frz _)
 .clear ib h5;subst hP;show yT _ _ Y h4 cx G.env hq
 .rw[Bool.or_eq_false_iff] at z;change (c.fz||isD k)=false;rw[hq z.1,z.2];rfl
theorem GK(g:jX P n Φ):M1 P n Φ vars .raise:=by
 intro hd c hP G hh q tp sc st h cx hq ht;subst hP;replace h:Dy c.P q tp sc st=true:=h;show vJ h λo z _ h=>?_;show jr h λh=>?_;show jq h λe h=>?_;show eC h λf args kw _ h=>?_;show bM h λh=>?_;show cQ h λx _ h=>?_;show cP h λa as h=>?_;show cT h λv _ _ h=>?_;show tX h λs1 h=>?_;show cP h λb z h=>?_;show bM h λh=>?_;show sJ h λes _ h=>?_;show cP h λd z h=>?_;show bM h λh=>?_;show cT h λv _ _ h=>?_;show tX h λs2 h=>?_;simp only[ae] at h;show oA (jk cx h.1) λk1 k2=>?_;intro ρ H own s Q E hs ns w;induction hd with
 |true=>show absurd w.1 (by decide)
 |false=>show Ew G g.GO g.EX hh k1 k2 (l8 h.2) (by have:=G.depth;show li 0x11ffb742c03a1660c20d28120 rfl this) ρ H own s Q E hs ns w
theorem Pf(g:jX P n Φ)(nd:vars.Nodup)(b NX:MSs)(ib:M2 P n Φ vars b)(ih:M2 P n Φ vars NX):M1 P n Φ vars (.try b NX):=by
 clear P n Φ vars b NX _ g nd ib ih;intro hd c hP G hh q tp sc st h cx hq ht;replace h:Pq P (jh P vars b) (jh P vars _) q tp sc st=true:=h;show AM h λbody hs z1 z2 _ h=>?_;show bM h λh=>?_;show bM h λh=>?_;show cP h λeh z h=>?_;show bM h λh=>?_;show Lk h λo nm Bc _ h=>?_;show jr h λh=>?_;show jq h λe h=>?_;show cQ h λx _ h=>?_;show cP h λb0 sT h=>?_;simp only[ae,aP] at h;(show oA h λaG h6=>?_;clear h;obtain ⟨⟨⟨⟨h1,h2⟩,h3⟩,h4⟩,h5⟩:=aG);show oA (jk cx h3) λk1 k2=>?_;have T:=ht h1;intro ρ H own s Q E hs ns w;induction hd with
 |true=>show absurd w.1 (by decide)
 |false=>
  have hv:=l8 h4;have fz:=hq h2;show LD G (hP▸g.GO) (hP▸g.EX) fz hh T.tp T.out T.nc T.locs k1 k2 (by rw[hP];show hv) (λc2 e1 e2 e3 e4 e5 G2 JA=>?_) (λc2 e1 e2 e3 e4 e5 G2 JA=>?_) ρ H own s Q E hs ns w
  .rw[<-e2];show ib (e1.trans hP) G2 JA h5 (by rw[e2];show cx) (λ_=>e4) λ_=>⟨e5.trans T.tp,e3.trans T.out,by rw[e2];show T.nc,λi x q=>by rw[e2];show T.locs i x q⟩
  .rw[<-e2];show ih (e1.trans hP) G2 JA h6 (by rw[e2];show cx) (λ_=>e4) λ_=>⟨e5.trans T.tp,e3.trans T.out,by rw[e2];show T.nc,λi x q=>by rw[e2];show T.locs i x q⟩
theorem Pc:M2 P n Φ vars .nil:=by
 intro hd c hP G hh q tp sc Bc h cx hq ht;replace h:IQ q tp sc Bc=true:=h;show bM h λh=>?_;show LB
theorem KO(m:MS)(ms:MSs)(i:M1 P n Φ vars m)(is:M2 P n Φ vars ms):M2 P n Φ vars (.cons m ms):=by
 intro hd c hP G hh q tp sc Bc h cx hq ht;replace h:Dw (RG P vars m) (jh P vars ms) q tp sc Bc=true:=h;show cP h λst r h=>?_;rw[ae] at h;show Hk (i hP G hh h.1 cx hq ht) (is hP G hh h.2 cx hq ht)
theorem Dn(g:jX P n Φ)(nd:vars.Nodup)(ms:MSs):M2 P n Φ vars ms :=
 MSs.rec (motive_1:=M1 P n Φ vars) (motive_2:=M2 P n Φ vars) (P9 g nd) (KP g nd) (λt a b ia ib=>Pb g nd t a b ia ib) (λt b ib=>GL g nd t b ib) (λxs k e1 e2 b ib=>Pa g nd xs k e1 e2 b ib)
  (Pe g nd) KR (GK g) (λb h ib ih=>Pf g nd b h ib ih) Pc (λm ms i is=>KO m ms i is) ms
end
structure BC (P:Pg):Prop where
 fn:∀ f d,P.Ft f=some d->∃ qual scope body cdv,BB P f d.np qual scope body cdv/\jh P (P.vn f) d.body false false scope body=true
 cls:∀ x ci,P.gl.lookup x=some (.ref (P.C ci))->HO P ci
theorem cN.down{c:Cx}{n:Nat}(G:cN c (n+1)):cN c n:=⟨G.X,G.g,G.b,G.nolimit,G.builtins,G.env,G.eloc,G.new,G.rootIn,G.ff,G.frames,by have:=G.depth;show li 0x47fedd0b306106940e859830e0420d28120 rfl this,by have:=G.units;show li 0x47fedd0b706106a00e85b830e0420d40120 rfl this⟩
theorem GZ{P:Pg}(GO:GOk P)(EX:rN P)(FO:BC P):∀ n,Snd P n (br P.Ft n):=by
 intro n;induction n with
 |zero=>
  intro c vars hd hP G hh fz;show ⟨λenv ρ f vs cvs H own s Q E hE hs ns hv w=>w.elim,λenv ρ ci hx vs cvs H own s Q E hE hs ns hv w=>?_⟩;show (w s.heap.objs.size (hs.none_of (dG (aT _)))).elim
 |succ n ih=>
  intro c vars hd hP G hh fz;have g:jX P n (br P.Ft n):=⟨ih,GO,EX⟩
  subst hP;have dep:=G.depth;have XN:=G.units;show ⟨λenv ρ f vs cvs H own s Q E hE hs ns hv w=>?_,λenv ρ ci hx vs cvs H own s Q E hE hs ns hv w=>?_⟩
  .show hJ (o:=c.P.Ft f) w λd iB w=>?_;show oA w λhl w=>?_;show DG (FO.fn f d iB) λqual scope body cdv MW ck=>?_;show wj (codeAny_mono (rX fz G.down (li 0x11ffb742cc1841a5c0840e859830e0420d28120 rfl dep) (li 0x11ffb742dc1841a8c0940e85b830e0420d40120 rfl XN) hh MW (λc' e1 e2 e3 G' NW=>Dn g MW.nd d.body e1 G' NW ck e2 (λ_=>e3) λz=>ft z) hE hs ns hv hl w) λr s' z=>?_);rcases r with e|(v|_|_|_)<;>show z
  .show oE hx λx hx=>?_;cases hF:c.P.Ft ci with
   |none=>
    have:=w s.heap.objs.size (hs.none_of (dG (aT _)));show hJ (o:=c.P.Ft ci) this λd e _=>by rw[hF] at e;show cz e
   |some d=>
    show DG (FO.fn ci d hF) λqual scope body cdv MW ck=>?_;have hl:vs.length+1=d.np:=by
     have:=w s.heap.objs.size (hs.none_of (dG (aT _)));show hJ (o:=c.P.Ft ci) this λd' e z=>by rw[hF] at e;cases e;show z.1
    show uM fz G.down (li 0x11ffb742cc1841a5c08c0e859830e0420d28120 rfl dep) (li 0x11ffb742dc1841a8c0980e85b830e0420d40120 rfl XN) hh (FO.cls x ci hx) MW (λc' e1 e2 e3 G' NW=>Dn g MW.nd d.body e1 G' NW ck e2 (λ_=>e3) λz=>ft z) hE hs ns hv hl ?_;intro a ha;have:=w a ha;show hJ (o:=c.P.Ft ci) this λd2 h2 z=>by rw[hF] at h2;cases h2;show z.2
theorem LQ{P:Pg}{n f:Nat}{qual:Str}{scope:Scope}{body:List Stmt}{cdv:Value}{mb:MSs}(GO:GOk P)(EX:rN P)(FO:BC P)(FL:BB P f 1 qual scope body cdv)(ck:jh P (P.vn f) mb false true scope body=true)(nc:xR scope=true)
  {cU:Shared} (X:P.K.In cU.heap) (g:cU.heap.Ns mainGlobals P.mg) (b:cU.heap.Ns builtinsNs P.mb) (lim:cU.heap.NoLimit) (bu:∀ x:Str,x≠"__name__"->P.mb x=bootBuiltins x) (low:∃ o,cU.heap.get? cStatics=some o) (gens:cU.gens = #[])
  {l:Addr} {xs:List Value} {vs:List Val} (hl:cU.heap.IsList l xs.toArray) (hv:Vs xs vs) (hn:n<=100)
  (w:wSs (br P.Ft n) false mb (λi=>[Val.ref l][i]?) (upd (λ_=>none) l (.ro vs)) (λr _ _=>r=.ret (.bool true)) (λ_ _=>False)) :
  wpAny (model P.prog P.w) callerA (call (.ref (P.fa f)) [.ref l]) (λv s'=>v=.bool true/\(∀ b o,cU.heap.get? b=some o->s'.heap.get? b=some o)/\s'.os=cU.os/\s'.gens = #[]) (λ_ _=>False) cU:=by
 clear P n f qual scope body cdv mb cU l xs vs _ GO EX FO FL ck nc X g b lim bu low gens hl hv hn w;obtain ⟨⟨name,params,dV,kV,doc,pm,an,ct,oc,od,osl,look,q1,q2,q3,q4,q5,q6⟩,JQ,nd,Uc,kinds,cells,co,gen,kd⟩:=FL;have Rg:∀ x∈scope.names,x.2≠.cell:=λx m=>by
  have:=bQ.mp nc x m;simpa using this
 have It:((P.vn f).take 1).length=1:=by rw[cq];show pR Uc
 have dA:((P.vn f).take 1).Nodup:=nd.sublist (nH _ _);have mU:[cm l].length=((P.vn f).take 1).length:=by rw[It];rfl
 have KL:∀ x∈(P.vn f).take 1,scope.names.lookup x=some .local:=λx m=>(kinds x m).resolve_right λz=>Rg _ (dE z) rfl;have sq:BindsTo cU (fnOf name qual params body scope dV kV doc pm an cdv ct) ⟨[.ref l],[]⟩ (((P.vn f).take 1).zip [.ref l]):=by
  show kg q1 q2 q3 q4 q5 mU dA λM A E Q k=>?_;clear look;rcases q6 with rfl|⟨T,o,items,m,rfl,hT,hd⟩
  .show aK (k none)
  .show wm (X _ _ hT) hd (k _)
 show wj (codeAny_call_def (fd:=fnOf name qual params body scope dV kV doc pm an cdv ct) (body:=body) (by change callerA.depth<1000;decide) (X _ _ look) rfl lim (codeRec_of X JQ) rfl sq Rg (λx hx=>KL _ (j5 hx)) (λh₀ sI fG=>?_) co gen kd);dsimp only at sI fG ⊢;clear mU sq;generalize lJ:callEnv (fnOf name qual params body scope dV kV doc pm an cdv ct) cU.heap.objs.size (P.fa f)=env;have s1:env.scope=scope:=by rw[<-lJ];rfl
 have s2:env.locals=cU.heap.objs.size:=by rw[<-lJ];rfl
 have s3:env.frame=some cU.heap.objs.size:=by rw[<-lJ];rfl
 have s4:env.globals=mainGlobals:=by rw[<-lJ];rfl
 have s5:env.builtins=builtinsNs:=by rw[<-lJ];rfl
 have s6:env.cells=[]:=by rw[<-lJ];rfl
 let c:Cx:={ P:=P,A:=callerA.deeper env,env:=env,outer:=[],h₀:=cU.heap,L:=cU.heap.objs.size,root:=cU.heap,os:=cU.os,fz:=false,top:=true }
 have tu:cU.heap.get? cU.heap.objs.size=none:=dG (aT _)
 have G:cN c n:=⟨X,g,b,lim,bu,⟨by change env.scope.kind=_;rw[s1];show kd,s4,s5,s3⟩,s2,tu,λ_ _ e=>e,trivial,jS (A:=callerA) (outer:=[]) rfl,by
  change callerA.depth+1+3*n<=900
  rw[depth_caller];show li 0x4ffedd0b3061029702185a170110 rfl hn,by
  change (callerA.deeper env).units+20*n<=9000
  rw[units_deeper,units_caller];show aR (Nat.add_le_add_left (yr 20 hn) _) (by decide)⟩
 have dr:h₀.Ns cU.heap.objs.size (λx=>(((P.vn f).take 1).zip [cm l]).reverse.lookup x):=sI;have hs:HS c (upd (λ_=>none) l (.ro vs)) [] { cU with heap:=h₀,toks:=cU.toks+(((P.vn f).take 1).zip [cm l]).length }:=by
  show ⟨⟨λa o e=>?_,λa b' ca la cb lb C C' dx e1 e2=>?_,λb m=>iF m⟩,fG,λ_ _ e=>e,low,FL.of_ns dr,(λb m=>iF m),gens,rfl⟩
  .by_cases q:a=l
   .clear w sI dr;subst q;have:d6.ro vs=o:=by simpa [upd] using e
    clear e;subst this;show ⟨λm=>(iF m),xs,hl,hv⟩
   .simp[upd,q] at e
  .by_cases q:a=l
   .clear hl e2;subst q;simp[upd] at e1
   .simp[upd,q] at e1
 have N:NS c.L c.h₀ (P.vn f) c.env (λi=>[Val.ref l][i]?) [] h₀:=by
  show ⟨⟨_,s2.symm▸dr,λi x e k=>?_⟩,λi x e k=>?_,(λm=>iF m),λx a e=>?_,λx y a e=>?_,by rw[s2];show tu⟩
  .obtain ⟨v0,CI⟩:∃ v0,(P.vn f).take 1=[v0]:=by
    match (P.vn f).take 1,It with
    |[v0],_=>show ⟨v0,rfl⟩
   have i0:(P.vn f)[0]?=some v0:=by
    have:=congrArg (λl=>l[0]?) CI;simpa [List.getElem?_take] using this
   rw[CI];clear CI;cases i with
   |zero=>
    have e':v0=x:=by rw[i0] at e;show aN e
    change rel (wz x [(v0,cm l)]) _;rw[e',bB,beq_self_eq_true];rfl
   |succ i=>
    have cV:x≠v0:=λz=>by
     subst z;have:=(nF (ao.mp e).1 nd).mp (e.trans i0.symm);show li 0x1ffb506a418108110 rfl this
    change rel (wz x [(v0,cm l)]) _;have:(x==v0)=false:=beq_eq_false_iff_ne.mpr cV;simp[rel,wz,this]
  .have k':env.scope.names.lookup x=some .cell:=k;rw[s1] at k';show absurd rfl (Rg _ (dE k'))
  .rw[show c.env.cells=[] from s6] at e;show cz e
  .rw[show c.env.cells=[] from s6] at e;show cz e
 have T:=Dn (P:=P) (n:=n) (Φ:=br P.Ft n) (vars:=P.vn f) ⟨GZ GO EX FO n,GO,EX⟩ nd mb (hd:=false) (c:=c) rfl G (show callerA.handled=none from rfl) ck s1 (λ_=>rfl)
  (λ_=>⟨rfl,rfl,s6,λi x _ k=>by
   have k':env.scope.names.lookup x=some .cell:=k
   rw[s1] at k'
   show Rg _ (dE k') rfl⟩) _ _ _ _ _ _ hs N w
 show aJ T (λfl s' p=>?_) λe s' p=>?_
 ·(show fw p λfo cc H' own' hf ip rD um aG=>?_;clear p;subst aG);cases hf with
  |ret hv=>
   have:=lx hv;clear hv;subst this;show ⟨rfl,ip.stay,ip.os,ip.gens⟩
 ·(show jQ p λ_ _ _ z=>?_;clear p);show z.elim
noncomputable def Gy:Value->Bool
 |.none=>true
 |_=>false
theorem IW{α:Type}{o:Option α}{k:α->Bool}(h:AK o k=true):∃ a,o=some a/\k a=true:=by induction o with
 |none=>show ft h
 |some a=>show ⟨a,rfl,h⟩
noncomputable def DL(d:Data)(k:FuncData->Bool):Bool:=match d with
 |.func fd=>k fd
 |_=>false
theorem DM{d:Data}{k:FuncData->Bool}(h:DL d k=true):∃ a,d=.func a/\k a=true:=by induction d<;>first|show ⟨_,rfl,h⟩|show ft h
noncomputable def ze(d:FuncBody)(k:List Stmt->Bool):Bool:=match d with
 |.stmts b=>k b
 |.expr _=>false
theorem AN{d:FuncBody}{k:List Stmt->Bool}(h:ze d k=true):∃ a,d=.stmts a/\k a=true:=by induction d with
 |stmts b=>show ⟨b,rfl,h⟩
 |expr=>show ft h
noncomputable def onSeq(d:Data):Bool:=match d with
 |.seq _ _=>true
 |_=>false
theorem GQ{d:Data}(h:onSeq d=true):∃ a b,d=.seq a b:=by induction d<;>first|show ⟨_,_,rfl⟩|show ft h
noncomputable def PC(v:Value)(k:Addr->Bool):Bool:=match v with
 |.ref a=>k a
 |_=>false
noncomputable def BU(K:Frag)(v:Value):Bool:=Gy v||PC v λT=>AK (K.lookup T) λo=>onSeq o.data
theorem Aa{K:Frag}{v:Value}(h:BU K v=true):v=.none\/∃ T o items n,v=.ref T/\K.lookup T=some o/\o.data=.seq items n:=by
 induction v with
 |none=>show .inl rfl
 |ref T=>
  show bj (IW (o:=K.lookup T) h) λo ho h=>?_;show wJ (GQ h) λa b e=>?_;show .inr ⟨T,o,a,b,rfl,ho,e⟩
 |_=>show ft h
noncomputable def qD:List Str->Bool
 |[]=>true
 |x::r=>!r.contains x&&qD r
theorem lh:∀ {l:List Str},qD l=true->l.Nodup:=by
 intro l;induction l with
 |nil=>
  intro _;show dX
 |cons x r ih=>
  intro h;have h:=gE.mp (show (!r.contains x&&qD r)=true from h);show aQ.mpr ⟨by simpa using h.1,ih h.2⟩
noncomputable def Sb(P:Pg)(f np:Nat)(mb:MSs)(tp:Bool)(fd:FuncData):Bool:=ze fd.body λbody=>fd.globals==mainGlobals&&fd.closure.isEmpty&&fd.builtins==builtinsNs&&codeIn P.K fd.code fd.qualname&&fd.params.posonlyargs.isEmpty&&fd.params.vararg.isNone&&fd.params.kwonlyargs.isEmpty&&fd.params.kwarg.isNone &&
  decide (fd.params.args.map (·.arg)=(P.vn f).take np)&&BU P.K fd.defaults&&qD (P.vn f)&&decide (np<=(P.vn f).length) &&
  ((P.vn f).take np).all (λx=>fd.scope.names.lookup x==some .local||fd.scope.names.lookup x==some .cell)&&qD ((cellsFrom 0 fd.scope.names []).map (·.1)) &&
  !fd.scope.isCoroutine && !fd.scope.isGenerator&&fd.scope.kind==.function&&(!tp||xR fd.scope)&&jh P (P.vn f) mb false tp fd.scope body
noncomputable def Jy(P:Pg)(f:Nat)(d:t5)(tp:Bool):Bool:=AK (P.K.lookup (P.fa f)) λo=>DL o.data λfd=>Sb P f d.np d.body tp fd
theorem m8{α:Type}{l:List α}(h:l.isEmpty=true):l=[]:=by cases l<;>simp_all
theorem oj{α:Type}{l:Option α}(h:l.isNone=true):l=none:=by induction l<;>simp_all
deriving instance Nonempty for t5
theorem Lj{o:Obj}{fd:FuncData}{body:List Stmt}(hd:o.data=.func fd)(hb:fd.body=.stmts body)(h1:fd.globals=mainGlobals)(h2:fd.closure=[])(h3:fd.builtins=builtinsNs):o=⟨o.cls,o.dict,.func (fnOf fd.name fd.qualname fd.params body fd.scope fd.defaults fd.kwdefaults fd.doc fd.pyModule fd.annotations fd.code fd.closureTuple),o.slots⟩:=by
 obtain ⟨oc,od,odt,osl⟩:=o;obtain ⟨a1,a2,a3,a4,a5,a6,a7,a8,a9,a10,a11,a12,a13,a14,a15⟩:=fd;have hd:odt=_:=hd;subst hd hb h1 h2 h3;rfl
theorem yC{P:Pg}{f:Nat}{d:t5}{tp:Bool}(h:Jy P f d tp=true):∃ qual scope body cdv,BB P f d.np qual scope body cdv/\jh P (P.vn f) d.body false tp scope body=true/\(tp=true->xR scope=true):=by
 clear P f d tp _ h;show bj (IW (o:=P.K.lookup (P.fa f)) h) λo ho h=>?_;show bj (DM (d:=o.data) h) λfd hd h=>?_;show bj (AN (d:=fd.body) h) λbody hb h=>?_;show oA (bA h) λh Z3=>oA (bA h) λh Z2=>oA (bA h) λh Z1=>oA (bA h) λh Z0=>oA (bA h) λh YZ=>oA (bA h) λh YY=>oA (bA h) λh Jz=>oA (bA h) λh YX=>oA (bA h) λh Nr=>oA (bA h) λh Qq=>oA (bA h) λh h9=>oA (bA h) λh h8=>oA (bA h) λh h7=>oA (bA h) λh h6=>oA (bA h) λh h5=>oA (bA h) λh h4=>oA (bA h) λh h3=>oA (bA h) λh1 h2=>?_
 show ⟨fd.qualname,fd.scope,body,fd.code,⟨⟨fd.name,fd.params,fd.defaults,fd.kwdefaults,fd.doc,fd.pyModule,fd.annotations,fd.closureTuple,o.cls,o.dict,o.slots,ho.trans (congrArg some (Lj hd hb (beq_iff_eq.mp h1) (m8 h2) (beq_iff_eq.mp h3))),m8 h5,of_decide_eq_true h9,oj h6,m8 h7,oj h8,Aa Qq⟩,
  h4,lh Nr,of_decide_eq_true YX,λx m=>(lQ.mp (bQ.mp Jz x m)).imp beq_iff_eq.mp beq_iff_eq.mp,lh YY,bF YZ,bF Z0,beq_iff_eq.mp Z1⟩,Z3,λt=>(lQ.mp Z2).resolve_left λz=>by rw[t] at z;show ft z⟩
noncomputable def strOf(v:Value):Option Str:=match v with
 |.str x _=>some x
 |_=>none
noncomputable def BW(es:Array DictEntry):List (Str×Value):=es.toList.filterMap λe=>(strOf e.key).map λx=>(x,e.val)
noncomputable def w9(es:Array DictEntry):Bool:=es.toList.all λe=>match e.key with
 |.str _ _=>true
 |_=>false
theorem oW{es:Array DictEntry}(h:w9 es=true):StrKeys es:=λe m=>by
 have:=bQ.mp h e (uo.mpr m);split at this
 .rename_i x t q;show ⟨x,t,q⟩
 .show ft this
theorem isStr_of{v:Value}{x:Str}:v.isStr x=(strOf v).elim false λy=>y==x:=by induction v<;>rfl
theorem xe{es:Array DictEntry}{x:Str}{v:Value}(h:(BW es).lookup x=some v):nsFind es x=some v:=by
 obtain ⟨l⟩:=es;change (Array.find? _ l.toArray).map _=_;rw[List.find?_toArray];change (l.filterMap λe=>(strOf e.key).map λx=>(x,e.val)).lookup x=some v at h;induction l with
 |nil=>show cz h
 |cons e r ih=>
  rw[gR];change Option.map _ (match e.key.isStr x with|true=>some e|false=>_)=_;rw[isStr_of];cases q:strOf e.key with
  |none=>
   rw[List.filterMap_cons_none (by rw[q];rfl)] at h;show ih h
  |some y=>
   rw[List.filterMap_cons_some (b:=(y,e.val)) (by rw[q];rfl),bB] at h;cases z:y==x with
   |true=>
    rw[beq_iff_eq.mp z,beq_self_eq_true] at h;change (match y==x with|true=>some e|false=>_).map _=_;rw[z];show h
   |false=>
    have z2:(x==y)=false:=beq_eq_false_iff_ne.mpr λw=>beq_eq_false_iff_ne.mp z w.symm;rw[z2] at h;change (match y==x with|true=>some e|false=>_).map _=_;rw[z];show ih h
def VW:List Addr:=[55,112,62,69,76,83,90,119,126,133,140,154,175,182,189,196,203,210,217,222,227,232,237,242,249,256,263,268,275,280,287,294,301,308,315,322,329,336,343,350,357,362,369,376,381,388,393]
noncomputable def vnL:List (List Str):=l3 (l3 jO) [["self","number","sort","parent"],
 ["self","width","height","buffer","least_width","least_height","first"],
 ["self","axis"],
 ["self","axis","size"],
 ["self","axis"],
 ["self"],
 ["self","told"],
 ["self","sort","parent","found"],
 ["self","number","found"],
 ["self","number","found"],
 ["self","number"],
 ["self","axis"],
 ["sort"],
 ["axis"],
 ["tree","number","found","waiting","here"],
 ["tree"],
 ["tree","number","found","waiting","here"],
 ["tree","old","new","parent","children"],
 ["tree","number","own"],
 ["tree","number","axis","found","own","here","child"],
 ["tree","number","axis","found","own","here","child"],
 ["total","weights","leasts","room","whole","found","weight","least","rest","at","own"],
 ["total","weights","leasts","fixed","free","room","some","short","found","at","own"],
 ["tree","number","axis","size","waiting","here","own","much","leasts","spare","child","part","least"],
 ["tree","waiting","here","child","number","left","top"],
 ["tree","number","axis","here","parent"],
 ["tree","number","here","children","at"],
 ["tree","number","axis","own"],
 ["tree","number","axis","delta","own","here","left","other","size","part"],
 ["tree","number","own","here","axis","weights","leasts","child","part"],
 ["tree","width","height"],
 ["tree","number","here","axis","at","child","own"],
 ["tree","root","found","number","word"],
 ["tree","number","size","axis","whole","new","old"],
 ["tree","number","axis","here","around"],
 ["tree","number","size","axis","is_ahead","old","new","parent","model","found","children","at"],
 ["tree","number","here","found","child","own"],
 ["tree","number","here","left"],
 ["tree","numbers","found","number"],
 ["tree","number","here","parent","axis","at","other","size","is_gone"],
 ["tree","number","here","root","width","height","own"],
 ["tree","number","made","own","here","nodes","child"],
 ["tree","root"],
 ["deck","many"],
 ["tree","wide","high","known","number","shown_window","other","left","top","right","bottom","own"],
 ["deck","tree","size","numbers","many","way","number","axis","part","gone"],
 ["script","deck","cell","size","tree","lap","ahead","many","answer"]]
def zG:List Str:=["number","sort","parent","children","left","top","width","height","buffer","start","point","hscroll","is_dedicated","use_time","earlier","later"]
def zx:List Str:=["windows","last","clock","least_width","least_height","root","selected"]
def V3:List ((Nat×Str)×Nat):=[((0,"size"),2),((0,"set_size"),3),((0,"place"),4),((0,"shown"),5),((0,"show"),6),((1,"fresh"),7),((1,"window"),8),((1,"leaf"),9),((1,"touch"),10),((1,"least_leaf"),11)]
def Qa:Addr:=93
def Qb:Addr:=164
def Vz:Addr:=38
def Y9:Addr:=35
noncomputable def FC(K:Frag):Array DictEntry:=match K.lookup mainGlobals with
 |some o=>(match o.data with
  |.dict es _=>es
  |_=>#[])
 |none=>#[]
def Qe:List (Str×Value):=[("len",.builtin "len"),("sum",.builtin "sum"),("max",.builtin "max"),("min",.builtin "min"),("list",.type "list"),("tuple",.type "tuple"),("sorted",.builtin "sorted"),("abs",.builtin "abs"),
 ("zip",.type "zip"),("enumerate",.type "enumerate"),("range",.type "range")]
noncomputable def PP(K:Frag)(p:Program)(w:World)(mb:Str->Option Value):Pg where
 prog:=p
 w:=w
 K:=K
 loose:=[]
 mg:=λx=>nsFind (FC K) x
 mb:=mb
 C:=λi=>[Qa,Qb].getD i 0
 CE:=Vz
 at_:=λi=>[zG,zx].getD i []
 Ft:=Fn
 fa:=λf=>VW.getD f 55
 vn:=λf=>vnL.getD f []
 gl:=BW (FC K)
 bl:=Qe
 mt:=λc x=>V3.lookup (c,x)
noncomputable def Pk(K:Frag)(C:Addr)(at_:List Str)(x:Str)(f:Addr):Bool:=!at_.contains x&&keepIn K (.ref f)&&(findIn K (.ref C) "__getattribute__" == some (some (.builtin "object.__getattribute__"))) &&
  (findIn K (.ref C) "__getattr__" == some none)&&(findIn K (.ref C) x==some (some (.ref f)))&&(typeIn K (.ref f)==some (.type "function"))
noncomputable def BP(K:Frag)(C f:Addr):Bool:=makesIn K C&&(findIn K (.ref C) "__init__" == some (some (.ref f)))&&(typeIn K (.ref f)==some (.type "function"))
noncomputable def vG(K:Frag)(p:Program)(w:World)(mb:Str->Option Value):Bool:=(Q7.zipIdx.all λq=>Jy (PP K p w mb) q.2 q.1 false)&&Jy (PP K p w mb) 46 ⟨1,yA⟩ true &&
 (zG.all λx=>attrOk K Qa x)&&(zx.all λx=>attrOk K Qb x)&&(VW.all λa=>keepIn K (.ref a))&&keepIn K (.ref Qa)&&keepIn K (.ref Qb)&&keepIn K (.ref Vz) &&
 ((BW (FC K)).all λq=>!om (some q.2) 0)&&(Qe.all λq=>(nsFind (FC K) q.1).isNone) &&
 (V3.all λq=>Pk K ((PP K p w mb).C q.1.1) ((PP K p w mb).at_ q.1.1) q.1.2 ((PP K p w mb).fa q.2))&&BP K Qa 55&&BP K Qb 112 &&
 w9 (FC K)&&nsFind (FC K) "law" == some (.ref 393)
theorem Cb{α:Type}{p:α->Prop}{l:List α}{d:α}(h:∀ x∈l,p x)(hd:p d)(i:Nat):p (l.getD i d):=by
 rw[List.getD_eq_getElem?_getD];cases e:l[i]? with
 |none=>show hd
 |some x=>show h x (aw e)
theorem hM{α β:Type}[BEq α][LawfulBEq α]{l:List (α×β)}{x:α}{v:β}(h:l.lookup x=some v):(x,v)∈l:=by
 induction l with
 |nil=>cases h
 |cons q r ih=>
  obtain ⟨y,u⟩:=q;rw[bB] at h;cases e:x==y with
  |true=>rw[e] at h;cases h;rw[beq_iff_eq.mp e];show .head _
  |false=>rw[e] at h;show .tail _ (ih h)
section
variable {K:Frag} {p:Program} {w:World} {mb:Str->Option Value}
theorem Pw{x:Str}{v:Value}(c:vG K p w mb=true)(h:(PP K p w mb).gl.lookup x=some v):v≠.ref 0:=λz=>by
 subst z;simp only[vG,ae] at c;show absurd (bQ.mp c.1.1.1.1.1.1.2 _ (hM h)) ei
theorem YU(c:vG K p w mb=true)(hb:∀ x:Str,x≠"__name__"->mb x=bootBuiltins x):GOk (PP K p w mb):=by
 have nz:∀ {x v},(PP K p w mb).gl.lookup x=some v->v≠.ref 0:=Pw c;simp only[vG,ae] at c;obtain ⟨⟨⟨⟨⟨⟨⟨⟨⟨⟨⟨⟨⟨⟨_,_⟩,c3⟩,c4⟩,c5⟩,c6⟩,c7⟩,_⟩,_⟩,Ml⟩,Yb⟩,_⟩,_⟩,_⟩,_⟩:=c;show ⟨⟨λc k x h=>?_,λc=>?_,λc=>?_⟩,λx v h=>xe h,λx v h=>?_,λx f _=>Cb (p:=λa=>keepIn K (.ref a)=true) (λx m=>bQ.mp c5 x m) (bQ.mp c5 55 (by decide)) f,λx c h=>?_,λx c f h=>?_⟩
 .match c with
  |0=>show bQ.mp c3 x (aw h)
  |1=>show bQ.mp c4 x (aw h)
  |n+2=>cases h
 .match c with
  |0=>show lh (l:=zG) (by decide +kernel)
  |1=>show lh (l:=zx) (by decide +kernel)
  |n+2=>show dX
 .match c with
  |0=>change zG.length<=100;decide
  |1=>change zx.length<=100;decide
  |n+2=>show cB _
 .have m:=hM (l:=Qe) h;have n:=bQ.mp Ml _ m;show ⟨oj n,?_⟩;change mb x=some v;simp only[Qe,ag,bW,or_false,il] at m;rcases m with ⟨rfl,rfl⟩|⟨rfl,rfl⟩|⟨rfl,rfl⟩|⟨rfl,rfl⟩|⟨rfl,rfl⟩|⟨rfl,rfl⟩|⟨rfl,rfl⟩|⟨rfl,rfl⟩|⟨rfl,rfl⟩|⟨rfl,rfl⟩|⟨rfl,rfl⟩<;>(rw[hb _ (by decide)];boot_by_name)
 .match c with
  |0=>show c6
  |1=>show c7
  |n+2=>show absurd rfl (nz h)
 .have m:=hM (l:=V3) h;have n:=bQ.mp Yb _ m;simp only[Pk,ae,beq_iff_eq,aP] at n;show ⟨n.1.1.1.1.1,n.1.1.1.1.2,n.1.1.1.2,n.1.1.2,n.1.2,n.2⟩
theorem YR(c:vG K p w mb=true):BC (PP K p w mb):=by
 have nz:∀ {x v},(PP K p w mb).gl.lookup x=some v->v≠.ref 0:=Pw c;simp only[vG,BP,ae,beq_iff_eq] at c;obtain ⟨⟨⟨⟨⟨⟨⟨⟨⟨⟨⟨⟨⟨⟨c1,_⟩,_⟩,_⟩,_⟩,_⟩,_⟩,_⟩,_⟩,_⟩,_⟩,RA⟩,HW⟩,_⟩,_⟩:=c;show ⟨λf d h=>?_,λx ci h=>?_⟩
 .have h:Q7[f]?=some d:=h;have m:(d,f)∈Q7.zipIdx:=by rw[pq];show h
  obtain ⟨qual,scope,body,cdv,a,b,_⟩:=yC (bQ.mp c1 _ m);show ⟨qual,scope,body,cdv,a,b⟩
 .match ci with
  |0=>show ⟨RA.1.1,RA.1.2,RA.2⟩
  |1=>show ⟨HW.1.1,HW.1.2,HW.2⟩
  |n+2=>show absurd rfl (nz h)
end
def Fj:Prop:=∀ (zs:List Int) (l:Nat),zs.length<=63->wSs (br Fn 30) false yA (λi=>[Val.ref l][i]?) (upd (λ_=>none) l (.ro (zs.map .int))) (λr _ _=>r=.ret (.bool true)) (λ_ _=>False)
theorem Ns.unique{h:Heap}{a:Addr}{m m':Str->Option Value}(x:h.Ns a m)(y:h.Ns a m')(n:Str):m n=m' n:=by
 obtain ⟨o,es,ep,e,d,_,f⟩:=x;obtain ⟨o',rv,VN,e',d',_,f'⟩:=y;rw[e] at e';cases e';rw[d] at d';cases d';rw[<-f,f']
theorem Gx{xs:List Value}{l:List Int}(I:IntsAre xs l):Vs xs (l.map .int):=by
 induction I with
 |nil=>show .nil
 |cons n t _ ih=>show .cons rfl ih
theorem GD{K:Frag}{p:Program}{w:World}{mb:Str->Option Value}{cU:Shared}{l:Addr}{xs:List Value}{zs:List Int}{fa:Addr}{mg:Str->Option Value}(hW:Fj)(KX:K.In cU.heap)(c:vG K p w mb=true)(eo:rN (PP K p w mb))(hG:∃ o es ep,K.lookup mainGlobals=some o/\o.data=.dict es ep)
  (hg:cU.heap.Ns mainGlobals mg) (hm:mg "law" = some (.ref fa)) (b:cU.heap.Ns builtinsNs mb) (lim:cU.heap.NoLimit) (bu:∀ x:Str,x≠"__name__"->mb x=bootBuiltins x) (low:∃ mc,cU.heap.Ns cStatics mc/\True) (gens:cU.gens = #[])
  (hl:cU.heap.IsList l xs.toArray) (I:IntsAre xs zs) (hz:zs.length<=63) :
  wpAny (model p w) callerA (call (.ref fa) [.ref l]) (λv s'=>v=.bool true/\(∀ b o,cU.heap.get? b=some o->s'.heap.get? b=some o)/\s'.os=cU.os/\s'.gens = #[]) (λ_ _=>False) cU:=by
 have C:=c;simp only[vG,ae,beq_iff_eq] at C;obtain ⟨⟨⟨_,c2⟩,Yc⟩,Yd⟩:=(⟨⟨⟨trivial,C.1.1.1.1.1.1.1.1.1.1.1.1.1.2⟩,C.1.2⟩,C.2⟩:((True/\_)/\_)/\_)
 obtain ⟨o,es,ep,e,d⟩:=hG;have G:FC K=es:=by simp[FC,e,d]
 have gn:cU.heap.Ns mainGlobals (λx=>nsFind (FC K) x):=⟨o,es,ep,KX _ _ e,d,by rw[<-G];show oW Yc,λx=>by rw[G]⟩
 have fe:fa=393:=by
  have:=Ns.unique hg gn "law";rw[hm,Yd] at this;cases this;rfl
 subst fe;obtain ⟨qual,scope,body,cdv,FL,ck,nc⟩:=yC c2;show LQ (P:=PP K p w mb) (n:=30) (f:=46) (YU c bu) eo (YR c) FL ck (nc rfl) KX gn b lim bu ?_ gens hl (Gx I) (by decide) (hW zs l hz);obtain ⟨mc,⟨o,_,_,e,_⟩,_⟩:=low;show ⟨o,e⟩
end
set_option maxHeartbeats 4000000
theorem af{α:Type}(f:Nat->Option α)(i:Nat)(v:α):upd f i v i=some v:=by simp[upd]
theorem aj{α:Type}{f:Nat->Option α}{i j:Nat}{v:α}(h:j≠i):upd f i v j=f j:=by simp[upd,h]
section
variable {Φ:Bool->Phi} {hd:Bool} {ρ:Sto} {H:MH} {Q:PQ} {E:MH->Prop} {QS:SQ} {ES:Sto->MH->Prop}
theorem cf{v:Val}(h:Q v H):wE Φ hd (.cst v) ρ H Q E:=h
theorem aO{i:Nat}{v:Val}(e:ρ i=some v)(h:Q v H):wE Φ hd (.var i) ρ H Q E:=o9 (k:=λv=>Q v H) e h
theorem gD{o:Bop}{a b:ME}(h:wE Φ hd a ρ H (λx H=>wE Φ hd b ρ H (λy H=>binop o x y H Q) E) E):wE Φ hd (.bin o a b) ρ H Q E:=h
theorem qT{o:Cop}{a b:ME}(h:wE Φ hd a ρ H (λx H=>wE Φ hd b ρ H (λy H=>gy o x y H (λr=>Q (.bool r) H)) E) E):wE Φ hd (.cmp o a b) ρ H Q E:=h
theorem EM{a:ME}(h:wE Φ hd a ρ H (λx H=>Q (.bool x.isN) H) E):wE Φ hd (.isNone a) ρ H Q E:=h
theorem sX{a:ME}(h:wE Φ hd a ρ H (λx H=>Q (.bool (!x.isN)) H) E):wE Φ hd (.notNone a) ρ H Q E:=h
theorem fs{e:ME}{c k:Nat}(h:wE Φ hd e ρ H (λx H=>getattr x c k H Q) E):wE Φ hd (.attr e c k) ρ H Q E:=h
theorem fj{a b:ME}(h:wE Φ hd a ρ H (λx H=>wE Φ hd b ρ H (λy H=>item x y H Q) E) E):wE Φ hd (.idx a b) ρ H Q E:=h
theorem J7{a:ME}(h:wE Φ hd a ρ H (λx H=>Lq x H Q) E):wE Φ hd (.rev a) ρ H Q E:=h
theorem Me{a b:ME}(h:wE Φ hd a ρ H (λx H=>wE Φ hd b ρ H (λy H=>C5 x y H Q) E) E):wE Φ hd (.drop a b) ρ H Q E:=h
theorem EO{a b:ME}(h:wE Φ hd a ρ H (λx H=>wE Φ hd b ρ H (λy H=>zD x y H Q) E) E):wE Φ hd (.take a b) ρ H Q E:=h
theorem oC{es:MEs}(h:wEs Φ hd es ρ H (λvs H=>vs.length<=lim/\alloc (.list vs) H Q) E):wE Φ hd (.list es) ρ H Q E:=h
theorem J8{es:MEs}(h:wEs Φ hd es ρ H (λvs H=>vs.length<=lim/\alloc (.tup vs) H Q) E):wE Φ hd (.tup es) ρ H Q E:=h
theorem zK(h:∀ c,H c=none->Q (.ref c) (upd H c (.dict []))):wE Φ hd .dict0 ρ H Q E:=h
theorem x_call{f:Nat}{es:MEs}(h:wEs Φ hd es ρ H (λvs H=>Φ hd f vs H Q E) E):wE Φ hd (.call f es) ρ H Q E:=h
theorem lz{f:Bi}{es:MEs}(h:wEs Φ hd es ρ H (λvs H=>bi hd f vs H Q) E):wE Φ hd (.bcall f es) ρ H Q E:=h
theorem uf{c f:Nat}{o:ME}{es:MEs}(h:wE Φ hd o ρ H (λx H=>(rf x).elim False λp=>(ins (H p)).elim False λq=>q.1=c/\wEs Φ hd es ρ H (λvs H=>Φ hd f (.ref p::vs) H Q E) E) E):wE Φ hd (.mcall c f o es) ρ H Q E:=h
theorem tP{p:Nat}{c:Nat}{l:List Val}{A:Nat->Prop}(e:H p=some (.inst c l))(h:A p):(rf (.ref p)).elim False λp=>(ins (H p)).elim False λq=>q.1=c/\A p:=yQ (ki:=λq=>q.1=c/\A p) e ⟨rfl,h⟩
theorem nC{m:Lm}{o:ME}{es:MEs}(h:wE Φ hd o ρ H (λx H=>sF m x H/\wEs Φ hd es ρ H (λvs H=>lm m x vs H Q) E) E):wE Φ hd (.lcall m o es) ρ H Q E:=h
theorem EN{c:Nat}{es:MEs}(h:wEs Φ hd es ρ H (λvs H=>∀ a,H a=none->Φ hd c (.ref a::vs) (upd H a (.inst c [])) (λr H=>r=.none/\Q (.ref a) H) E) E):wE Φ hd (.new c es) ρ H Q E:=h
theorem cy{Q:List Val->MH->Prop}(h:Q [] H):wEs Φ hd .nil ρ H Q E:=h
theorem bx{e:ME}{es:MEs}{Q:List Val->MH->Prop}(h:wE Φ hd e ρ H (λv H=>wEs Φ hd es ρ H (λvs H=>Q (v::vs) H) E) E):wEs Φ hd (.cons e es) ρ H Q E:=h
theorem Jj{A B:Prop}(h:A):bv (.bool true) A B:=by unfold bv;show h
theorem rq{A B:Prop}(h:B):bv (.bool false) A B:=by unfold bv;show h
theorem bP{b:Bool}{A B:Prop}(h1:b=true->A)(h2:b=false->B):bv (.bool b) A B:=by
 unfold bv;induction b with
 |true=>show h1 rfl
 |false=>show h2 rfl
theorem Q2{t a b:ME}(h:wE Φ hd t ρ H (λc H=>bv c (wE Φ hd a ρ H Q E) (wE Φ hd b ρ H Q E)) E):wE Φ hd (.ife t a b) ρ H Q E:=h
theorem J6{a:ME}(h:wE Φ hd a ρ H (λc H=>bq c λb=>Q (.bool (!b)) H) E):wE Φ hd (.not a) ρ H Q E:=h
theorem Xu{b:Bool}(h:Q (.bool (!b)) H):bq (.bool b) λb=>Q (.bool (!b)) H:=h
theorem Md{es:MEs}(h:ph Φ hd es ρ H (λb H=>Q (.bool b) H) E):wE Φ hd (.andl es) ρ H Q E:=h
theorem zN{es:MEs}(h:zH Φ hd es ρ H (λb H=>Q (.bool b) H) E):wE Φ hd (.orl es) ρ H Q E:=h
theorem Mb{Q:Bool->MH->Prop}(h:Q true H):ph Φ hd .nil ρ H Q E:=h
theorem Mc{e:ME}{es:MEs}{Q:Bool->MH->Prop}(h:wE Φ hd e ρ H (λc H=>bv c (ph Φ hd es ρ H Q E) (Q false H)) E):ph Φ hd (.cons e es) ρ H Q E:=h
theorem zM{Q:Bool->MH->Prop}(h:Q false H):zH Φ hd .nil ρ H Q E:=h
theorem qU{e:ME}{es:MEs}{Q:Bool->MH->Prop}(h:wE Φ hd e ρ H (λc H=>bv c (Q true H) (zH Φ hd es ρ H Q E)) E):zH Φ hd (.cons e es) ρ H Q E:=h
theorem lY(h:QS .next ρ H):wSs Φ hd .nil ρ H QS ES:=h
theorem bY{s:MS}{ss:MSs}(h:wS Φ hd s ρ H (λf ρ H=>Flo.rec (motive:=λ_=>Prop) (wSs Φ hd ss ρ H QS ES) (λv=>QS (.ret v) ρ H) f) ES):wSs Φ hd (.cons s ss) ρ H QS ES:=h
theorem Ee{e:ME}(h:wE Φ hd e ρ H (λv H=>QS (.ret v) ρ H) (ES ρ)):wS Φ hd (.ret e) ρ H QS ES:=h
theorem Lv(h:QS (.ret .none) ρ H):wS Φ hd .retn ρ H QS ES:=h
theorem gO{i:Nat}{e:ME}(h:wE Φ hd e ρ H (λv H=>QS .next (upd ρ i v) H) (ES ρ)):wS Φ hd (.asg (.one (.name i)) e) ρ H QS ES:=h
theorem gf{o e:ME}{c k:Nat}(h:wE Φ hd e ρ H (λv H=>wE Φ hd o ρ H (λx H=>setattr x c k v H (λH=>QS .next ρ H)) no) (ES ρ)):wS Φ hd (.asg (.one (.attr o c k)) e) ρ H QS ES:=h
theorem J3{a b e:ME}(h:wE Φ hd e ρ H (λv H=>wE Φ hd a ρ H (λx H=>wE Φ hd b ρ H (λy H=>lp x y v H (λH=>QS .next ρ H)) no) no) (ES ρ)):wS Φ hd (.asg (.one (.sub a b)) e) ρ H QS ES:=h
theorem J4{tg:List MT1}{e:ME}(h:wE Φ hd e ρ H (λv H=>hd=false/\(rf v).elim False λp=>(ts (H p)).elim False λvs=>vs.length=tg.length/\nZ Φ hd tg vs ρ H (λρ H=>QS .next ρ H)) (ES ρ)):wS Φ hd (.asg (.tup tg) e) ρ H QS ES:=h
theorem fY{p:Nat}{tg:List MT1}{vs:List Val}{K:Sto->MH->Prop}(e:H p=some (.tup vs))(bO:hd=false)(hl:vs.length=tg.length)(h:nZ Φ hd tg vs ρ H K):hd=false/\(rf (.ref p)).elim False λp=>(ts (H p)).elim False λvs=>vs.length=tg.length/\nZ Φ hd tg vs ρ H K :=
 ⟨bO,HF (kl:=λvs=>vs.length=tg.length/\nZ Φ hd tg vs ρ H K) e ⟨hl,h⟩⟩
theorem HU{K:Sto->MH->Prop}(h:K ρ H):nZ Φ hd [] [] ρ H K:=h
theorem t7{t:MT1}{ts:List MT1}{v:Val}{vs:List Val}{K:Sto->MH->Prop}(h:wU Φ hd t v ρ H (λρ H=>nZ Φ hd ts vs ρ H K)):nZ Φ hd (t::ts) (v::vs) ρ H K:=h
theorem t8{i:Nat}{v:Val}{K:Sto->MH->Prop}(h:K (upd ρ i v) H):wU Φ hd (.name i) v ρ H K:=h
theorem Jg{e:ME}{c k:Nat}{v:Val}{K:Sto->MH->Prop}(h:wE Φ hd e ρ H (λx H=>setattr x c k v H (λH=>K ρ H)) no):wU Φ hd (.attr e c k) v ρ H K:=h
theorem N4{a b:ME}{v:Val}{K:Sto->MH->Prop}(h:wE Φ hd a ρ H (λx H=>wE Φ hd b ρ H (λy H=>lp x y v H (λH=>K ρ H)) no) no):wU Φ hd (.sub a b) v ρ H K:=h
theorem u5{e:ME}(h:wE Φ hd e ρ H (λ_ H=>QS .next ρ H) (ES ρ)):wS Φ hd (.expr e) ρ H QS ES:=h
theorem zt{t:ME}{a b:MSs}(h:wE Φ hd t ρ H (λc H=>bv c (wSs Φ hd a ρ H QS ES) (wSs Φ hd b ρ H QS ES)) (ES ρ)):wS Φ hd (.ite t a b) ρ H QS ES:=h
theorem gZ(h1:hd=false)(h:ES ρ H):wS Φ hd .raise ρ H QS ES:=⟨h1,h⟩
theorem jx{x y:Int}(h:Q (.int (x+y)) H):binop .add (.int x) (.int y) H Q:=h
theorem mJ{x y:Int}(h:Q (.int (x-y)) H):binop .sub (.int x) (.int y) H Q:=h
theorem pV{x y:Int}(h1:small x)(h2:small y)(h:Q (.int (x*y)) H):binop .mul (.int x) (.int y) H Q:=⟨h1,h2,h⟩
theorem wX{x y:Int}(h1:y≠0)(h2:y.natAbs<1000000000)(h:Q (.int (x.fdiv y)) H):binop .fdiv (.int x) (.int y) H Q:=⟨h1,h2,h⟩
theorem VD{x y:Int}(h1:y≠0)(h:Q (.int (x.fmod y)) H):binop .mod (.int x) (.int y) H Q:=⟨h1,h⟩
theorem N6{p q:Nat}{xs ys:List Val}(e1:H p=some (.list xs))(e2:H q=some (.list ys))(h1:xs.length+ys.length<=lim)(h:∀ c,H c=none->Q (.ref c) (upd H c (.list (xs++ys)))):binop .add (.ref p) (.ref q) H Q:=fD e1 (fD e2 ⟨h1,h⟩)
theorem HV{p:Nat}{v:Val}{n:Int}(e1:H p=some (.list [v]))(h1:0<=n)(h2:n<=lim)(h:∀ c,H c=none->Q (.ref c) (upd H c (.list (bf n.toNat v)))):binop .mul (.ref p) (.int n) H Q:=fD e1 ⟨⟨h1,h2⟩,h⟩
variable {R:Bool->Prop}
theorem Jm{x y:Int}(h:R (decide (x=y))):gy .eq (.int x) (.int y) H R:=h
theorem N9{x y:Int}(h:R (!decide (x=y))):gy .ne (.int x) (.int y) H R:=h
theorem RF{x y:Int}(h:R (decide (x<y))):gy .lt (.int x) (.int y) H R:=h
theorem RD{x y:Int}(h:R (decide (x<=y))):gy .le (.int x) (.int y) H R:=h
theorem RC{x y:Int}(h:R (decide (y<x))):gy .gt (.int x) (.int y) H R:=h
theorem RB{x y:Int}(h:R (decide (y<=x))):gy .ge (.int x) (.int y) H R:=h
theorem eS(l:List Int):gC (l.map .int)=some l:=by
 induction l with
 |nil=>rfl
 |cons x r ih=>change (gC (r.map .int)).bind (λl=>some (x::l))=_;rw[ih];rfl
theorem HX{x:Int}{q:Nat}{l:List Int}(e:H q=some (.list (l.map .int)))(h1:l.length<=lim)(h:R (decide (x∈l))):gy .isin (.int x) (.ref q) H R:=fD e (by
 rw[J,eS]
 show ⟨h1,?_⟩
 change R (l.contains x)
 rw[show l.contains x=decide (x∈l) by simp]
 show h)
theorem BO{x:Int}{q:Nat}{l:List Int}(e:H q=some (.list (l.map .int)))(h1:l.length<=lim)(h:R (!decide (x∈l))):gy .notin (.int x) (.ref q) H R:=fD e (by
 rw[J,eS]
 show ⟨h1,?_⟩
 change R (!l.contains x)
 rw[show l.contains x=decide (x∈l) by simp]
 show h)
theorem uL{p q:Nat}{xs:List Val}(e1:H p=some (.list xs))(e2:H q=some (.list []))(h1:xs.length<=lim)(h:R (!decide (xs=[]))):gy .ne (.ref p) (.ref q) H R:=fD e1 (fD e2 (by
 show ⟨h1,cB _,?_⟩
 clear e1 h1
 cases xs with
 |nil=>change ite _ _ _;rw[if_pos rfl];show h
 |cons x r=>simpa [og] using h))
theorem N8{p q:Nat}{xs:List Val}(e1:H p=some (.list xs))(e2:H q=some (.list []))(h1:xs.length<=lim)(h:R (decide (xs=[]))):gy .eq (.ref p) (.ref q) H R:=fD e1 (fD e2 (by
 show ⟨h1,cB _,?_⟩
 clear e1 h1
 cases xs with
 |nil=>change ite _ _ _;rw[if_pos rfl];show h
 |cons x r=>simpa [og] using h))
theorem f7{p c k:Nat}{l:List Val}{v:Val}(e:H p=some (.inst c l))(e2:l[k]?=some v)(h:Q v H):getattr (.ref p) c k H Q:=yQ e ⟨rfl,o9 e2 h⟩
theorem cW{p:Nat}{vs:List Val}{i:Int}{v:Val}(e:H p=some (.list vs))(h0:0<=i)(h1:i<lim)(e2:vs[i.toNat]?=some v)(h:Q v H):item (.ref p) (.int i) H Q:=fD e ⟨h0,h1,o9 e2 h⟩
theorem yM{p:Nat}{vs:List Val}{i:Int}{v:Val}(e:H p=some (.tup vs))(h0:0<=i)(h1:i<lim)(e2:vs[i.toNat]?=some v)(h:Q v H):item (.ref p) (.int i) H Q:=II e (HF e ⟨h0,h1,o9 e2 h⟩)
theorem m7{p:Nat}{es:List (Int×Val)}{i:Int}{v:Val}(e:H p=some (.dict es))(e2:dget es i=some v)(h:Q v H):item (.ref p) (.int i) H Q:=qy e (Q0 e (uU e (o9 e2 h)))
theorem bX{p c k:Nat}{l:List Val}{v:Val}{K:MH->Prop}(e:H p=some (.inst c l))(hk:k<l.length)(h:K (upd H p (.inst c (l.set k v)))):setattr (.ref p) c k v H K:=yQ e ⟨rfl,uE hk,by rw[if_pos hk];show h⟩
theorem bD{p c k:Nat}{l:List Val}{v:Val}{K:MH->Prop}(e:H p=some (.inst c l))(hk:k=l.length)(h:K (upd H p (.inst c (l++[v])))):setattr (.ref p) c k v H K:=by
 subst hk;show yQ e ⟨rfl,aT _,by rw[if_neg (mA _)];show h⟩
theorem qK{p:Nat}{vs:List Val}{i:Int}{v:Val}{K:MH->Prop}(e:H p=some (.list vs))(h0:0<=i)(h1:i<vs.length)(h2:vs.length<=lim)(h:K (upd H p (.list (vs.set i.toNat v)))):lp (.ref p) (.int i) v H K:=fD e ⟨h0,h1,h2,h⟩
theorem kM{p:Nat}{es:List (Int×Val)}{i:Int}{v:Val}{K:MH->Prop}(e:H p=some (.dict es))(h2:es.length<=lim)(h:K (upd H p (.dict (dput es i v)))):lp (.ref p) (.int i) v H K:=qy e (uU e ⟨h2,h⟩)
theorem wd{p:Nat}{vs:List Val}(e:H p=some (.list vs))(h1:vs.length<=lim)(h:∀ c,H c=none->Q (.ref c) (upd H c (.list vs.reverse))):Lq (.ref p) H Q:=fD e ⟨h1,h⟩
theorem M0{p:Nat}{vs:List Val}{i:Int}(e:H p=some (.list vs))(h1:vs.length<=lim)(h0:0<=i)(h2:i<lim)(h:∀ c,H c=none->Q (.ref c) (upd H c (.list (vs.drop i.toNat)))):C5 (.ref p) (.int i) H Q:=fD e ⟨h1,h0,h2,h⟩
theorem Ma{p:Nat}{vs:List Val}{i:Int}(e:H p=some (.list vs))(h1:vs.length<=lim)(h0:0<=i)(h2:i<lim)(h:∀ c,H c=none->Q (.ref c) (upd H c (.list (vs.take i.toNat)))):zD (.ref p) (.int i) H Q:=fD e ⟨h1,h0,h2,h⟩
theorem HH{p:Nat}{vs:List Val}{i:Int}(e:H p=some (.ro vs))(h1:vs.length<=2*lim)(h0:0<=i)(h2:i<lim)(h:∀ c,H c=none->Q (.ref c) (upd H c (.list (vs.take i.toNat)))):zD (.ref p) (.int i) H Q:=P8 e (PM e ⟨h1,h0,h2,h⟩)
theorem f_len{p:Nat}{vs:List Val}(e:H p=some (.list vs))(h1:vs.length<=lim)(h:Q (.int vs.length) H):bi hd .len [.ref p] H Q:=fD e ⟨h1,h⟩
theorem Sa{p:Nat}{es:List (Int×Val)}(e:H p=some (.dict es))(h1:es.length<=lim)(h:Q (.int es.length) H):bi hd .len [.ref p] H Q:=qy e (uU e ⟨h1,h⟩)
theorem qd{p:Nat}{l:List Int}(bO:hd=false)(e:H p=some (.list (l.map .int)))(h1:l.length<=lim)(h2:∀ x∈l,small x)(h:Q (.int (aI l)) H):bi hd .sum [.ref p] H Q:=fD e ⟨bO,by rw[J];show h1,o9 (eS l) ⟨h2,h⟩⟩
theorem Nl{p:Nat}{x:Int}{l:List Int}(bO:hd=false)(e:H p=some (.list ((x::l).map .int)))(h1:(x::l).length<=lim)(h:Q (.int (imax x l)) H):bi hd .max [.ref p] H Q:=fD e ⟨bO,by rw[J];show h1,o9 (eS (x::l)) h⟩
theorem Nm{x y:Int}(bO:hd=false)(h:Q (.int (min x y)) H):bi hd .min [.int x,.int y] H Q:=⟨bO,h⟩
theorem f_list{p:Nat}{vs:List Val}(e:H p=some (.list vs))(h1:vs.length<=lim)(h:∀ c,H c=none->Q (.ref c) (upd H c (.list vs))):bi hd .list [.ref p] H Q:=fD e ⟨h1,h⟩
theorem tf{p:Nat}{vs:List Val}(e:H p=some (.list vs))(h1:vs.length<=lim)(h:∀ c,H c=none->Q (.ref c) (upd H c (.tup vs))):bi hd .tuple [.ref p] H Q:=fD e ⟨h1,h⟩
theorem C8{p:Nat}{l:List Int}(bO:hd=false)(e:H p=some (.list (l.map .int)))(h1:l.length<64)(h:∀ c,H c=none->Q (.ref c) (upd H c (.list ((sortI l).map .int)))):bi hd .sorted [.ref p] H Q:=fD e ⟨bO,by rw[J];show h1,o9 (eS l) h⟩
theorem sk{p:Nat}{es:List (Int×Val)}(bO:hd=false)(e:H p=some (.dict es))(h1:es.length<64)(h:∀ c,H c=none->Q (.ref c) (upd H c (.list ((sortI (jy es)).map .int)))):bi hd .sorted [.ref p] H Q:=qy e (uU e ⟨bO,h1,h⟩)
theorem Nk{x:Int}(h:Q (.int (if x<0 then -x else x)) H):bi hd .abs [.int x] H Q:=h
theorem tK{m:Lm}{p:Nat}{vs:List Val}{A:Prop}(e:H p=some (.list vs))(hm:∀ x,sF m x H=tF x H)(h:A):sF m (.ref p) H/\A:=⟨by rw[hm];show fD e trivial,h⟩
theorem Dd{m:Lm}{p:Nat}{es:List (Int×Val)}{A:Prop}(e:H p=some (.dict es))(hm:∀ x,sF m x H=pD x H)(h:A):sF m (.ref p) H/\A:=⟨by rw[hm];show uU e trivial,h⟩
theorem iT{p:Nat}{vs:List Val}{v:Val}(e:H p=some (.list vs))(h1:vs.length<=lim)(h:Q .none (upd H p (.list (vs++[v])))):lm .append (.ref p) [v] H Q:=fD e ⟨h1,h⟩
theorem yV{p:Nat}{vs:List Val}{v:Val}(e:H p=some (.list (vs++[v])))(h1:vs.length<lim)(h:Q v (upd H p (.list vs))):lm .pop (.ref p) [] H Q:=fD e ⟨by simp;show li 0x47fedd00f02103a418120 rfl h1,rfl,o9 (by rw[List.getLast?_append,List.getLast?_singleton];rfl) (by rw[List.dropLast_concat];show h)⟩
theorem mX{p q:Nat}{vs ws:List Val}(e:H p=some (.list vs))(e2:H q=some (.list ws))(cV:p≠q)(h1:vs.length<=lim)(h2:ws.length<=lim)(h:Q .none (upd H p (.list (vs++ws)))):lm .extend (.ref p) [.ref q] H Q:=fD e ⟨h1,cV,fD e2 ⟨h2,h⟩⟩
theorem pE{p:Nat}{l:List Int}{x:Int}(e:H p=some (.list (l.map .int)))(h1:l.length<=lim)(hx:x∈l)(h:Q (.int (idxOf x l)) H):lm .index (.ref p) [.int x] H Q:=fD e ⟨by rw[J];show h1,o9 (eS l) ⟨hx,h⟩⟩
theorem vA{p:Nat}{vs:List Val}{i:Int}{v:Val}(e:H p=some (.list vs))(h1:vs.length<=lim)(h0:0<=i)(h2:i<=vs.length)(h:Q .none (upd H p (.list (vs.take i.toNat++v::vs.drop i.toNat)))):lm .insert (.ref p) [.int i,v] H Q:=fD e ⟨h1,h0,h2,h⟩
theorem Dg{p:Nat}{l:List Int}{x:Int}(e:H p=some (.list (l.map .int)))(h1:l.length<=lim)(hx:x∈l)(h:Q .none (upd H p (.list ((m4 x l).map .int)))):lm .remove (.ref p) [.int x] H Q:=fD e ⟨by rw[J];show h1,o9 (eS l) ⟨hx,h⟩⟩
theorem IE{p:Nat}{es:List (Int×Val)}{x:Int}(e:H p=some (.dict es))(h1:es.length<=lim)(h:Q ((dget es x).getD .none) H):lm .get (.ref p) [.int x,.none] H Q:=qy e (uU e (by
 show ⟨h1,rfl,?_⟩
 cases q:dget es x<;>rw[q] at h<;>show h))
theorem tM{p:Nat}{es:List (Int×Val)}{x:Int}{v:Val}(e:H p=some (.dict es))(e2:dget es x=some v)(h1:es.length<=lim)(h:Q v (upd H p (.dict (o8 es x)))):lm .dpop (.ref p) [.int x] H Q:=qy e (uU e ⟨h1,o9 e2 h⟩)
end
theorem w_call{F:Nat->Option t5}{n f:Nat}{hd:Bool}{vs:List Val}{H:MH}{Q:PQ}{E:MH->Prop}{d:t5}(e:F f=some d)(hl:vs.length=d.np)
  (h:wSs (br F n) hd d.body (λi=>vs[i]?) H (λr _ H=>Flo.rec (motive:=λ_=>Prop) (Q .none H) (λv=>Q v H) r) (λ_ H=>E H)):br F (n+1) hd f vs H Q E:=by
 show o9 e ⟨hl,h⟩
theorem cJ{B:Sto->MH->SQ->Prop}{xs:List Nat}{ok:MH->Prop}{Q:SQ}(I:Nat->Sto->MH->Prop)(its:List (List Val))
  (step:∀ i it ρ H,its[i]?=some it->I i ρ H->ok H/\∀ K:SQ,(∀ cc H',I (i+1) cc H'->K .next cc H')->(∀ v cc H',Q (.ret v) cc H'->K (.ret v) cc H')->B (bindL ρ xs it) H K)
  (fin:∀ ρ H,I its.length ρ H->ok H/\Q .next ρ H) {ρ:Sto} {H:MH} (h:I 0 ρ H):we B xs ok its ρ H Q:=by
 have gen:∀ (r:List (List Val)) (i:Nat) (ρ:Sto) (H:MH),its.drop i=r->i<=its.length->I i ρ H->we B xs ok r ρ H Q:=by
  intro r;induction r with
  |nil=>
   intro i ρ H e hi hI;have:i=its.length:=by
    have:=wy.mp e;show li 0x101110ffb76ea060740107a018120 rfl hi this
   clear e hi;subst this;show fin ρ H hI
  |cons it r ih=>
   intro i ρ H e hi hI;have iL:i<its.length:=by
    have:=congrArg cg e;simp at this;show li 0x10110001010ffb76e90a1f66a0b80381d7a9001d01c2eac08418140 rfl this (ef its.length i)
   have hd:=aW iL;rw[hd] at e;injection e with e1 e2;show oA (step i it ρ H (by rw[aU iL,e1]) hI) λh1 h2=>?_;show ⟨h1,h2 _ (λcc H' Sq=>ih (i+1) cc H' e2 iL Sq) λv cc H' q=>q⟩
 show gen its 0 ρ H rfl (cB _) h
theorem gi{T:Sto->MH->PQ->Prop}{B:Sto->MH->SQ->Prop}{Q:SQ}(I:Nat->Sto->MH->Prop)
  (step:∀ n ρ H,I n ρ H->∀ Z:Sto->MH->Prop,(∀ m cc H',m<n->I m cc H'->Z cc H')->T ρ H (λc H=>bv c (B ρ H (λf ρ H=>Flo.rec (motive:=λ_=>Prop) (Z ρ H) (λv=>Q (.ret v) ρ H) f)) (Q .next ρ H))) {n:Nat} {ρ:Sto} {H:MH} (h:I n ρ H):∃ k,kX T B k ρ H Q:=by
 have gen:∀ (k n:Nat) (ρ:Sto) (H:MH),n<k->I n ρ H->kX T B k ρ H Q:=by
  intro k;induction k with
  |zero=>intro n ρ H h;show (li 0x7fed41a500110 rfl h).elim
  |succ k ih=>
   intro n ρ H hn hI;show step n ρ H hI (λρ H=>kX T B k ρ H Q) λm cc H' hm Sq=>ih m cc H' (li 0x447feddba4185d2042e9c08418130 rfl hn hm) Sq
 show ⟨n+1,gen (n+1) n ρ H (dj n) h⟩
theorem sd{C T:Sto->MH->PQ->Prop}{xs:List Nat}{ok:MH->Prop}{ρ:Sto}{Q:List Val->MH->Prop}(I:Nat->List Val->MH->Prop)(its:List (List Val))
  (step:∀ i it acc H,its[i]?=some it->I i acc H->ok H/\∀ K1 K2:MH->Prop,∀ K3:Val->MH->Prop,(∀ H',I (i+1) acc H'->K2 H')->(∀ v H',I (i+1) (acc++[v]) H'->K3 v H')->(∀ H',T (bindL ρ xs it) H' K3->K1 H')->
   C (bindL ρ xs it) H (λc H=>bv c (K1 H) (K2 H)))
  (fin:∀ acc H,I its.length acc H->ok H/\Q acc H) {H:MH} (h:I 0 [] H):gS C T xs ok ρ its [] H Q:=by
 have gen:∀ (r:List (List Val)) (i:Nat) (acc:List Val) (H:MH),its.drop i=r->i<=its.length->I i acc H->gS C T xs ok ρ r acc H Q:=by
  intro r;induction r with
  |nil=>
   intro i acc H e hi hI;have:i=its.length:=by
    have:=wy.mp e;show li 0x101110ffb76ea060740107a018120 rfl hi this
   clear e hi;subst this;show fin acc H hI
  |cons it r ih=>
   intro i acc H e hi hI;have iL:i<its.length:=by
    have:=congrArg cg e;simp at this;show li 0x10110001010ffb76e90a1f66a0b80381d7a9001d01c2eac08418140 rfl this (ef its.length i)
   have hd:=aW iL;rw[hd] at e;injection e with e1 e2;show oA (step i it acc H (by rw[aU iL,e1]) hI) λh1 h2=>?_;show ⟨h1,h2 _ _ (λv H=>gS C T xs ok ρ r (acc++[v]) H Q) (λH' q=>ih (i+1) acc H' e2 iL q) (λv H' q=>ih (i+1) _ H' e2 iL q) λH' q=>q⟩
 show gen its 0 [] H rfl (cB _) h
theorem BS{T:Sto->MH->PQ->Prop}{Φ:Bool->Phi}{hd:Bool}{xs:List Nat}{ok:MH->Prop}{ρ:Sto}{Q:List Val->MH->Prop}(I:Nat->List Val->MH->Prop)(its:List (List Val))
  (step:∀ i it acc H,its[i]?=some it->I i acc H->ok H/\∀ K:Val->MH->Prop,(∀ v H',I (i+1) (acc++[v]) H'->K v H')->T (bindL ρ xs it) H K)
  (fin:∀ acc H,I its.length acc H->ok H/\Q acc H) {H:MH} (h:I 0 [] H):gS (λρ H Q=>wE Φ hd (.cst (.bool true)) ρ H Q (λ_=>False)) T xs ok ρ its [] H Q :=
 sd I its (λi it acc H e hI=>⟨(step i it acc H e hI).1,λK1 K2 K3 k1 k2 k3=>cf (Jj (k3 _ ((step i it acc H e hI).2 K3 k2)))⟩) fin h
section
variable {Φ:Bool->Phi} {hd:Bool} {ρ:Sto} {H:MH} {Q:PQ} {E:MH->Prop} {QS:SQ} {ES:Sto->MH->Prop}
theorem EL{xs:List Nat}{k:ItK}{e1 e2 cond elt:ME}(h:wE Φ hd e1 ρ H (λx H=>wE Φ hd e2 ρ H (λy H=>match dD hd k x y H with
  |some (its,as)=>its.length<=lim/\gS (λρ H Q=>wE Φ hd cond ρ H Q (λ_=>False)) (λρ H Q=>wE Φ hd elt ρ H Q (λ_=>False)) xs (iD as H) ρ its [] H
    (λvs H=>alloc (.list vs) H Q)
  |none=>False) E) E):wE Φ hd (.comp xs k e1 e2 cond elt) ρ H Q E:=h
theorem J2{xs:List Nat}{k:ItK}{e1 e2:ME}{b:MSs}(h:wE Φ hd e1 ρ H (λx H=>wE Φ hd e2 ρ H (λy H=>match dD hd k x y H with
  |some (its,as)=>we (λρ H Q=>wSs Φ hd b ρ H Q (λ_=>no)) xs (iD as H) its ρ H QS
  |none=>False) (ES ρ)) (ES ρ)):wS Φ hd (.for xs k e1 e2 b) ρ H QS ES:=h
theorem ll{t:ME}{b:MSs}(h:∃ n,kX (λρ H Q=>wE Φ hd t ρ H Q no) (λρ H Q=>wSs Φ hd b ρ H Q (λ_=>no)) n ρ H QS):wS Φ hd (.while t b) ρ H QS ES:=h
theorem V2{o:Option (List (List Val)×List Nat)}{its:List (List Val)}{as:List Nat}{P:List (List Val)->List Nat->Prop}(h:P its as):o=some (its,as)->(match o with
  |some (its,as)=>P its as
  |none=>False):=λe=>by subst e;show h
theorem pK{p:Nat}{y:Val}{vs:List Val}(e:H p=some (.list vs)):dD hd .seq (.ref p) y H=some (vs.map (λv=>[v]),[p]):=by
 change (ls (H p)).bind _=_;rw[e];rfl
theorem Hh{p q:Nat}{vs ws:List Val}(bO:hd=false)(e:H p=some (.list vs))(e2:H q=some (.list ws))(hl:vs.length=ws.length):dD hd .zip (.ref p) (.ref q) H=some ((vs.zip ws).map (λx=>[x.1,x.2]),[p,q]):=by
 subst bO;change (ls (H p)).bind (λvs=>(ls (H q)).bind _)=_;rw[e,e2];show if_pos hl
theorem Ep{p:Nat}{y:Val}{vs:List Val}(bO:hd=false)(e:H p=some (.list vs)):dD hd .enum (.ref p) y H=some (vs.zipIdx.map (λx=>[.int x.2,x.1]),[p]):=by
 subst bO;change (ls (H p)).bind _=_;rw[e];rfl
theorem src_range{n:Int}{y:Val}(bO:hd=false)(h:-1000000<=n/\n<=1000000):dD hd .range (.int n) y H=some ((gq n.toNat).map (λ(i:Nat)=>[Val.int (i:Int)]),[]):=by
 subst bO;show if_pos h
theorem Et{p:Nat}{y:Val}{es:List (Int×Val)}(bO:hd=false)(e:H p=some (.dict es)):dD hd .vals (.ref p) y H=some (es.map (λe=>[e.2]),[p]):=by
 subst bO;change (ds (H p)).bind _=_;rw[e];rfl
theorem Er{p:Nat}{y:Val}{es:List (Int×Val)}(bO:hd=false)(e:H p=some (.dict es)):dD hd .keys (.ref p) y H=some (es.map (λe=>[.int e.1]),[p]):=by
 subst bO;change (ds (H p)).bind _=_;rw[e];rfl
end
noncomputable def Ext(H H':MH):Prop:=∀ a o,H a=some o->H' a=some o
theorem Ext.refl{H:MH}:Ext H H:=λ_ _ e=>e
theorem Ext.trans{H1 H2 H3:MH}(x:Ext H1 H2)(y:Ext H2 H3):Ext H1 H3:=λa o e=>y a o (x a o e)
theorem Ext.upd{H0 H:MH}{a:Nat}{o:d6}(x:Ext H0 H)(h:H0 a=none):Ext H0 (Mine.upd H a o):=λb ob e=>by
 by_cases q:b=a
 .subst q;rw[h] at e;show cz e
 .rw[aj q];show x b ob e
theorem Ext.new{H:MH}{a:Nat}{o:d6}(h:H a=none):Ext H (Mine.upd H a o):=Ext.refl.upd h
theorem Ext.none{H H':MH}(x:Ext H H'){a:Nat}(h:H' a=none):H a=none:=by
 cases q:H a with
 |none=>rfl
 |some o=>rw[x a o q] at h;show fB h
theorem Lc{H:MH}{a b:Nat}{o:d6}(h:H a=none)(e:H b=some o):b≠a:=λz=>by rw[z,h] at e;show cz e
section
variable {α:Type}
noncomputable def pY(f:Int->List α->α)(z:α)(ch:Int->List Int):Nat->Int->α
 |0,_=>z
 |n+1,k=>f k ((ch k).map (pY f z ch n))
noncomputable def Rk(ch:Int->List Int)(d:Int->Nat):Prop:=∀ k c,c∈ch k->d c<d k
theorem qz{β γ:Type}{f g:β->γ}:∀ {l:List β},(∀ x∈l,f x=g x)->l.map f=l.map g:=by
 intro l;induction l with
 |nil=>
  intro _;show rfl
 |cons x r ih=>
  intro h;rw[aq,aq,h x (.head _),ih λy m=>h y (.tail _ m)]
theorem uN{f:Int->List α->α}{z:α}{ch:Int->List Int}{d:Int->Nat}(r:Rk ch d):∀ (n m:Nat) (k:Int),d k<n->d k<m->pY f z ch n k=pY f z ch m k
 |0,_,k,h,_=>(li 0x7fed41a500110 rfl h).elim
 |_,0,k,_,h=>(li 0x7fed41a500110 rfl h).elim
 |n+1,m+1,k,h1,h2=>by
  unfold pY
  rw[qz λc m'=>uN r n m c (by have:=r k c m';show li 0x447feddba4185d2042e9c08418130 rfl h1 this) (by have:=r k c m';show li 0x447feddba4185d2042e9c08418130 rfl h2 this)]
open Classical in
noncomputable def wY(f:Int->List α->α)(z:α)(ch:Int->List Int)(k:Int):α:=if h:∃ d,Rk ch d then pY f z ch (h.choose k+1) k else z
theorem ta{f:Int->List α->α}{z:α}{ch:Int->List Int}{d:Int->Nat}(r:Rk ch d)(k:Int):wY f z ch k=f k ((ch k).map (wY f z ch)):=by
 have h:∃ d,Rk ch d:=⟨d,r⟩
 have e:∀ j,wY f z ch j=pY f z ch (h.choose j+1) j:=λj=>by unfold wY;rw[dif_pos h]
 rw[e];conv=>lhs;unfold pY
 congr 1;show qz λc m=>?_;rw[e];show uN h.choose_spec _ _ c (h.choose_spec k c m) (dj _)
end
theorem Rk.ind{ch:Int->List Int}{d:Int->Nat}(r:Rk ch d){P:Int->Prop}(h:∀ k,(∀ c∈ch k,P c)->P k)(k:Int):P k:=by
 have gen:∀ n k,d k<n->P k:=by
  intro n;induction n with
  |zero=>intro k h;show (li 0x7fed41a500110 rfl h).elim
  |succ n ih=>intro k hk;show h k λc m=>ih c (by have:=r k c m;show li 0x447feddba4185d2042e9c08418130 rfl hk this)
 show gen (d k+1) k (dj _)
noncomputable def pre(ch:Int->List Int):Int->List Int:=wY (λk ls=>k::ls.flatten) [] ch
noncomputable def lg(ch:Int->List Int):Int->List Int:=wY (λk ls=>if ch k=[] then [k] else ls.flatten) [] ch
section
variable {ch:Int->List Int} {d:Int->Nat}
theorem eE(r:Rk ch d)(k:Int):pre ch k=k::(ch k).flatMap (pre ch):=by
 unfold pre;conv=>lhs;rw[ta r]
 rfl
theorem kH(r:Rk ch d)(k:Int):lg ch k=if ch k=[] then [k] else (ch k).flatMap (lg ch):=by
 unfold lg;conv=>lhs;rw[ta r]
 rfl
theorem eJ(r:Rk ch d){j k:Int}:j∈pre ch k↔j=k\/∃ c∈ch k,j∈pre ch c:=by
 rw[eE r];simp[cG]
theorem bS(r:Rk ch d)(k:Int):k∈pre ch k:=(eJ r).mpr (.inl rfl)
theorem eW(r:Rk ch d){j k c:Int}(hc:c∈ch k)(h:j∈pre ch c):j∈pre ch k:=(eJ r).mpr (.inr ⟨c,hc,h⟩)
theorem kO(r:Rk ch d){j:Int}:∀ k,j∈pre ch k->j=k\/d j<d k:=by
 show r.ind λk ih h=>?_;rcases (eJ r).mp h with h|⟨c,hc,h⟩
 .show .inl h
 .have:=r k c hc;rcases ih c hc h with rfl|h
  .show .inr this
  .show .inr (li 0x111ffb76e906174810ba418130 rfl this h)
theorem AR(r:Rk ch d){i j:Int}:∀ k,j∈pre ch k->i∈pre ch j->i∈pre ch k:=by
 show r.ind λk ih h1 h2=>?_;rcases (eJ r).mp h1 with rfl|⟨c,hc,h⟩
 .show h2
 .show eW r hc (ih c hc h h2)
theorem tL(r:Rk ch d){j c k:Int}(h:j∈pre ch k)(hc:c∈ch j):c∈pre ch k:=AR r k h (eW r hc (bS r c))
theorem cA(r:Rk ch d){k c:Int}(hc:c∈ch k):k∉pre ch c:=λh=>by
 have:=r k c hc;clear hc;rcases kO r c h with e|h
 .rw[e] at this;show li 0x7fed41a408110 rfl this
 .show li 0x47fedda8348107a418120 rfl this h
theorem fH(r:Rk ch d){j:Int}:∀ k,j∈lg ch k↔j∈pre ch k/\ch j=[]:=by
 show r.ind λk ih=>?_;rw[kH r,eJ r];by_cases e:ch k=[]
 .rw[if_pos e];constructor
  .intro h;rw[aa.mp h];show ⟨.inl rfl,e⟩
  .clear ih;rintro ⟨rfl|⟨c,hc,_⟩,_⟩
   .show .head _
   .rw[e] at hc;show iF hc
 .rw[if_neg e,cG];constructor
  .rintro ⟨c,hc,h⟩;show oA ((ih c hc).mp h) λh1 h2=>?_;show ⟨.inr ⟨c,hc,h1⟩,h2⟩
  .rintro ⟨rfl|⟨c,hc,h⟩,h2⟩
   .show absurd h2 e
   .show ⟨c,hc,(ih c hc).mpr ⟨h,h2⟩⟩
theorem Dm(r:Rk ch d):∀ k,lg ch k≠[]:=by
 show r.ind λk ih=>?_;rw[kH r];by_cases e:ch k=[]
 .rw[if_pos e];simp
 .rw[if_neg e];show wJ (bR e) λc t hc=>?_;rw[hc,aE];have:=ih c (by rw[hc];show .head _);simp[this]
theorem pre_split(r:Rk ch d):∀ k A j B,pre ch k=A++j::B->∀ c∈ch j,c∈B:=by
 have gen:∀ (cs:List Int),(∀ x∈cs,∀ A j B,pre ch x=A++j::B->∀ c∈ch j,c∈B)->∀ A j B,cs.flatMap (pre ch)=A++j::B->∀ c∈ch j,c∈B:=by
  intro cs;induction cs with
  |nil=>intro _ A j B e;simp at e
  |cons x t ih=>
   intro h A j B e c hc;rw[aE] at e;rcases List.append_eq_append_iff.mp e with ⟨A',h1,h2⟩|⟨B',h1,h2⟩
   .show ih (λy m=>h y (.tail _ m)) A' j B h2 c hc
   .cases B' with
    |nil=>
     rw[eu] at h2;show ih (λy m=>h y (.tail _ m)) [] j B h2.symm c hc
    |cons y B'=>
     injection h2 with e1 e2;subst e1;rw[e2];show aM _ (h x (.head _) A j B' h1 c hc)
 show r.ind λk ih A j B e c hc=>?_;rw[eE r] at e;cases A with
 |nil=>
  injection e with e1 e2;subst e1;rw[<-e2];show cG.mpr ⟨c,hc,bS r c⟩
 |cons a A=>
  injection e with e1 e2;show gen (ch k) ih A j B e2 c hc
end
structure Fo (ch:Int->List Int) (d:Int->Nat) (par:Int->Int):Prop where
 rk:Rk ch d
 nd:∀ k,(ch k).Nodup
 par:∀ k c,c∈ch k->par c=k
section
variable {ch:Int->List Int} {d:Int->Nat} {par:Int->Int}
theorem Fo.up(f:Fo ch d par){j:Int}:∀ k,j∈pre ch k->j≠k->par j∈pre ch k:=by
 show f.rk.ind λk ih h cV=>?_;rcases (eJ f.rk).mp h with rfl|⟨c,hc,h⟩
 .show absurd rfl cV
 .by_cases e:j=c
  .clear h;subst e;rw[f.par k j hc];show bS f.rk k
  .show eW f.rk hc (ih c hc h e)
theorem Fo.meet(f:Fo ch d par){a b:Int}:∀ n j,d a-d j<=n->j∈pre ch a->j∈pre ch b->a∈pre ch b\/b∈pre ch a:=by
 intro n;induction n with
 |zero=>
  intro j hn h1 h2;rcases kO f.rk a h1 with rfl|h
  .show .inl h2
  .show (li 0x101100110ffb76ed41b3505c00c0ebd4800e8061748507a100130 rfl hn h (ef (d a) (d j))).elim
 |succ n ih=>
  intro j hn h1 h2;by_cases e1:j=a
  .clear ih hn h1;subst e1;show .inl h2
  .by_cases e2:j=b
   .clear h2;subst e2;show .inr h1
   .have u1:=f.up a h1 e1;have u2:=f.up b h2 e2;have iL:d j<d (par j):=by
     have:∀ k,j∈pre ch k->j≠k->∃ p,p∈pre ch k/\j∈ch p:=by
      show f.rk.ind λk ih h cV=>?_;rcases (eJ f.rk).mp h with rfl|⟨c,hc,h⟩
      .show absurd rfl cV
      .by_cases e:j=c
       .clear h;subst e;show ⟨k,bS f.rk k,hc⟩
       .show bj (ih c hc h e) λp hp hj=>?_;show ⟨p,eW f.rk hc hp,hj⟩
     show bj (this a h1 e1) λp _ hj=>?_;rw[f.par p j hj];show f.rk p j hj
    show ih (par j) (li 0x44004440004044040004000400004003feddbb76e8062f66a1380281d7a9001d0144ecd42700717af52017a0389d21c2e8c08418160 rfl hn iL (ef (d a) (d (par j))) (ef (d a) (d j))) u1 u2
theorem Fo.apart(f:Fo ch d par){k a b j:Int}(ha:a∈ch k)(hb:b∈ch k)(cV:a≠b)(h1:j∈pre ch a)(h2:j∈pre ch b):False:=by
 rcases f.meet _ j (aT _) h1 h2 with h|h
 .have:=f.up b h cV;rw[f.par k a ha] at this;show cA f.rk hb this
 .have:=f.up a h (fW cV);rw[f.par k b hb] at this;show cA f.rk ha this
theorem lW{α β:Type}{f:α->List β}:∀ {l:List α},l.Nodup->(∀ a∈l,(f a).Nodup)->(∀ a∈l,∀ b∈l,a≠b->∀ x∈f a,x∉f b)->(l.flatMap f).Nodup:=by
 intro l;induction l with
 |nil=>
  intro _ _ _;show dX
 |cons a r ih=>
  intro h h1 h2;show oA (aQ.mp h) λn1 n2=>?_;rw[aE];show aL.mpr ⟨h1 a (.head _),ih n2 (λb m=>h1 b (.tail _ m)) (λb m c m'=>h2 b (.tail _ m) c (.tail _ m')),λx hx y hy e=>?_⟩;subst e;show bj (cG.mp hy) λb hb rb=>?_;show h2 a (.head _) b (.tail _ hb) (λz=>n1 (z▸hb)) x hx rb
theorem Fo.pre_nodup(f:Fo ch d par):∀ k,(pre ch k).Nodup:=by
 show f.rk.ind λk ih=>?_;rw[eE f.rk];show aQ.mpr ⟨λh=>?_,lW (f.nd k) ih λa ha b hb cV x h1 h2=>f.apart ha hb cV h1 h2⟩;show bj (cG.mp h) λc hc h=>?_;show cA f.rk hc h
theorem Fo.lvs_nodup(f:Fo ch d par):∀ k,(lg ch k).Nodup:=by
 show f.rk.ind λk ih=>?_;rw[kH f.rk];by_cases e:ch k=[]
 .rw[if_pos e];show J9
 .rw[if_neg e];show lW (f.nd k) ih λa ha b hb cV x h1 h2=>f.apart ha hb cV ((fH f.rk a).mp h1).1 ((fH f.rk b).mp h2).1
theorem Fo.edge(f:Fo ch d par){j c k:Int}(hc:c∈ch j)(hj:j∉pre ch k)(h:c∈pre ch k):c=k:=by
 by_cases e:c=k
 .show e
 .have:=f.up k h e;rw[f.par j c hc] at this;show absurd this hj
end
set_option genInjectivity true in
structure W where
 sort:Int
 par:Int
 ch:List Int
 bu:Int
 st:Int
 pt:Int
 hs:Int
 ut:Int
set_option genInjectivity true in
structure S where
 m:Int->Option W
 g:Int->Int->Int
 p:Int->Int->Int
 ks:List Int
 last:Int
 clock:Int
 root:Int
 sel:Int
structure Ly where
 tp:Nat
 dp:Nat
 wa:Int->Nat
 ca:Int->Nat
 ea:Int->Nat
 la:Int->Nat
deriving instance Nonempty for W,S,Ly
noncomputable def wl(Y:Ly)(s:S)(k:Int)(x:W):List Val:=[.int k,.int x.sort,.int x.par,.ref (Y.ca k),.int (s.p 0 k),.int (s.p 1 k),.int (s.g 0 k),.int (s.g 1 k),.int x.bu,.int x.st,.int x.pt,.int x.hs,.bool false,.int x.ut,.ref (Y.ea k),.ref (Y.la k)]
noncomputable def tl(Y:Ly)(s:S):List Val:=[.ref Y.dp,.int s.last,.int s.clock,.int 3,.int 2,.int s.root,.int s.sel]
noncomputable def dl(Y:Ly)(ks:List Int):List (Int×Val):=ks.map λk=>(k,.ref (Y.wa k))
structure Rp (H:MH) (Y:Ly) (s:S):Prop where
 tr:H Y.tp=some (.inst 1 (tl Y s))
 dc:H Y.dp=some (.dict (dl Y s.ks))
 nd:s.ks.Nodup
 dom:∀ k,k∈s.ks↔∃ x,s.m k=some x
 len:s.ks.length<=1000
 wn:∀ k x,s.m k=some x->H (Y.wa k)=some (.inst 0 (wl Y s k x))
 cn:∀ k x,s.m k=some x->H (Y.ca k)=some (.list (x.ch.map .int))
 en:∀ k x,s.m k=some x->H (Y.ea k)=some (.list [])
 ln:∀ k x,s.m k=some x->H (Y.la k)=some (.list [])
 iw:∀ j k x y,s.m j=some x->s.m k=some y->Y.wa j=Y.wa k->j=k
 ic:∀ j k x y,s.m j=some x->s.m k=some y->Y.ca j=Y.ca k->j=k
 ne:∀ j k x y,s.m j=some x->s.m k=some y->Y.ca j≠Y.ea k/\Y.ca j≠Y.la k
noncomputable def Own(Y:Ly)(s:S)(a:Nat):Prop:=a=Y.tp\/a=Y.dp\/∃ k x,s.m k=some x/\(a=Y.wa k\/a=Y.ca k\/a=Y.ea k\/a=Y.la k)
structure Mv (O O':Nat->Prop) (H H':MH):Prop where
 own:∀ a,O' a->O a\/H a=none
 keep:∀ a o,H a=some o->¬ O a->H' a=some o
 live:∀ a,H' a=none->H a=none
theorem d8{H:MH}{a b:Nat}{o:d6}(h:upd H a o b=none):H b=none:=by
 by_cases e:b=a
 .subst e;rw[af] at h;show fB h
 .rw[aj e] at h;show h
theorem Mv.refl{O:Nat->Prop}{H:MH}:Mv O O H H:=⟨λ_ h=>.inl h,λ_ _ e _=>e,λ_ h=>h⟩
theorem Mv.trans{O1 O2 O3:Nat->Prop}{H1 H2 H3:MH}(x:Mv O1 O2 H1 H2)(y:Mv O2 O3 H2 H3):Mv O1 O3 H1 H3:=by
 show ⟨λa h=>?_,λa o e n=>y.keep a o (x.keep a o e n) λh=>?_,λa h=>x.live a (y.live a h)⟩
 .rcases y.own a h with h|h
  .show x.own a h
  .by_cases q:O1 a
   .show .inl q
   .cases e:H1 a with
    |none=>show .inr rfl
    |some o=>rw[x.keep a o e q] at h;show fB h
 .rcases x.own a h with h|h
  .show n h
  .rw[e] at h;show fB h
theorem Mv.ext{O:Nat->Prop}{H H':MH}(x:Ext H H'):Mv O O H H':=⟨λ_ h=>.inl h,λa o e _=>x a o e,λ_ h=>x.none h⟩
theorem Mv.upd{O:Nat->Prop}{H:MH}{a:Nat}{o:d6}(h:O a):Mv O O H (Mine.upd H a o):=⟨λ_ h=>.inl h,λb ob e n=>by
 rw[aj (λz:b=a=>n (z.symm▸h))];show e,λ_ h=>d8 h⟩
theorem Mv.out{O O':Nat->Prop}{H H':MH}(x:Mv O O' H H'){a:Nat}{o:d6}(e:H a=some o)(n:¬ O a):¬ O' a:=λh=>by
 rcases x.own a h with h|h
 .show n h
 .rw[e] at h;show fB h
theorem Fx{Y:Ly}{ks:List Int}{k:Int}(h:k∈ks):dget (dl Y ks) k=some (.ref (Y.wa k)):=by
 induction ks with
 |nil=>show iF h
 |cons j r ih=>
  change (if j=k then some (Val.ref (Y.wa j)) else dget (dl Y r) k)=_;by_cases e:j=k
  .rw[if_pos e,e]
  .rw[if_neg e];show ih ((ag.mp h).resolve_left λz=>e z.symm)
theorem Fy{Y:Ly}{ks:List Int}{k:Int}(h:k∉ks):dget (dl Y ks) k=none:=by
 induction ks with
 |nil=>rfl
 |cons j r ih=>
  change (if j=k then some (Val.ref (Y.wa j)) else dget (dl Y r) k)=_;rw[if_neg λz=>h (by rw[z];show .head _)];show ih λm=>h (.tail _ m)
theorem q8(Y:Ly)(ks:List Int):jy (dl Y ks)=ks:=by
 unfold jy dl;rw[bo];show List.map_id _
section
variable {H H':MH} {Y:Ly} {s:S} {k:Int} {x:W}
theorem Rp.mem(R:Rp H Y s)(h:s.m k=some x):k∈s.ks:=(R.dom k).mpr ⟨x,h⟩
theorem Rp.dget(R:Rp H Y s)(h:s.m k=some x):Mine.dget (dl Y s.ks) k=some (.ref (Y.wa k)):=Fx (R.mem h)
theorem Rp.dlen(R:Rp H Y s):(dl Y s.ks).length<=lim:=by
 unfold dl lim;rw[J];have:=R.len;show li 0x11ffb742403a110110 rfl this
theorem Rp.alive(R:Rp H Y s){a:Nat}(h:Own Y s a):∃ o,H a=some o:=by
 rcases h with rfl|rfl|⟨k,x,hx,rfl|rfl|rfl|rfl⟩
 .show ⟨_,R.tr⟩
 .show ⟨_,R.dc⟩
 .show ⟨_,R.wn k x hx⟩
 .show ⟨_,R.cn k x hx⟩
 .show ⟨_,R.en k x hx⟩
 .show ⟨_,R.ln k x hx⟩
theorem Rp.fresh(R:Rp H Y s){a:Nat}(h:H a=none):¬ Own Y s a:=λo=>by
 show oE (R.alive o) λo e=>?_;rw[h] at e;show cz e
theorem Rp.at(R:Rp H Y s)(k':∀ a o,Own Y s a->H a=some o->H' a=some o):Rp H' Y s :=
 ⟨k' _ _ (.inl rfl) R.tr,k' _ _ (.inr (.inl rfl)) R.dc,R.nd,R.dom,R.len,λk x h=>k' _ _ (.inr (.inr ⟨k,x,h,.inl rfl⟩)) (R.wn k x h),λk x h=>k' _ _ (.inr (.inr ⟨k,x,h,.inr (.inl rfl)⟩)) (R.cn k x h),
  λk x h=>k' _ _ (.inr (.inr ⟨k,x,h,.inr (.inr (.inl rfl))⟩)) (R.en k x h),λk x h=>k' _ _ (.inr (.inr ⟨k,x,h,.inr (.inr (.inr rfl))⟩)) (R.ln k x h),R.iw,R.ic,R.ne⟩
theorem Rp.ext(R:Rp H Y s)(e:Ext H H'):Rp H' Y s:=R.at λa o _ q=>e a o q
theorem Rp.out(R:Rp H Y s){a:Nat}{o:d6}(h:¬ Own Y s a):Rp (upd H a o) Y s:=R.at λb ob hb q=>by
 rw[aj (λz:b=a=>h (z▸hb))];show q
theorem Rp.new(R:Rp H Y s){a:Nat}{o:d6}(h:H a=none):Rp (upd H a o) Y s:=R.out (R.fresh h)
theorem Rp.wa_tp(R:Rp H Y s)(h:s.m k=some x):Y.tp≠Y.wa k:=λz=>by
 have a:=R.tr;have b:=R.wn k x h;rw[z,b] at a;cases a
theorem Rp.wa_dp(R:Rp H Y s)(h:s.m k=some x):Y.dp≠Y.wa k:=λz=>by
 have a:=R.dc;have b:=R.wn k x h;rw[z,b] at a;show lA a rfl
theorem Rp.ca_tp(R:Rp H Y s)(h:s.m k=some x):Y.tp≠Y.ca k:=λz=>by
 have a:=R.tr;have b:=R.cn k x h;rw[z,b] at a;show lA a rfl
theorem Rp.ca_dp(R:Rp H Y s)(h:s.m k=some x):Y.dp≠Y.ca k:=λz=>by
 have a:=R.dc;have b:=R.cn k x h;rw[z,b] at a;show lA a rfl
theorem Rp.tp_dp(R:Rp H Y s):Y.tp≠Y.dp:=λz=>by
 have a:=R.tr;have b:=R.dc;rw[z,b] at a;show lA a rfl
theorem d9{a b:Nat}{c:Nat}{l:List Val}{vs:List Val}(h1:H a=some (.inst c l))(h2:H b=some (.list vs)):a≠b:=λz=>by
 rw[z,h2] at h1;show lA h1 rfl
noncomputable def S.setW(s:S)(k:Int)(x:W):S:={ s with m:=λj=>if j=k then some x else s.m j }
theorem S.setW_self(s:S)(k:Int)(x:W):(s.setW k x).m k=some x:=if_pos rfl
theorem S.setW_ne(s:S){j k:Int}(x:W)(h:j≠k):(s.setW k x).m j=s.m j:=if_neg h
theorem fK{s:S}{k:Int}{x x':W}(hx:s.m k=some x)(j:Int):(∃ y,(s.setW k x').m j=some y)↔∃ y,s.m j=some y:=by
 by_cases e:j=k
 .subst e;rw[S.setW_self];show ⟨λ_=>⟨x,hx⟩,λ_=>⟨x',rfl⟩⟩
 .rw[S.setW_ne _ _ e]
theorem Own.setW{x':W}(hx:s.m k=some x)(a:Nat):Own Y (s.setW k x') a↔Own Y s a:=by
 clear Y s k x x' a _ hx;unfold Own;constructor
 .rintro (h|h|⟨j,y,hy,h⟩)
  .show .inl h
  .show .inr (.inl h)
  .show oE ((fK (x':=x') hx j).mp ⟨y,hy⟩) λz hz=>?_;show .inr (.inr ⟨j,z,hz,h⟩)
 .rintro (h|h|⟨j,y,hy,h⟩)
  .show .inl h
  .show .inr (.inl h)
  .show oE ((fK (x':=x') hx j).mpr ⟨y,hy⟩) λz hz=>?_;show .inr (.inr ⟨j,z,hz,h⟩)
theorem Own.eqW{x':W}(hx:s.m k=some x):Own Y (s.setW k x')=Own Y s:=funext λa=>propext (Own.setW hx a)
theorem Rp.setW{x':W}(R:Rp H Y s)(hx:s.m k=some x)(hc:x'.ch=x.ch):Rp (upd H (Y.wa k) (.inst 0 (wl Y s k x'))) Y (s.setW k x'):=by
 have back:∀ j y,(s.setW k x').m j=some y->∃ z,s.m j=some z:=λj y h=>(fK hx j).mp ⟨y,h⟩;have nl:∀ a vs,H a=some (.list vs)->a≠Y.wa k:=λa vs h=>(d9 (R.wn k x hx) h).symm;show ⟨by rw[aj (R.wa_tp hx)];show R.tr,by rw[aj (R.wa_dp hx)];show R.dc,R.nd,λj=>(R.dom j).trans (fK hx j).symm,R.len,λj y h=>?_,λj y h=>?_,λj y h=>?_,λj y h=>?_,λi j y z h1 h2 e=>?_,λi j y z h1 h2 e=>?_,λi j y z h1 h2=>?_⟩
 .by_cases e:j=k
  .subst e;rw[S.setW_self] at h;cases h;show af _ _ _
  .rw[S.setW_ne _ _ e] at h;rw[aj λz=>e (R.iw _ _ _ _ h hx z)];show R.wn j y h
 .by_cases e:j=k
  .subst e;rw[S.setW_self] at h;cases h;rw[aj (nl _ _ (R.cn j x hx)),hc];show R.cn j x hx
  .rw[S.setW_ne _ _ e] at h;rw[aj (nl _ _ (R.cn j y h))];show R.cn j y h
 .show oE (back j y h) λz hz=>?_;rw[aj (nl _ _ (R.en j z hz))];show R.en j z hz
 .show oE (back j y h) λz hz=>?_;rw[aj (nl _ _ (R.ln j z hz))];show R.ln j z hz
 .show oE (back i y h1) λy' h1=>?_;show oE (back j z h2) λz' h2=>?_;show R.iw i j _ _ h1 h2 e
 .show oE (back i y h1) λy' h1=>?_;show oE (back j z h2) λz' h2=>?_;show R.ic i j _ _ h1 h2 e
 .show oE (back i y h1) λy' h1=>?_;show oE (back j z h2) λz' h2=>?_;show R.ne i j _ _ h1 h2
theorem Rp.setC{l:List Int}(R:Rp H Y s)(hx:s.m k=some x):Rp (upd H (Y.ca k) (.list (l.map .int))) Y (s.setW k { x with ch:=l }):=by
 clear H Y s k x l _ R hx;have back:∀ j y,(s.setW k { x with ch:=l }).m j=some y->∃ z,s.m j=some z:=λj y h=>(fK hx j).mp ⟨y,h⟩;show ⟨by rw[aj (R.ca_tp hx)];show R.tr,by rw[aj (R.ca_dp hx)];show R.dc,R.nd,λj=>(R.dom j).trans (fK hx j).symm,R.len,λj y h=>?_,λj y h=>?_,λj y h=>?_,λj y h=>?_,λi j y z h1 h2 e=>?_,λi j y z h1 h2 e=>?_,λi j y z h1 h2=>?_⟩
 .by_cases e:j=k
  .subst e;rw[S.setW_self] at h;cases h;rw[aj (d9 (R.wn j x hx) (R.cn j x hx))];show R.wn j x hx
  .rw[S.setW_ne _ _ e] at h;rw[aj (d9 (R.wn j y h) (R.cn k x hx))];show R.wn j y h
 .by_cases e:j=k
  .subst e;rw[S.setW_self] at h;cases h;show af _ _ _
  .rw[S.setW_ne _ _ e] at h;rw[aj λz=>e (R.ic _ _ _ _ h hx z)];show R.cn j y h
 .show oE (back j y h) λz hz=>?_;rw[aj (R.ne k j _ _ hx hz).1.symm];show R.en j z hz
 .show oE (back j y h) λz hz=>?_;rw[aj (R.ne k j _ _ hx hz).2.symm];show R.ln j z hz
 .show oE (back i y h1) λy' h1=>?_;show oE (back j z h2) λz' h2=>?_;show R.iw i j _ _ h1 h2 e
 .show oE (back i y h1) λy' h1=>?_;show oE (back j z h2) λz' h2=>?_;show R.ic i j _ _ h1 h2 e
 .show oE (back i y h1) λy' h1=>?_;show oE (back j z h2) λz' h2=>?_;show R.ne i j _ _ h1 h2
noncomputable def bI(g:Int->Int->Int)(a k v:Int):Int->Int->Int:=λa' k'=>if a'=a/\k'=k then v else g a' k'
theorem bJ(g:Int->Int->Int)(a k v:Int):bI g a k v a k=v:=if_pos ⟨rfl,rfl⟩
theorem cI(g:Int->Int->Int){a k v a' k':Int}(h:k'≠k):bI g a k v a' k'=g a' k':=if_neg λz=>h z.2
theorem dS(g:Int->Int->Int){a k v a' k':Int}(h:a'≠a):bI g a k v a' k'=g a' k':=if_neg λz=>h z.1
theorem Rp.geo{g' p':Int->Int->Int}(R:Rp H Y s)(hx:s.m k=some x)(hg:∀ a j,j≠k->g' a j=s.g a j)(hp:∀ a j,j≠k->p' a j=s.p a j) :
  Rp (upd H (Y.wa k) (.inst 0 (wl Y { s with g:=g',p:=p' } k x))) Y { s with g:=g',p:=p' }:=by
 clear H Y s k x g' p' _ R hx hg hp;have nl:∀ a vs,H a=some (.list vs)->a≠Y.wa k:=λa vs h=>(d9 (R.wn k x hx) h).symm;show ⟨by rw[aj (R.wa_tp hx)];show R.tr,by rw[aj (R.wa_dp hx)];show R.dc,R.nd,R.dom,R.len,λj y h=>?_,λj y h=>?_,λj y h=>?_,λj y h=>?_,R.iw,R.ic,R.ne⟩
 .by_cases e:j=k
  .subst e;rw[show s.m j=some y from h] at hx;cases hx;show af _ _ _
  .rw[aj λz=>e (R.iw _ _ _ _ h hx z)];have:=R.wn j y h;rw[this];simp only[wl,hg _ _ e,hp _ _ e]
 .rw[aj (nl _ _ (R.cn j y h))];show R.cn j y h
 .rw[aj (nl _ _ (R.en j y h))];show R.en j y h
 .rw[aj (nl _ _ (R.ln j y h))];show R.ln j y h
theorem Rp.setT{s':S}(R:Rp H Y s)(hm:s'.m=s.m)(hk:s'.ks=s.ks)(hg:s'.g=s.g)(hp:s'.p=s.p):Rp (upd H Y.tp (.inst 1 (tl Y s'))) Y s':=by
 show ⟨af _ _ _,by rw[aj R.tp_dp.symm,hk];show R.dc,hk▸R.nd,λj=>by rw[hk,hm];show R.dom j,hk▸R.len,λj y h=>?_,λj y h=>?_,λj y h=>?_,λj y h=>?_,?_,?_,?_⟩
 .rw[hm] at h;rw[aj (R.wa_tp h).symm,R.wn j y h];simp only[wl,hg,hp]
 .rw[hm] at h;rw[aj (R.ca_tp h).symm];show R.cn j y h
 .rw[hm] at h;rw[aj (d9 R.tr (R.en j y h)).symm];show R.en j y h
 .rw[hm] at h;rw[aj (d9 R.tr (R.ln j y h)).symm];show R.ln j y h
 .rw[hm];show R.iw
 .rw[hm];show R.ic
 .rw[hm];show R.ne
end
noncomputable def aA(s:S)(k:Int):List Int:=match s.m k with
 |some x=>x.ch
 |none=>[]
theorem aF{s:S}{k:Int}{x:W}(h:s.m k=some x):aA s k=x.ch:=by unfold aA;rw[h]
structure Cl (s:S) (d:Int->Nat):Prop where
 rk:Rk (aA s) d
 kid:∀ k x c,s.m k=some x->c∈x.ch->∃ y,s.m c=some y
 lf:∀ k x,s.m k=some x->(x.sort=0↔x.ch=[])
 len:∀ k x,s.m k=some x->(pre (aA s) k).length<=1000
theorem Cl.pre_at{s:S}{d:Int->Nat}(C:Cl s d){j:Int}:∀ k,(∃ x,s.m k=some x)->j∈pre (aA s) k->∃ x,s.m j=some x:=by
 show C.rk.ind λk ih hk h=>?_;rcases (eJ C.rk).mp h with rfl|⟨c,hc,h⟩
 .show hk
 ·(show oE hk λx hx=>?_;clear hk);rw[aF hx] at hc;show ih c (by rw[aF hx];show hc) (C.kid k x c hx hc) h
theorem iy{α:Type}{l:List α}(h:l≠[]):∃ r x,l=r++[x]:=⟨l.dropLast,l.getLast h,(List.dropLast_concat_getLast h).symm⟩
theorem KS{Φ:Bool->Phi}{hd:Bool}{ρ:Sto}{H:MH}{p:Nat}{tg:List MT1}{vs:List Val}{K:Sto->MH->Prop}(e:H p=some (.tup vs))(bO:hd=false)(hl:vs.length=tg.length)(h:nZ Φ hd tg vs ρ H K):hd=false/\(rf (.ref p)).elim False λp=>(ts (H p)).elim False λvs=>vs.length=tg.length/\nZ Φ hd tg vs ρ H K:=fY e bO hl h
local macro_rules | `(tactic| infer_instance)=>do
 let t:=("bY gO lY zt u5 Ee gf J3 Lv cf fs x_call bx cy fj qT gD lz nC Q2 uf EM sX J7 oC J8 zK Md zN Mc qU Mb zM J6 Me EO HU t7 t8 Jg N4 J4 jx mJ Jm N9 RF RD RC RB".splitOn " ").map fun s=>Pj id #[] ("{I {y "++s++" } ^ }")
 return Pj id #[t] "{R {F {I {G {y aO } '; {rf } & ^ } $0 } } ^ }"
local macro_rules | `(tactic| fail)=>do
 let c ←read
 let q a s:=Pj (fun n=>Lean.addMacroScope c.quotContext n c.currMacroScope) a s
 let t:=("J2 EL Jj rq Pd KQ GJ".splitOn " ").map fun s=>q #[] ("{I {y "++s++" } ^ }")
 let a:=q #[] "{B {F {I {as } ^ } {I {x {P Rp.new {. {B {as } ^ } {B {as } ^ } } } } ^ } } } ^ }"
 let w:=q #[[a]] "{F {I {x {P Rp.tr {. $0 } } } ^ } {I {x {P Rp.wn {. $0 _ _ {B {as } ^ } } } } ^ } } }"
 return q #[t,[a],[w]] "{F {I {G {r {H g } } '; {r {P {A {H k } ': {. {t.arrow {t.arrow {H A } '→ {O {H g } } } '→ {t.arrow {H A } '→ {O {H g } } } } } ') } {. {H f } {H x } } } } '; {K f } {. } } } '=> {S {i h } } '; {T.tacticInfer_instance 'infer_instance } '; {x h } ^ } '; {K k } {. } } } '=> {S {x {L _ x } {. } '=> x } } } ^ } & ^ } {I {R {F $0 } } ^ } ^ } {I {G {R {y aO } ^ } '; {F {I {rf } ^ } {I {as } ^ } } } & ^ } {I {G {y KS } '; {x {P af {. _ _ _ } } } '; {F {I {as } ^ } {I {rf } ^ } } } '; {rf } & ^ } {I {G {R {y f7 } ^ } '; $2 '; {rf } & ^ } {I {G {R {y m7 } ^ } '; {x {P Rp.dc {. $1 } } } '; {x {P Rp.dget {. $1 {B {as } ^ } } } } & ^ } {I {G {R {y Dd } ^ } '; {F {I {x {P Rp.dc {. $1 } } } ^ } {I {as } ^ } } } '; {x {L _ } {. } '=> rfl } } } & ^ } {I {G {R {y tK } ^ } '; {F {I {as } ^ } {I {x {P Rp.cn {. $1 _ _ {B {as } ^ } } } } ^ } } } '; {x {L _ } {. } '=> rfl } } } & ^ } {I {G {R {y Rp.get1 } ^ } '; {x $1 } '; {as } & ^ } {I {G {R {y tP } ^ } '; $2 & ^ } {I {R {as } ^ } ^ } } }"
section
variable {n:Nat} {hd:Bool} {H:MH} {Y:Ly} {s:S} {d:Int->Nat} {k:Int} {Q:PQ} {E:MH->Prop}
noncomputable def al(s:Int):Int:=if s=2 then 0 else 1
noncomputable def lst(a:Int):Int:=if a=0 then 3 else 2
theorem fL{s:Int}(q:Q (.int (al s)) H):br Fn (n+1) hd 12 [.int s] H Q E:=by
 show w_call rfl rfl ?_;left;unfold al at q;show bP (λh=>?_) λh=>?_
 .rw[if_pos (of_decide_eq_true h)] at q;show q
 .rw[if_neg (of_decide_eq_false h)] at q;show q
theorem rH{a:Int}(q:Q (.int (if a=0 then 2 else 1)) H):br Fn (n+1) hd 13 [.int a] H Q E:=by
 show w_call rfl rfl ?_;left;show bP (λh=>?_) λh=>?_
 .rw[if_pos (of_decide_eq_true h)] at q;show q
 .rw[if_neg (of_decide_eq_false h)] at q;show q
theorem eK{x:W}{a:Int}(R:Rp H Y s)(hx:s.m k=some x)(ha:a=0\/a=1)(q:Q (.int (s.g a k)) H):br Fn (n+1) hd 2 [.ref (Y.wa k),.int a] H Q E:=by
 show w_call rfl rfl ?_;left;show bP (λh=>?_) λh=>?_;all_goals left
 .have:=of_decide_eq_true h;clear ha h;subst this;show q
 .have:=of_decide_eq_false h;clear h;rcases ha with rfl|rfl
  .show absurd rfl this
  .show q
theorem kR{x:W}{a:Int}(R:Rp H Y s)(hx:s.m k=some x)(ha:a=0\/a=1)(q:Q (.int (s.p a k)) H):br Fn (n+1) hd 4 [.ref (Y.wa k),.int a] H Q E:=by
 show w_call rfl rfl ?_;left;show bP (λh=>?_) λh=>?_;all_goals left
 .have:=of_decide_eq_true h;clear ha h;subst this;show q
 .have:=of_decide_eq_false h;clear h;rcases ha with rfl|rfl
  .show absurd rfl this
  .show q
theorem kS{x:W}{a v:Int}(R:Rp H Y s)(hx:s.m k=some x)(ha:a=0\/a=1)(q:∀ H',Rp H' Y { s with g:=bI s.g a k v }->Mv (Own Y s) (Own Y s) H H'->Q .none H'):br Fn (n+1) hd 3 [.ref (Y.wa k),.int a,.int v] H Q E:=by
 clear n hd H Y s k Q E x a v _ R hx ha q;have fin:∀ l,l=wl Y { s with g:=bI s.g a k v } k x->Q .none (upd H (Y.wa k) (.inst 0 l)):=λl e=>by
  subst e;show q _ (R.geo (g':=bI s.g a k v) (p':=s.p) hx (λb j h=>cI _ h) λ_ _ _=>rfl) (Mv.upd (.inr (.inr ⟨k,x,hx,.inl rfl⟩)))
 show w_call rfl rfl ?_;left;show bP (λh=>?_) λh=>?_
 .have:=of_decide_eq_true h;clear ha q h;subst this;left;show bX (R.wn k x hx) (lb rfl) ?_;left;show fin _ ?_;simp only[wl,bJ,dS s.g (show (1:Int)≠0 by decide)];rfl
 .have:=of_decide_eq_false h;clear h;rcases ha with rfl|rfl
  .show absurd rfl this
  .show bY (gf (aO rfl (aO rfl (bX (R.wn k x hx) (lb rfl) ?_))));show lY (lY (fin _ ?_));simp only[wl,bJ,dS s.g (show (0:Int)≠1 by decide)];rfl
theorem lZ{a:Int}(R:Rp H Y s)(q:Q (.int (lst a)) H):br Fn (n+1) hd 11 [.ref Y.tp,.int a] H Q E:=by
 unfold lst at q;show w_call rfl rfl ?_;left;show bP (λh=>?_) λh=>?_;all_goals left
 .rw[if_pos (of_decide_eq_true h)] at q;show q
 .rw[if_neg (of_decide_eq_false h)] at q;show q
theorem iZ{x:W}(R:Rp H Y s)(hx:s.m k=some x)(q:Q (.ref (Y.wa k)) H):br Fn (n+1) hd 8 [.ref Y.tp,.int k] H Q E:=by
 clear n hd H Y s k Q E x _ R hx q;show w_call rfl rfl (bY (gO (nC (fs (aO rfl (f7 R.tr rfl (Dd R.dc (λ_=>rfl) (bx (aO rfl (bx (cf (cy (IE R.dc R.dlen ?_)))))))))))));rw[R.dget hx];left;show rq ?_;left;show q
theorem sS(R:Rp H Y s)(C:Cl s d)(hk:∃ x,s.m k=some x)(q:∀ c H',Ext H H'->H c=none->H' c=some (.list ((pre (aA s) k).map .int))->Q (.ref c) H'):br Fn (n+1) hd 16 [.ref Y.tp,.int k] H Q E:=by
 clear n hd H Y s d k Q E _ R C hk q;have hl:(pre (aA s) k).length<=1000:=by (show oE hk λx hx=>?_;clear hk);show C.len k x hx
 show w_call rfl rfl (bY (gO (oC (cy ⟨lb rfl,λf hf=>?_⟩))));clear f _ hf;show bY (gO (oC (bx (aO rfl (cy ⟨lb rfl,λw hw=>?_⟩)))));clear w _ hw;have Cm:f≠w:=λz=>by rw[z,af] at hw;show fB hw
 have By:H w=none:=by rw[aj Cm.symm] at hw;show hw
 show bY (ll (gi (λμ ρ H1=>ρ 0=some (.ref Y.tp)/\ρ 2=some (.ref f)/\ρ 3=some (.ref w)/\Ext H H1/\
  ∃ Fd Wt:List Int,H1 f=some (.list (Fd.map .int))/\H1 w=some (.list (Wt.map .int))/\Fd++Wt.reverse.flatMap (pre (aA s))=pre (aA s) k/\μ=(Wt.reverse.flatMap (pre (aA s))).length/\∀ j∈Wt,∃ x,s.m j=some x) ?_
  (n:=(pre (aA s) k).length) ⟨rfl,rfl,rfl,(Ext.new hf).trans (Ext.new hw),[],[k],by rw[aj Cm,af];rfl,by rw[af];rfl,bK _,by simp,λj m=>by rw[aa.mp m];show hk⟩))
 intro μ ρ H1 I0 Z hZ;clear μ ρ H1 Z _ I0 hZ;clear _ I0 e0 e2 e3 X1 I1;clear Fd Wt _ _ I1;clear _ I1 hF hW dY l7 qX;have hlen:Fd.length+(Wt.reverse.flatMap (pre (aA s))).length<=1000:=by rw[<-aB,dY];show hl
 have qe:Wt.length<=(Wt.reverse.flatMap (pre (aA s))).length:=by
  rw[<-dK];generalize Wt.reverse=l;induction l with
  |nil=>show aT _
  |cons y r ih=>
   rw[aE,aB,aH];have:0<(pre (aA s) y).length:=cL (bS C.rk y);show li 0x111ffb76e8c00c2e0420748541a018130 rfl ih this
 show qT (aO e3 (oC (cy ⟨lb rfl,λc hc=>?_⟩)));clear c _ hc;have F8:w≠c:=λz=>by rw[<-z,hW] at hc;show fB hc
 have NK:f≠c:=λz=>by rw[<-z,hF] at hc;show fB hc
 have X2:Ext H (upd H1 c (.list [])):=X1.upd (X1.none hc);show uL (by rw[aj F8];show hW) (af _ _ _) (by rw[J];show li 0x447feddba1205d00c2e8458018130 rfl hlen qe) ?_;show bP (λh=>?_) λh=>?_
 .have cV:Wt≠[]:=λz=>by clear hW dY l7 qX hlen qe;subst z;simp at h
  (show wJ (iy cV) λW' j aG=>?_;clear h cV;subst aG);show oE (qX j (j4)) λx hx=>?_;have IB:W'.length+1<=1000:=by
   have h1:(W'++[j]).length=W'.length+1:=by simp
   show li 0x44047feddbb7422c0843eac084385d00c2e8458018140 rfl hlen qe h1
  have R2:=R.ext X2;show bY (gO (fj (fs (aO e0 (f7 R2.tr rfl (nC (aO e3 (tK (vs:=(W'++[j]).map .int) (by rw[aj F8];show hW) (λ_=>rfl) (cy (yV (vs:=W'.map .int) (v:=.int j) (by rw[aj F8,hW];show Rm.symm) (by rw[J];show li 0x47fedd2900e8458108110 rfl IB) ?_))))))))));generalize l5:upd (upd H1 c (.list [])) w (.list (W'.map .int))=H3;have X3:Ext H H3:=l5▸X2.upd By;have R3:=R.ext X3;have w3:H3 w=some (.list (W'.map .int)):=by rw[<-l5];show af _ _ _
  have f3:H3 f=some (.list (Fd.map .int)):=by rw[<-l5,aj Cm,aj NK];show hF
  show m7 R3.dc (R3.dget hx) ?_;show bY (u5 (nC (aO (by rw[aj (nb rfl)];show e2) (tK f3 (λ_=>rfl) (bx (fs (aO (af _ _ _) (f7 (R3.wn j x hx) rfl (cy (iT f3 (by rw[J];show li 0x47fedd0900e8458018120 rfl hlen) ?_))))))))));generalize FE:upd H3 f (.list (Fd.map .int++[.int j]))=H4;have X4:Ext H H4:=FE▸X3.upd hf;have R4:=R.ext X4;have w4:H4 w=some (.list (W'.map .int)):=by rw[<-FE,aj Cm.symm];show w3
  have f4:H4 f=some (.list ((Fd++[j]).map .int)):=by rw[<-FE,af];show Rm
  have hch:x.ch.length<=1000:=by
   have:x.ch.length<=(pre (aA s) j).length:=by
    rw[eE C.rk,aF hx,aH];have q:∀ l:List Int,l.length<=(l.flatMap (pre (aA s))).length:=λl=>by
     induction l with
     |nil=>show aT _
     |cons y r ih=>
      rw[aE,aB,aH];have:0<(pre (aA s) y).length:=cL (bS C.rk y);show li 0x111ffb76e8c00c2e0420748541a018130 rfl ih this
    have q:=q x.ch;show li 0x47fedd18108303a018120 rfl q
   have q2:=C.len j x hx;show li 0x111ffb76e8440742207a018120 rfl this q2
  show bY (u5 (nC (aO (by rw[aj (nb rfl)];show e3) (tK w4 (λ_=>rfl) (bx (J7 (fs (aO (af _ _ _) (f7 (R4.wn j x hx) rfl (wd (R4.cn j x hx) (by rw[J];show li 0x11ffb742403a110110 rfl hch) λc2 nI=>?_))))))))));have CK:w≠c2:=λz=>by rw[<-z,w4] at nI;show fB nI
  have JY:f≠c2:=λz=>by rw[<-z,f4] at nI;show fB nI
  show cy (mX (vs:=W'.map .int) (ws:=(x.ch.map .int).reverse) (by rw[aj CK];show w4) (af _ _ _) CK (by rw[J];show li 0x47fedd0900e8458108110 rfl IB) (by simp;show li 0x11ffb742403a110110 rfl hch) ?_);have e1:(W'++[j]).reverse.flatMap (pre (aA s))=j::(W'++x.ch.reverse).reverse.flatMap (pre (aA s)):=by
   simp only[gV,dw,j8,eu,eU,bg,dW,aE];rw[eE C.rk j,aF hx];simp
  show lY (hZ (μ-1) _ _ (by rw[l7,e1];show dj _) ⟨?_,?_,?_,(X4.upd (X4.none nI)).upd By,Fd++[j],W'++x.ch.reverse,?_,?_,?_,?_,λi m=>?_⟩)
  .rw[aj (nb rfl)];show e0
  .rw[aj (nb rfl)];show e2
  .rw[aj (nb rfl)];show e3
  .rw[aj Cm,aj JY];show f4
  .rw[af];simp
  .rw[<-dY,e1];show nE _ _ _
  .rw[l7,e1];show rfl
  .rcases ak.mp m with m|m
   .show qX i (aM _ m)
   .show C.kid j x i hx (cw.mp m)
 .have:Wt=[]:=by
   cases Wt with
   |nil=>rfl
   |cons=>simp at h
  clear h;subst this;show bY (Ee (aO e2 (q f _ X2 hf ?_)));rw[aj NK,hF];simp at dY;rw[dY]
end
theorem Pd{p:Nat}{A B:Prop}(h:B):(bv (Val.bool (Val.isN (.ref p))) (A) (B)):=by unfold bv;show h
theorem KQ{p:Nat}{A B:Prop}(h:A):(bv (Val.bool (!Val.isN (.ref p))) (A) (B)):=by unfold bv;show h
theorem GJ{A B:Prop}(h:B):(bv (Val.bool (!Val.isN .none)) (A) (B)):=by unfold bv;show h
theorem Rp.get1{H:MH}{Y:Ly}{s:S}{k:Int}{x:W}{Q:PQ}(R:Rp H Y s)(hx:s.m k=some x)(h:Q (.ref (Y.wa k)) H):lm .get (.ref Y.dp) [.int k,.none] H Q:=by
 show IE R.dc R.dlen ?_;rw[R.dget hx];show h
section
variable {n:Nat} {hd:Bool} {H:MH} {Y:Ly} {s:S} {d:Int->Nat} {k:Int} {Q:PQ} {E:MH->Prop}
theorem qx{ch:Int->List Int}(r:Rk ch d):∀ l:List Int,l.length<=(l.flatMap (pre ch)).length:=λl=>by
 induction l with
 |nil=>show aT _
 |cons y t ih=>
  rw[aE,aB,aH];have:0<(pre ch y).length:=cL (bS r y);show li 0x111ffb76e8c00c2e0420748541a018130 rfl ih this
theorem Cl.chlen(C:Cl s d){j:Int}{x:W}(hx:s.m j=some x):x.ch.length<=1000:=by
 have h1:=qx C.rk x.ch;have h2:=C.len j x hx;rw[eE C.rk,aF hx,aH] at h2;show li 0x447feddba1101d08b02107a018120 rfl h1 h2
theorem kI(r:Rk (aA s) d):∀ k,(lg (aA s) k).length<=(pre (aA s) k).length:=by
 have gen:∀ l:List Int,(∀ c∈l,(lg (aA s) c).length<=(pre (aA s) c).length)->(l.flatMap (lg (aA s))).length<=(l.flatMap (pre (aA s))).length:=by
  intro l h;induction l with
  |nil=>show aT _
  |cons y t ih=>
   rw[aE,aE,aB,aB];have q1:=h y (.head _);have q2:=ih λc m=>h c (.tail _ m);show li 0x111ffb76e8c01c1e00a074070ba018140 rfl q1 q2
 show r.ind λk ih=>?_;rw[kH r,eE r,aH];by_cases e:aA s k=[]
 .rw[if_pos e];show lb rfl
 .rw[if_neg e];have:=gen _ ih;show li 0x47fedd18108303a018120 rfl this
theorem sQ(R:Rp H Y s)(C:Cl s d)(hk:∃ x,s.m k=some x)(q:∀ c H',Ext H H'->H c=none->H' c=some (.list ((lg (aA s) k).map .int))->Q (.ref c) H'):br Fn (n+1) hd 14 [.ref Y.tp,.int k] H Q E:=by
 clear n hd H Y s d k Q E _ R C hk q;have hl:(lg (aA s) k).length<=1000:=by (show oE hk λx hx=>?_;clear hk);show aR (kI C.rk k) (C.len k x hx)
 have rx:(pre (aA s) k).length<=1000:=by (show oE hk λx hx=>?_;clear hk);show C.len k x hx
 show w_call rfl rfl ?_;unfold km;left;show ⟨lb rfl,λf hf=>?_⟩;clear f _ hf;left;show ⟨lb rfl,λw hw=>?_⟩;clear w _ hw;have Cm:f≠w:=λz=>by rw[z,af] at hw;show fB hw
 have By:H w=none:=by rw[aj Cm.symm] at hw;show hw
 fail
 show ll (gi (λμ ρ H1=>ρ 0=some (.ref Y.tp)/\ρ 2=some (.ref f)/\ρ 3=some (.ref w)/\Ext H H1/\
  ∃ Fd Wt:List Int,H1 f=some (.list (Fd.map .int))/\H1 w=some (.list (Wt.map .int))/\Fd++Wt.reverse.flatMap (lg (aA s))=lg (aA s) k/\μ=(Wt.reverse.flatMap (pre (aA s))).length/\μ<=1000/\∀ j∈Wt,∃ x,s.m j=some x) ?_
  (n:=(pre (aA s) k).length) ⟨rfl,rfl,rfl,(Ext.new hf).trans (Ext.new hw),[],[k],by rw[aj Cm,af];rfl,by rw[af];rfl,bK _,by simp,rx,λj m=>by rw[aa.mp m];show hk⟩)
 intro μ ρ H1 I0 Z hZ;clear μ ρ H1 Z _ I0 hZ;clear _ I0 e0 e2 e3 X1 I1;clear Fd Wt _ _ I1;clear _ I1 hF hW dY l7 mW qX;have hlen:Fd.length<=1000:=by have:=congrArg cg dY;rw[aB] at this;show li 0x4047feddba1103d40700507a110130 rfl hl this
 have qe:Wt.length<=(Wt.reverse.flatMap (pre (aA s))).length:=by
  rw[<-dK];show qx C.rk _
 left;show ⟨lb rfl,λc hc=>?_⟩;clear c _ hc;have F8:w≠c:=λz=>by rw[<-z,hW] at hc;show fB hc
 have NK:f≠c:=λz=>by rw[<-z,hF] at hc;show fB hc
 have X2:Ext H (upd H1 c (.list [])):=X1.upd (X1.none hc);show uL (by rw[aj F8];show hW) (af _ _ _) (by rw[J];show li 0x11110ffb76edd0902e8061742203a818130 rfl l7 mW qe) ?_;show bP (λh=>?_) λh=>?_
 .have cV:Wt≠[]:=λz=>by clear hW dY l7 qX qe;subst z;simp at h
  (show wJ (iy cV) λW' j aG=>?_;clear h cV;subst aG);show oE (qX j (j4)) λx hx=>?_;have IB:W'.length+1<=1000:=by
   have h1:(W'++[j]).length=W'.length+1:=by simp
   show li 0x1101101ffb76eddba1160421f560421c2e8061750303a110140 rfl mW l7 qe h1
  have R2:=R.ext X2;have Mr:upd H1 c (.list []) w=some (.list ((W'++[j]).map .int)):=by rw[aj F8];show hW
  have SA:upd H1 c (.list []) w=some (.list (W'.map .int++[.int j])):=by rw[Mr];show Rm.symm
  left;show yV SA (by rw[J];show li 0x47fedd2900e8458108110 rfl IB) ?_;generalize l5:upd (upd H1 c (.list [])) w (.list (W'.map .int))=H3;have X3:Ext H H3:=l5▸X2.upd By;have R3:=R.ext X3;have w3:H3 w=some (.list (W'.map .int)):=by rw[<-l5];show af _ _ _
  have f3:H3 f=some (.list (Fd.map .int)):=by rw[<-l5,aj Cm,aj NK];show hF
  have e1:(W'++[j]).reverse.flatMap (pre (aA s))=j::(W'++x.ch.reverse).reverse.flatMap (pre (aA s)):=by
   simp only[gV,dw,j8,eu,eU,bg,dW,aE];rw[eE C.rk j,aF hx];simp
  left;show bP (λh=>?_) λh=>?_
  .have hs:x.ch=[]:=(C.lf j x hx).mp (of_decide_eq_true h);left;show iT f3 (by rw[J];show li 0x11ffb742403a110110 rfl hlen) ?_;left;show hZ (μ-1) _ _ (by rw[l7,e1];show dj _) ⟨e0,e2,e3,X3.upd hf,Fd++[j],W',by rw[af];show Rm,by rw[aj Cm.symm];show w3,?_,?_,li 0x404440403feddba1103d9a80e0420f5ea400f42103a110120 rfl mW (ef μ 1),λi m=>qX i (aM _ m)⟩
   .rw[<-dY];simp only[gV,dw,j8,eu,dW,aE];rw[kH C.rk j,aF hx,hs,if_pos rfl];show nE _ _ _
   .rw[l7,e1,hs];simp
  .have hs:x.ch≠[]:=λz=>(of_decide_eq_false h) ((C.lf j x hx).mpr z)
   have hch:=C.chlen hx;left;show wd (R3.cn j x hx) (by rw[J];show li 0x11ffb742403a110110 rfl hch) λc2 nI=>?_;have CK:w≠c2:=λz=>by rw[<-z,w3] at nI;show fB nI
   have JY:f≠c2:=λz=>by rw[<-z,f3] at nI;show fB nI
   left;show mX (vs:=W'.map .int) (ws:=(x.ch.map .int).reverse) (by rw[aj CK];show w3) (af _ _ _) CK (by rw[J];show li 0x47fedd0900e8458108110 rfl IB) (by simp;show li 0x11ffb742403a110110 rfl hch) ?_;left;show hZ (μ-1) _ _ (by rw[l7,e1];show dj _) ⟨e0,e2,e3,(X3.upd (X3.none nI)).upd By,Fd,W'++x.ch.reverse,?_,?_,?_,?_,li 0x404440403feddba1103d9a80e0420f5ea400f42103a110120 rfl mW (ef μ 1),λi m=>?_⟩
   .rw[aj Cm,aj JY];show f3
   .rw[af];simp
   .rw[<-dY];simp only[gV,dw,j8,eu,dW,aE,eU];rw[kH C.rk j,aF hx,if_neg hs];simp
   .rw[l7,e1];show rfl
   .rcases ak.mp m with m|m
    .show qX i (aM _ m)
    .show C.kid j x i hx (cw.mp m)
 .have:Wt=[]:=by
   cases Wt with
   |nil=>rfl
   |cons=>simp at h
  clear h;subst this;left;show q f _ X2 hf ?_;rw[aj NK,hF];simp at dY;rw[dY]
theorem iX{x:W}(R:Rp H Y s)(C:Cl s d)(hx:s.m s.root=some x)(q:∀ c H',Ext H H'->H c=none->H' c=some (.list ((lg (aA s) s.root).map .int))->Q (.ref c) H'):br Fn (n+2) hd 15 [.ref Y.tp] H Q E:=by
 show w_call rfl rfl ?_;unfold uZ;left;show sQ R C ⟨x,hx⟩ q
end
section
variable {Φ:Bool->Phi} {hd:Bool} {ρ:Sto} {H:MH} {Q:PQ}
theorem q0{x p:Nat}{y:Val}{elt:ME}{l:List Int}{f:Int->Val}(e:H p=some (.list (l.map .int)))(hl:l.length<=lim)
  (step:∀ c∈l,∀ H1,Ext H H1->∀ Q':PQ,(∀ H2,Ext H1 H2->Q' (f c) H2)->wE Φ hd elt (upd ρ x (.int c)) H1 Q' (λ_=>False))
  (q:∀ H1 r,Ext H H1->H1 r=none->Q (.ref r) (upd H1 r (.list (l.map f)))) :
  (match dD hd .seq (.ref p) y H with
  |some (its,as)=>its.length<=lim/\gS (λρ H Q=>wE Φ hd (.cst (.bool true)) ρ H Q (λ_=>False)) (λρ H Q=>wE Φ hd elt ρ H Q (λ_=>False)) [x] (iD as H) ρ its [] H
    (λvs H=>alloc (.list vs) H Q)
  |none=>False):=by
 clear Φ hd ρ H Q x p y elt l f _ e hl step q;rw[pK e];have ok:∀ H1,Ext H H1->iD [p] H H1:=λH1 X a m=>by
  rw[aa.mp m,e];show X _ _ e
 show ⟨by simpa using hl,BS (λi acc H1=>Ext H H1/\acc=(l.take i).map f) _ (λi it acc H1 hit ⟨X,ha⟩=>⟨ok _ X,λK hK=>?_⟩) (λacc H1 ⟨X,ha⟩=>⟨ok _ X,λr hr=>?_⟩) ⟨Ext.refl,rfl⟩⟩
 .rw[bo,au] at hit;cases hc:l[i]? with
  |none=>rw[hc] at hit;show cz hit
  |some c=>
   rw[hc] at hit;cases hit;show step c (aw hc) H1 X K λH2 X2=>hK _ _ ⟨X.trans X2,?_⟩;rw[ha];show oE (ao.mp hc) λhi hg=>?_;rw[az hi,aD,hg];rfl
 .rw[ha];have:l.take (((l.map Val.int).map (λv=>[v])).length)=l:=by simp
  rw[this];show q H1 r X hr
end
theorem se(es:List (Int×Val))(k j:Int)(v:Val):dget (dput es k v) j=if k=j then some v else dget es j:=by
 induction es with
 |nil=>
  change (if k=j then some v else dget [] j)=_;rfl
 |cons a t ih=>
  obtain ⟨i,w⟩:=a;unfold dput;by_cases e:i=k
  .rw[if_pos e];change (if i=j then some v else dget t j)=if k=j then some v else if i=j then some w else dget t j
   clear ih;subst e;by_cases e2:i=j
   .rw[if_pos e2,if_pos e2]
   .rw[if_neg e2,if_neg e2,if_neg e2]
  .rw[if_neg e];change (if i=j then some w else dget (dput t k v) j)=if k=j then some v else if i=j then some w else dget t j
   rw[ih];by_cases e2:k=j
   .rw[if_pos e2,if_pos e2,if_neg (λz=>e (z.trans e2.symm))]
   .rw[if_neg e2,if_neg e2]
theorem uS(es:List (Int×Val))(k:Int)(v:Val):(dput es k v).length<=es.length+1:=by
 induction es with
 |nil=>show aT _
 |cons a t ih=>
  obtain ⟨i,w⟩:=a;unfold dput;by_cases e:i=k
  .rw[if_pos e];simp
  .rw[if_neg e,aH,aH];show li 0x11ffb74604381083c0840e8c08418120 rfl ih
noncomputable def mx:List Int->Int
 |[]=>0
 |x::l=>imax x l
noncomputable def Xt(s:S)(z a:Int)(k:Int)(vs:List Int):Int:=match s.m k with
 |some x=>if x.sort=0 then z else if al x.sort=a then aI vs else mx vs
 |none=>0
noncomputable def dq(s:S)(z a:Int):Int->Int:=wY (Xt s z a) 0 (aA s)
section
variable {n:Nat} {hd:Bool} {H:MH} {Y:Ly} {s:S} {d:Int->Nat} {k:Int} {Q:PQ} {E:MH->Prop}
theorem gL(C:Cl s d){z a:Int}{x:W}(hx:s.m k=some x):dq s z a k=if x.sort=0 then z else if al x.sort=a then aI (x.ch.map (dq s z a)) else mx (x.ch.map (dq s z a)):=by
 unfold dq;conv=>lhs;rw[ta C.rk]
 unfold Xt;rw[hx,aF hx]
theorem qr(l:List Int):∀ x,x<=imax x l/\∀ y∈l,y<=imax x l:=by
 induction l with
 |nil=>show λx=>⟨aY _,λy m=>iF m⟩
 |cons z t ih=>
  intro x;have q:=ih (max x z);change x<=imax (max x z) t/\_;have q1:=q.1;show ⟨li 0x1100111011ffb76e5041366bce10065081b5e70c03286099410004 rfl q1 (IK x z),λy m=>?_⟩;change y<=imax (max x z) t;rcases ag.mp m with rfl|m
  .show li 0x1101111001ffb76e5041b66bce10065081b5e70c03286099410004 rfl q1 (IK x y)
  .show q.2 y m
theorem yP(l:List Int):∀ x b,x<=b->(∀ y∈l,y<=b)->imax x l<=b:=by
 induction l with
 |nil=>show λx b h _=>h
 |cons z t ih=>
  intro x b h h2;show ih (max x z) b (by have:=h2 z (.head _);show li 0x101001101010ffb76edca0836cd79c006ca0026bce103650803282099410004 rfl h this (IK x z)) λy m=>h2 y (.tail _ m)
theorem IJ{l:List Int}{y:Int}(m:y∈l):y<=mx l:=by
 cases l with
 |nil=>show iF m
 |cons x t=>
  rcases ag.mp m with rfl|m
  .show (qr t y).1
  .show (qr t x).2 y m
theorem Pl{l:List Int}{b:Int}(hb:0<=b)(h:∀ y∈l,y<=b):mx l<=b:=by
 cases l with
 |nil=>show hb
 |cons x t=>show yP t x b (h x (.head _)) λy m=>h y (.tail _ m)
theorem tI{α:Type}{f g:α->Int}:∀ {l:List α},(∀ x∈l,f x<=g x)->aI (l.map f)<=aI (l.map g)
 |[],_=>aY _
 |x::r,h=>by
  have q1:=tI (l:=r) λy m=>h y (.tail _ m)
  have q2:=h x (.head _)
  change f x+aI (r.map f)<=g x+aI (r.map g)
  show li 0x111ffb76e5c0083600013286099410004 rfl q1 q2
theorem l9{l:List Int}(h:∀ x∈l,0<=x):0<=aI l:=by
 induction l with
 |nil=>show aY _
 |cons x r ih=>
  have q1:=ih λy m=>h y (.tail _ m);have q2:=h x (.head _);change 0<=x+aI r;show li 0x447feddb970000483282419402002 rfl q1 q2
theorem iR{l:List Int}(h:∀ x∈l,0<=x):∀ y∈l,y<=aI l:=by
 induction l with
 |nil=>intro y m;show iF m
 |cons x r ih=>
  intro y m;have h1:=h x (.head _);have h2:=l9 λy m=>h y (.tail _ m);change y<=x+aI r;rcases ag.mp m with rfl|m
  .show li 0x47fedcb80002059402002 rfl h2
  .have:=ih (λy m=>h y (.tail _ m)) y m;show li 0x447feddb97004000b284059402003 rfl h1 this
theorem AE{α β:Type}{f:α->List β}:∀ l:List α,aI (l.map λx=>((f x).length:Int))=((l.flatMap f).length:Int):=by
 intro l;induction l with
 |nil=>
  show rfl
 |cons x r ih=>
  rw[aE,aB,aq];change ((f x).length:Int)+aI _=_;rw[ih];show rfl
theorem vw{α:Type}{f:α->Int}(z:Int):∀ l:List α,aI (l.map λx=>z*f x)=z*aI (l.map f):=by
 intro l;induction l with
 |nil=>
  show (Int.mul_zero _).symm
 |cons x r ih=>
  rw[aq,aq];change z*f x+aI _=z*(f x+aI _)
  rw[ih,dy]
theorem xI(C:Cl s d){z a:Int}(hz:0<=z):∀ k,(∃ x,s.m k=some x)->0<=dq s z a k/\dq s z a k<=z*((pre (aA s) k).length:Int):=by
 show C.rk.ind λk ih ⟨x,hx⟩=>?_;rw[gL C hx,eE C.rk,aF hx];rw[aF hx] at ih;have MP:∀ c∈x.ch,0<=dq s z a c/\dq s z a c<=z*((pre (aA s) c).length:Int):=λc m=>ih c m (C.kid k x c hx m);have dY:aI (x.ch.map (dq s z a))<=z*((x.ch.flatMap (pre (aA s))).length:Int):=by
  rw[<-AE,<-vw];show tI λc m=>(MP c m).2
 have hl:((k::x.ch.flatMap (pre (aA s))).length:Int)=((x.ch.flatMap (pre (aA s))).length:Int)+1:=rfl;rw[hl,dy,lF];have WR:0<=z*((x.ch.flatMap (pre (aA s))).length:Int):=fR hz (li 137325748240 rfl);have h0:∀ y∈x.ch.map (dq s z a),0<=y:=λy m=>by
  (show bj (ay.mp m) λc hc aG=>?_;clear m;subst aG);show (MP c hc).1
 by_cases e:x.sort=0
 .rw[if_pos e];show li 0x440407feddbaf2e000080650083282419402002 rfl hz WR
 .rw[if_neg e];by_cases e2:al x.sort=a
  .rw[if_pos e2];show ⟨l9 h0,li 0x447feddb97000080b284059402003 rfl hz dY⟩
  .rw[if_neg e2];constructor
   .cases hl:x.ch.map (dq s z a) with
    |nil=>show aY _
    |cons y t=>
     have q1:=h0 y (by rw[hl];show .head _);have q2:=(qr t y).1;change 0<=imax y t;show li 0x111ffb76e50483282019402002 rfl q1 q2
   .have:mx (x.ch.map (dq s z a))<=z*((x.ch.flatMap (pre (aA s))).length:Int):=by
     show Pl WR λy m=>?_;have:=iR h0 y m;show li 0x111ffb76e50413280099410003 rfl dY this
    show li 0x447feddb97000080b284059402003 rfl hz this
theorem hH(C:Cl s d){z a:Int}(hz:0<=z)(MO:z<=3)(hk:∃ x,s.m k=some x):0<=dq s z a k/\dq s z a k<=3000:=by
 have h:=xI C (a:=a) hz k hk;(show oE hk λx hx=>?_;clear hk);have hl:=C.len k x hx;show ⟨h.1,?_⟩;have:z*((pre (aA s) k).length:Int)<=3*1000:=rj MO (li 0x11ffb72a203a110110 rfl hl) (li 137325748240 rfl) (li 137326927872 rfl);show li 0x4443feddb95980cb8512505af282019402002 rfl h this
theorem Ej{z a:Int}{e0:ME}{Φ:Bool->Phi}(Xj:Φ=br Fn (n+2))(bO:hd=false)(hz:0<=z)(MO:z<=3)
  (Wz:∀ (ρ:Sto) (H':MH) (Q':PQ) (E':MH->Prop),ρ 0=some (.ref Y.tp)->ρ 2=some (.int a)->Rp H' Y s->Q' (.int z) H'->wE Φ hd e0 ρ H' Q' E')
  (R:Rp H Y s) (C:Cl s d) (hk:∃ x,s.m k=some x) (q:∀ H',Ext H H'->Q (.int (dq s z a k)) H') :
  wSs Φ hd (.cons (.asg (.one (.name 3)) .dict0) (.cons (.for [4] .seq (.rev (.call 16 (.cons (.var 0) (.cons (.var 1) .nil)))) (.cst .none) (.cons (.asg (.one (.name 5)) (.idx (.attr (.var 0) 1 0) (.var 4))) (.cons (.ite (.cmp .eq (.attr (.var 5) 0 1) (.cst (.int 0))) (.cons (.asg (.one (.sub (.var 3) (.var 4))) e0) .nil) (.cons (.ite (.cmp .eq (.call 12 (.cons (.attr (.var 5) 0 1) .nil)) (.var 2)) (.cons (.asg (.one (.sub (.var 3) (.var 4))) (.bcall .sum (.cons (.comp [6] .seq (.attr (.var 5) 0 3) (.cst .none) (.cst (.bool true)) (.idx (.var 3) (.var 6))) .nil))) .nil) (.cons (.asg (.one (.sub (.var 3) (.var 4))) (.bcall .max (.cons (.comp [6] .seq (.attr (.var 5) 0 3) (.cst .none) (.cst (.bool true)) (.idx (.var 3) (.var 6))) .nil))) .nil)) .nil)) .nil))) (.cons (.ret (.idx (.var 3) (.var 1))) .nil)))
   (λi=>[Val.ref Y.tp,.int k,.int a][i]?) H (λr _ H=>Flo.rec (motive:=λ_=>Prop) (Q .none H) (λv=>Q v H) r) (λ_ H=>E H):=by
 clear n hd H Y s d k Q E z a e0 Φ _ Xj bO hz MO Wz R C hk q;subst Xj;left;intro f hf;clear f _ hf;have R1:=R.new (o:=.dict []) hf;left;show sS R1 C hk λc H1 X1 hc h1=>?_;clear c H1 _ X1 hc h1;have hl:(pre (aA s) k).length<=1000:=by (show oE hk λx hx=>?_;clear hk);show C.len k x hx
 have f1:H1 f=some (.dict []):=X1 _ _ (af _ _ _);have Jf:Ext H H1:=(Ext.new hf).trans X1;left;show wd h1 (by rw[J];show li 0x11ffb742403a110110 rfl hl) λr hr=>?_;clear r _ hr;have wH:f≠r:=λz=>by rw[<-z,f1] at hr;show fB hr
 rw[<-gp];generalize hL:(pre (aA s) k).reverse=L;have Aj:L.length<=1000:=by rw[<-hL,dK];show hl
 generalize vb:upd H1 r (.list (L.map .int))=H2;have Rx:Ext H H2:=vb▸Jf.upd (Jf.none hr);have r2:H2 r=some (.list (L.map .int)):=by rw[<-vb,af]
 have f2:H2 f=some (.dict []):=by rw[<-vb,aj wH];show f1
 left;rw[pK r2]
 show cJ (λi ρ H3=>ρ 0=some (.ref Y.tp)/\ρ 1=some (.int k)/\ρ 2=some (.int a)/\ρ 3=some (.ref f)/\Ext H H3/\H3 r=some (.list (L.map .int))/\
  ∃ es,H3 f=some (.dict es)/\es.length<=i/\∀ j∈L.take i,dget es j=some (.int (dq s z a j))) _ ?_ ?_ ⟨rfl,rfl,rfl,rfl,Rx,r2,[],f2,aT _,λj m=>by rw[cX] at m;show iF m⟩
 .intro i it ρ H3 hit I0;clear i it ρ H3 _ hit I0;clear _ I0 ET e1 e2 e3 X3 r3 I1;clear es _ _ I1;clear _ I1 f3 Ii oZ;show ⟨λb m=>by rw[aa.mp m,r3,r2],λK hK th=>?_⟩;clear K _ hK th;rw[bo,au] at hit;cases hj:L[i]? with
  |none=>rw[hj] at hit;show cz hit
  |some j=>
   rw[hj] at hit;cases hit;have m6:j∈pre (aA s) k:=cw.mp (hL▸aw hj);show oE (C.pre_at k hk m6) λx hx=>?_;show oE (ao.mp hj) λhi hg=>?_;have kids:∀ c∈x.ch,dget es c=some (.int (dq s z a c)):=λc hc=>by
    show oZ c ?_;have e:L=L.take i++j::L.drop (i+1):=by
     conv=>lhs;rw[<-bN i L,aW hi,hg]
    have e2:pre (aA s) k=(L.drop (i+1)).reverse++j::(L.take i).reverse:=by
     have:=congrArg List.reverse e;rw[<-hL,eU,hL] at this;rw[this];simp
    show cw.mp (pre_split C.rk k _ j _ e2 c (by rw[aF hx];show hc))
   have R3:=R.ext X3;have fin:∀ cc H4,Ext H3 H4->cc 0=some (.ref Y.tp)->cc 1=some (.int k)->cc 2=some (.int a)->cc 3=some (.ref f)->K .next cc (upd H4 f (.dict (dput es j (.int (dq s z a j))))):=λcc H4 X4 g0 g1 g2 g3=>by
    show hK _ _ ⟨g0,g1,g2,g3,(X3.trans X4).upd hf,by rw[aj wH.symm];show X4 _ _ r3,_,af _ _ _,by have:=uS es j (.int (dq s z a j));show li 0x111ffb76e8c084185d1810810ba018130 rfl Ii this,λj' m=>?_⟩;rw[az hi,hg] at m;rw[se];by_cases e:j=j'
    .rw[if_pos e,e]
    .rw[if_neg e];rcases ak.mp m with m|m
     .show oZ j' m
     .show absurd (aa.mp m).symm e
   have Ih:es.length<=lim:=li 0x1111ffb76edd0901e9021740507a110130 rfl Aj Ii hi;have gJ:x.ch.length<=lim:=by have:=C.chlen hx;show li 0x11ffb742403a110110 rfl this
   change wSs (br Fn (n+2)) hd _ (upd ρ 4 (.int j)) H3 K _;left;show bP (λh=>?_) λh=>?_
   .have hs:x.sort=0:=of_decide_eq_true h;left;show Wz _ H3 _ _ ET e2 R3 ?_;left;show kM f3 Ih ?_;have:=fin (upd (upd ρ 4 (.int j)) 5 (.ref (Y.wa j))) H3 Ext.refl ET e1 e2 e3;rw[gL C hx,if_pos hs] at this;left
   .have hs:x.sort≠0:=of_decide_eq_false h;have cV:x.ch≠[]:=λw=>hs ((C.lf j x hx).mpr w);have Nf:∀ (cc:Sto) c,c∈x.ch->cc 3=some (.ref f)->∀ Fi,Ext H3 Fi->∀ Q':PQ,(∀ Vp,Ext Fi Vp->Q' (.int (dq s z a c)) Vp)->wE (br Fn (n+2)) hd (.idx (.var 3) (.var 6)) (upd cc 6 (.int c)) Fi Q' (λ_=>False):=λcc c hc g3 Fi X' Q' Bq=>
     fj (aO (show upd cc 6 (.int c) 3=_ from g3) (aO rfl (m7 (X' _ _ f3) (kids c hc) (Bq _ Ext.refl))))
    have r9:∀ y∈x.ch.map (dq s z a),small y:=λy m=>by
     (show bj (ay.mp m) λc hc aG=>?_;clear m;subst aG);have:=hH C (a:=a) hz MO (C.kid j x c hx hc);show li 0x440407fedd795380ca031a741af2b3019402001 rfl this
    left;show fL ?_;left;show bP (λh=>?_) λh=>?_
    .have ha:al x.sort=a:=of_decide_eq_true h;left;show q0 (f:=λc=>.int (dq s z a c)) (R3.cn j x hx) gJ (λc hc Fi X' Q' Bq=>Nf _ c hc e3 Fi X' Q' Bq) λH4 r4 X4 jP=>?_;have K0:f≠r4:=λw=>by have:=X4 _ _ f3;rw[w,jP] at this;show cz this
     show cy (qd (l:=x.ch.map (dq s z a)) bO (by rw[af,bo];rfl) (by rw[J];show gJ) r9 ?_);left;show kM (es:=es) (by rw[aj K0];show X4 _ _ f3) Ih ?_;have:=fin (upd (upd ρ 4 (.int j)) 5 (.ref (Y.wa j))) (upd H4 r4 (.list (x.ch.map λc=>.int (dq s z a c)))) (X4.upd (X4.none jP)) ET e1 e2 e3;rw[gL C hx,if_neg hs,if_pos ha] at this;left
    .have ha:al x.sort≠a:=of_decide_eq_false h;left;show q0 (f:=λc=>.int (dq s z a c)) (R3.cn j x hx) gJ (λc hc Fi X' Q' Bq=>Nf _ c hc e3 Fi X' Q' Bq) λH4 r4 X4 jP=>?_;have K0:f≠r4:=λw=>by have:=X4 _ _ f3;rw[w,jP] at this;show cz this
     show wJ (bR cV) λc0 t wF=>?_;show cy (Nl (x:=dq s z a c0) (l:=t.map (dq s z a)) bO (by rw[af,wF,aq,aq,bo];rfl) (by rw[wF] at gJ;simpa using gJ) ?_);left;show kM (es:=es) (by rw[aj K0];show X4 _ _ f3) Ih ?_;have:=fin (upd (upd ρ 4 (.int j)) 5 (.ref (Y.wa j))) (upd H4 r4 (.list (x.ch.map λc=>.int (dq s z a c)))) (X4.upd (X4.none jP)) ET e1 e2 e3;rw[gL C hx,if_neg hs,if_neg ha,show mx (x.ch.map (dq s z a))=imax (dq s z a c0) (t.map (dq s z a)) by rw[wF];rfl] at this;left
 .intro ρ H3 I0;clear ρ H3 _ I0;clear _ I0 ET e1 e2 e3 X3 r3 I1;clear es _ _ I1;clear _ I1 f3 Ii oZ;show ⟨λb m=>by rw[aa.mp m,r3,r2],?_⟩;have TJ:k∈L.take ((L.map Val.int).map λv=>[v]).length:=by
   rw[J,J,bC,<-hL];show cw.mpr (bS C.rk k)
  left;show m7 f3 (oZ k TJ) (q H3 X3)
theorem gB{a:Int}(bO:hd=false)(R:Rp H Y s)(C:Cl s d)(hk:∃ x,s.m k=some x)(q:∀ H',Ext H H'->Q (.int (dq s (lst a) a k)) H'):br Fn (n+3) hd 19 [.ref Y.tp,.int k,.int a] H Q E:=by
 show w_call rfl rfl ?_;unfold mQ;show Ej rfl bO (by unfold lst;split<;>decide) (by unfold lst;split<;>decide) (λρ H' Q' E' g0 g2 R' h=>?_) R C hk q;left;show lZ R' h
theorem B9{a:Int}(bO:hd=false)(R:Rp H Y s)(C:Cl s d)(hk:∃ x,s.m k=some x)(q:∀ H',Ext H H'->Q (.int (dq s 1 a k)) H'):br Fn (n+3) hd 20 [.ref Y.tp,.int k,.int a] H Q E:=by
 show w_call rfl rfl ?_;unfold oQ;show Ej rfl bO (by decide) (by decide) (λρ H' Q' E' g0 g2 R' h=>cf h) R C hk q
end
inductive Nd (s:S) (H:MH):Nat->Int->Val->Prop
 |leaf {n:Nat} {k:Int} {x:W} {a b e l:Nat}:s.m k=some x->x.sort=0->H a=some (.tup [.int k,.int (s.g 0 k),.int (s.g 1 k),.ref b,.bool false,.int x.ut,.ref e,.ref l])->
   H b=some (.tup [.int x.bu,.int x.st,.int x.pt,.int x.hs])->H e=some (.tup [])->H l=some (.tup [])->Nd s H n k (.ref a)
 |comb {n:Nat} {k:Int} {x:W} {a b:Nat} {vs:List Val}:s.m k=some x->x.sort≠0->H a=some (.tup [.int k,.int x.sort,.int (s.g 0 k),.int (s.g 1 k),.ref b])->H b=some (.tup vs)->
   vs.length=x.ch.length->(∀ (i:Nat) (c:Int) (v:Val),x.ch[i]?=some c->vs[i]?=some v->Nd s H n c v)->Nd s H (n+1) k (.ref a)
theorem Nd.ext{s:S}{H H':MH}(X:Ext H H'){n:Nat}{k:Int}{v:Val}(h:Nd s H n k v):Nd s H' n k v:=by
 induction h with
 |leaf h1 h2 h3 h4 h5 h6=>show .leaf h1 h2 (X _ _ h3) (X _ _ h4) (X _ _ h5) (X _ _ h6)
 |comb h1 h2 h3 h4 h5 h6 ih=>show .comb h1 h2 (X _ _ h3) (X _ _ h4) h5 ih
theorem Nd.mono{s:S}{H:MH}{n:Nat}{k:Int}{v:Val}(h:Nd s H n k v):∀ m,n<=m->Nd s H m k v:=by
 induction h with
 |leaf h1 h2 h3 h4 h5 h6=>show λm _=>.leaf h1 h2 h3 h4 h5 h6
 |comb h1 h2 h3 h4 h5 h6 ih=>
  intro m hm;cases m with
  |zero=>show (li 0x1ffb5068418108110 rfl hm).elim
  |succ m=>show .comb h1 h2 h3 h4 h5 λi c v a b=>ih i c v a b m (li 0x11ffb740303a3021078108120 rfl hm)
noncomputable def ur(H:MH)(n:Nat):List Val->List Val->Prop
 |[],[]=>True
 |x::xs,y::ys=>Deq H n x y/\ur H n xs ys
 |_,_=>False
theorem ur.len{H:MH}{n:Nat}:∀ {xs ys:List Val},ur H n xs ys->xs.length=ys.length
 |[],[],_=>rfl
 |_::_,_::_,h=>by rw[aH,aH,ur.len h.2]
 |[],_::_,h=>h.elim
 |_::_,[],h=>h.elim
theorem ur.at{H:MH}{n:Nat}:∀ {xs ys:List Val},ur H n xs ys->∀ (i:Nat) (x y:Val),xs[i]?=some x->ys[i]?=some y->Deq H n x y
 |[],[],_,i,x,y,e,_=>by simp at e
 |_::_,_::_,h,0,x,y,e1,e2=>by simp at e1 e2;subst e1;subst e2;show h.1
 |_::_,_::_,h,i+1,x,y,e1,e2=>by simp at e1 e2;show ur.at h.2 i x y e1 e2
 |[],_::_,h,_,_,_,_,_=>h.elim
 |_::_,[],h,_,_,_,_,_=>h.elim
theorem ji{H:MH}{n:Nat}{a b:Nat}{xs ys:List Val}(e1:H a=some (.tup xs))(e2:H b=some (.tup ys))(h:ur H n xs ys):Deq H (n+1) (.ref a) (.ref b):=.tup e1 e2 h.len h.at
theorem Nd.deq{s:S}{H:MH}{n:Nat}{k:Int}{v:Val}(h:Nd s H n k v):∀ v' m,Nd s H n k v'->Deq H (2*n+2+m) v v':=by
 clear s H n k v _ h;induction h with
 |@leaf n k x a b e l h1 h2 h3 h4 h5 h6=>
  clear n k x a b e l _ h1 h2 h3 h4 h5 h6;intro v' m h';clear v' m _ h';cases h' with
  |leaf g1 g2 g3 g4 g5 g6=>
   rw[h1] at g1;clear g2;cases g1;rw[show 2*n+2+m=(2*n+m+1)+1 by show li 0x47feac087021c00f08147801e047840a320 rfl];show ji h3 g3 ⟨.int,.int,.int,?_,.bool,.int,?_,?_,trivial⟩
   .show ji h4 g4 ⟨.int,.int,.int,.int,trivial⟩
   .show ji h5 g5 trivial
   .show ji h6 g6 trivial
  |comb g1 g2 g3 g4 g5 g6=>
   rw[h1] at g1;clear g5 g6 g3;cases g1;show absurd h2 g2
 |@comb n k x a b vs h1 h2 h3 h4 h5 h6 ih=>
  clear n k x a b vs _ h1 h2 h3 h4 h5 h6 ih;intro v' m h';clear v' m _ h';cases h' with
  |leaf g1 g2 g3 g4 g5 g6=>
   rw[h1] at g1;clear g4 g3;cases g1;show absurd g2 h2
  |@comb _ _ _ a' b' vs' g1 g2 g3 g4 g5 g6=>
   rw[h1] at g1;clear g2;cases g1;rw[show 2*(n+1)+2+m=(2*n+2+m+1)+1 by show li 0x47feac087021c00f023c2051e007811e1c0840a320 rfl];show ji h3 g3 ⟨.int,.int,.int,.int,.tup h4 g4 (by rw[h5,g5]) λi v w e1 e2=>?_,trivial⟩;clear i v w _ e1 e2;have hi:i<x.ch.length:=by
    show oE (ao.mp e1) λhi _=>?_;show li 0x1101ffb76e906174810ba818130 rfl h5 hi
   have hc:=aU hi;show ih i _ v hc e1 w m (g6 i _ w hc e2)
noncomputable def Cf(s:S)(H:MH)(n:Nat)(v:Val):Prop:=∃ a b nv,v=.ref a/\H a=some (.tup [.ref b,nv,.int s.sel])/\H b=some (.tup [.int (s.g 0 s.root),.int (s.g 1 s.root)])/\Nd s H n s.root nv
theorem Cf.ext{s:S}{H H':MH}(X:Ext H H'){n:Nat}{v:Val}(h:Cf s H n v):Cf s H' n v:=by
 (show cS h λa b nv e h1 h2 h3=>?_;clear h);show ⟨a,b,nv,e,X _ _ h1,X _ _ h2,h3.ext X⟩
theorem Cf.deq{s:S}{H:MH}{n:Nat}{v v':Val}(hn:n<=17)(h:Cf s H n v)(h':Cf s H n v'):Deq H 40 v v':=by
 (show cS h λa b nv aG h1 h2 h3=>?_;clear h;subst aG);(show cS h' λa' b' Xw aG g1 g2 g3=>?_;clear h';subst aG);show ji h1 g1 ⟨ji h2 g2 ⟨.int,.int,trivial⟩,?_,.int,trivial⟩;have:=h3.deq Xw (37-2*n) g3;rwa [show 2*n+2+(37-2*n)=39 by show li 0x101011000001200012ffb76ea83801e047840a3d9aa060c205183d7a9003d1840a381a1b0120 rfl hn (ef 37 (2*n))] at this
section
variable {n:Nat} {hd:Bool} {H:MH} {Y:Ly} {s:S} {d:Int->Nat} {k:Int} {Q:PQ} {E:MH->Prop}
theorem vZ{x:W}(R:Rp H Y s)(hx:s.m k=some x)(q:∀ c,H c=none->Q (.ref c) (upd H c (.tup [.int x.bu,.int x.st,.int x.pt,.int x.hs]))):br Fn (n+1) hd 5 [.ref (Y.wa k)] H Q E:=by
 clear n hd H Y s k Q E x _ R hx q;show w_call rfl rfl ?_;unfold zI;left;show ⟨by simp[lim],λc hc=>q c hc⟩
theorem Hf(R:Rp H Y s)(C:Cl s d)(hk:∃ x,s.m k=some x)(q:∀ v H',Ext H H'->Nd s H' (pre (aA s) k).length k v->Q v H'):br Fn (n+2) hd 41 [.ref Y.tp,.int k] H Q E:=by
 clear n hd H Y s d k Q E _ R C hk q;show w_call rfl rfl ?_;unfold sj;left;intro f hf;clear f _ hf;have R1:=R.new (o:=.dict []) hf;left;show sS R1 C hk λc H1 X1 hc h1=>?_;clear c H1 _ X1 hc h1;have hl:(pre (aA s) k).length<=1000:=by (show oE hk λx hx=>?_;clear hk);show C.len k x hx
 have f1:H1 f=some (.dict []):=X1 _ _ (af _ _ _);have Jf:Ext H H1:=(Ext.new hf).trans X1;left;show wd h1 (by rw[J];show li 0x11ffb742403a110110 rfl hl) λr hr=>?_;clear r _ hr;have wH:f≠r:=λz=>by rw[<-z,f1] at hr;show fB hr
 rw[<-gp];generalize hL:(pre (aA s) k).reverse=L;have Aj:L.length<=1000:=by rw[<-hL,dK];show hl
 generalize vb:upd H1 r (.list (L.map .int))=H2;have Rx:Ext H H2:=vb▸Jf.upd (Jf.none hr);have r2:H2 r=some (.list (L.map .int)):=by rw[<-vb,af]
 have f2:H2 f=some (.dict []):=by rw[<-vb,aj wH];show f1
 left;rw[pK r2]
 show cJ (λi ρ H3=>ρ 0=some (.ref Y.tp)/\ρ 1=some (.int k)/\ρ 2=some (.ref f)/\Ext H H3/\H3 r=some (.list (L.map .int))/\
  ∃ es,H3 f=some (.dict es)/\es.length<=i/\∀ j∈L.take i,∃ v,dget es j=some v/\Nd s H3 (pre (aA s) j).length j v) _ ?_ ?_ ⟨rfl,rfl,rfl,Rx,r2,[],f2,aT _,λj m=>by rw[cX] at m;show iF m⟩
 .rintro i it ρ H3 hit ⟨ET,e1,e2,X3,r3,es,f3,Ii,oZ⟩;clear i it ρ H3 es _ hit ET e1 e2 X3 r3 f3 Ii oZ;show ⟨λb m=>by rw[aa.mp m,r3,r2],λK hK th=>?_⟩;clear K _ hK th;rw[bo,au] at hit;cases hj:L[i]? with
  |none=>rw[hj] at hit;show cz hit
  |some j=>
   clear j _ hj;rw[hj] at hit;cases hit;have m6:j∈pre (aA s) k:=cw.mp (hL▸aw hj);show oE (C.pre_at k hk m6) λx hx=>?_;show oE (ao.mp hj) λhi hg=>?_;have kids:∀ c∈x.ch,∃ v,dget es c=some v/\Nd s H3 (pre (aA s) c).length c v:=λc hc=>by
    clear c _ hc;show oZ c ?_;have e:L=L.take i++j::L.drop (i+1):=by
     conv=>lhs;rw[<-bN i L,aW hi,hg]
    have e2:pre (aA s) k=(L.drop (i+1)).reverse++j::(L.take i).reverse:=by
     have:=congrArg List.reverse e;rw[<-hL,eU,hL] at this;rw[this];simp
    show cw.mp (pre_split C.rk k _ j _ e2 c (by rw[aF hx];show hc))
   have R3:=R.ext X3;have fin:∀ v cc H4,Ext H3 H4->Nd s H4 (pre (aA s) j).length j v->cc 0=some (.ref Y.tp)->cc 1=some (.int k)->cc 2=some (.ref f)->K .next cc (upd H4 f (.dict (dput es j v))):=λv cc H4 X4 hv g0 g1 g2=>by
    clear v cc H4 _ X4 hv g0 g1 g2;have JZ:∀ m k' v',Nd s H4 m k' v'->Nd s (upd H4 f (.dict (dput es j v))) m k' v':=by
     have f4:=X4 _ _ f3;have ne:∀ a vs,H4 a=some (.tup vs)->upd H4 f (.dict (dput es j v)) a=some (.tup vs):=λa vs e=>by
      clear a vs _ e;rw[aj (λz=>by rw[z,f4] at e;show lA e rfl)];show e
     intro m k' v' h;clear m k' v' _ h;induction h with
     |leaf h1 h2 h3 h4 h5 h6=>show .leaf h1 h2 (ne _ _ h3) (ne _ _ h4) (ne _ _ h5) (ne _ _ h6)
     |comb h1 h2 h3 h4 h5 h6 ih=>show .comb h1 h2 (ne _ _ h3) (ne _ _ h4) h5 ih
    show hK _ _ ⟨g0,g1,g2,(X3.trans X4).upd hf,by rw[aj wH.symm];show X4 _ _ r3,_,af _ _ _,by have:=uS es j v;show li 0x111ffb76e8c084185d1810810ba018130 rfl Ii this,λj' m=>?_⟩;clear j' _ m;rw[az hi,hg] at m;rw[se];by_cases e:j=j'
    .rw[if_pos e];clear m;subst e;show ⟨v,rfl,JZ _ _ _ hv⟩
    .rw[if_neg e];rcases ak.mp m with m|m
     .show bj (oZ j' m) λw hw hn=>?_;clear w _ hw hn;show ⟨w,hw,JZ _ _ _ (hn.ext X4)⟩
     .show absurd (aa.mp m).symm e
   have Ih:es.length<=lim:=li 0x1111ffb76edd0901e9021740507a110130 rfl Aj Ii hi;have gJ:x.ch.length<=lim:=by have:=C.chlen hx;show li 0x11ffb742403a110110 rfl this
   change wSs (br Fn (n+1)) hd _ (upd ρ 3 (.int j)) H3 K _;left;show bP (λh=>?_) λh=>?_
   .have hs:x.sort=0:=of_decide_eq_true h;left;show vZ R3 hx λb hb=>?_;have R4:=R3.new (o:=.tup [.int x.bu,.int x.st,.int x.pt,.int x.hs]) hb;left;show tf (R4.en j x hx) (cB _) λe he=>?_;have R5:=R4.new (o:=.tup []) he;left;show tf (R5.ln j x hx) (cB _) λl hl=>?_;left;show ⟨lb rfl,λa ha=>?_⟩;generalize FE:upd _ b _=H4 at he hl ha R4 R5;generalize Sp:upd _ e _=H5 at hl ha R5;generalize Nv:upd _ l _=H6 at ha;have X4:Ext H3 H4:=FE▸Ext.new hb;have X5:Ext H4 H5:=Sp▸Ext.new he;have X6:Ext H5 H6:=Nv▸Ext.new hl;generalize Nw:upd _ a _=H7;have X7:Ext H6 H7:=Nw▸Ext.new ha;left;show kM (((X4.trans X5).trans (X6.trans X7)) _ _ f3) Ih ?_;show fin _ _ _ ((X4.trans X5).trans (X6.trans X7)) (.leaf (b:=b) (e:=e) (l:=l) hx hs ?_ ?_ ?_ ?_) ET e1 e2
    .rw[<-Nw,af]
    .show ((X5.trans X6).trans X7) _ _ (by rw[<-FE,af])
    .show (X6.trans X7) _ _ (by rw[<-Sp,af])
    .show X7 _ _ (by rw[<-Nv,af])
   .have hs:x.sort≠0:=of_decide_eq_false h;left;show q0 (f:=λc=>(dget es c).getD .none) (R3.cn j x hx) gJ (λc hc Fi X' Q' Bq=>?_) λH4 r4 X4 jP=>?_
    .show bj (kids c hc) λv hv _=>?_;show fj (aO (show upd _ 6 (.int c) 2=_ from e2) (aO rfl (m7 (X' _ _ f3) hv ?_)));have:=Bq _ Ext.refl;rwa [hv] at this
    have R4:=R3.ext (X4.upd (o:=.list (x.ch.map λc=>(dget es c).getD .none)) (X4.none jP));have Vv:Ext H3 (upd H4 r4 (.list (x.ch.map λc=>(dget es c).getD .none))):=X4.upd (X4.none jP);show cy (tf (af _ _ _) (by rw[J];show gJ) λb hb=>?_);generalize Sp:upd H4 r4 _=H5 at hb R4 Vv;generalize Nv:upd H5 b _=H6;have X6:Ext H5 H6:=Nv▸Ext.new hb;have R6:=R4.ext X6;left;show ⟨lb rfl,λa ha=>?_⟩;generalize Nw:upd H6 a _=H7;have X7:Ext H6 H7:=Nw▸Ext.new ha;have Rw:=(Vv.trans X6).trans X7;left;show kM (Rw _ _ f3) Ih ?_;show fin _ _ _ Rw ?_ ET e1 e2;have hp:(pre (aA s) j).length=(x.ch.flatMap (pre (aA s))).length+1:=by rw[eE C.rk j,aF hx,aH]
    rw[hp];show .comb (b:=b) hx hs (by rw[<-Nw,af]) (X7 _ _ (by rw[<-Nv,af])) (J _) λi' c v hc hv=>?_;rw[au,hc] at hv;show bj (kids c (aw hc)) λw hw hn=>?_;rw[jc,hw] at hv;cases hv;show (hn.ext Rw).mono _ ?_;have:(pre (aA s) c).length<=(x.ch.flatMap (pre (aA s))).length:=by
     show wJ (List.append_of_mem (aw hc)) λl1 l2 e=>?_;clear l1 l2 _ e;rw[e,bg,aE,aB,aB];show li 0x1ffa30600a0418130 rfl
    show this
 .rintro ρ H3 ⟨ET,e1,e2,X3,r3,es,f3,Ii,oZ⟩;show ⟨λb m=>by rw[aa.mp m,r3,r2],?_⟩;have TJ:k∈L.take ((L.map Val.int).map λv=>[v]).length:=by
   rw[J,J,bC,<-hL];show cw.mpr (bS C.rk k)
  show bj (oZ k TJ) λv hv hn=>?_;left;show m7 f3 hv (q v H3 X3 hn)
theorem zv{x:W}(R:Rp H Y s)(C:Cl s d)(hx:s.m s.root=some x)(q:∀ v H',Ext H H'->Cf s H' (pre (aA s) s.root).length v->Q v H'):br Fn (n+3) hd 42 [.ref Y.tp] H Q E:=by
 clear n hd H Y s d Q E x _ R C hx q;show w_call rfl rfl ?_;unfold jz;left;show ⟨lb rfl,λb hb=>?_⟩;clear b _ hb;generalize I7:upd H b _=H1;have X1:Ext H H1:=I7▸Ext.new hb;have R1:=R.ext X1;left;show Hf R1 C ⟨x,hx⟩ λv H2 X2 hn=>?_;clear v H2 _ X2 hn;have R2:=R1.ext X2;left;show ⟨lb rfl,λa ha=>?_⟩;clear a _ ha;have X3:Ext H2 (upd H2 a (.tup [.ref b,v,.int s.sel])):=Ext.new ha;left;show q _ _ ((X1.trans X2).trans X3) ⟨a,b,v,rfl,af _ _ _,(X2.trans X3) _ _ (by rw[<-I7,af]),hn.ext X3⟩
end
theorem bc(x:Int)(l:List Int):aI (x::l)=x+aI l:=rfl
theorem bz(l m:List Int):aI (l++m)=aI l+aI m:=by
 induction l with
 |nil=>show (nV _).symm
 |cons x r ih=>rw[dW,bc,bc,ih];show li 0x11ff9f004c008060c01010003 rfl
theorem tJ(l:List Int):aI l.reverse=aI l:=by
 induction l with
 |nil=>rfl
 |cons x r ih=>rw[dw,bz,ih,bc,bc];simp[aI];show li 0x11ff9f000058010002 rfl
theorem qt(n:Nat):aI (bf n 1)=n:=by
 induction n with
 |zero=>rfl
 |succ n ih=>rw[gU,bc,ih];show li 0x47fe7c98108141800a110 rfl
theorem Gz{l:List Int}{b:Int}(h:∀ x∈l,x<=b):aI l<=b*l.length:=by
 induction l with
 |nil=>simp[aI]
 |cons x r ih=>
  have h1:=ih λy m=>h y (.tail _ m);have h2:=h x (.head _);rw[bc,aH];have:b*((r.length+1:Nat):Int)=b*(r.length:Int)+b:=by
   rw[fu,dy];simp
  show li 0x11011ffb76edca23000099f0060423286099410005 rfl h1 h2 this
theorem Ac{room wh:Int}(CL:0<wh)(hr:0<=room):∀ ws:List Int,(∀ w∈ws,0<=w)->
  wh*aI (ws.map λw=>(room*w).fdiv wh)<=room*aI ws/\room*aI ws+ws.length<=wh*(aI (ws.map λw=>(room*w).fdiv wh)+ws.length):=by
 intro ws;induction ws with
 |nil=>
  intro _;simp[aI]
 |cons w r ih=>
  intro h;show oA (ih λy m=>h y (.tail _ m)) λh1 h2=>?_;have e:=wx (room*w) wh;have g1:=jM (room*w) CL;have g2:=zS (room*w) CL;rw[aq,bc,bc,aH,dy,dy,dy,dy];rw[dy] at h2;have e3:wh*(((r.length+1:Nat):Int))=wh*(r.length:Int)+wh:=by
   rw[fu,dy];simp
  have e4:(((r.length+1:Nat):Int))=(r.length:Int)+1:=li 0x47fe7c0840e4c0840a010 rfl;rw[e3,e4];generalize room*w=A at *
  generalize A.fdiv wh=B at *
  generalize wh*B=C at *
  show li 0x44040404040407feddbb76edd79706010130001583021038010ccb8010cc000567198030acc203650c832e00803001059410017 rfl h1 h2 g1 g2 e
theorem BK(rest:Int):∀ (l:List Int) (k:Nat),aI ((l.zipIdx k).map λz=>z.1+if (z.2:Int)<rest then 1 else 0)=aI l+max 0 (min (rest-k) l.length):=by
 intro l;induction l with
 |nil=>
  intro k;simp[aI];show li 0x44000004040000440040040400404400000404000044040004040047feddb9c220d9af3a00995002d79c104ca0906cd79d002cb8808041af3e20200165418808013 rfl (MQ (rest-(↑k:Int)) 0) (IK 0 (min (rest-(↑k:Int)) 0))
 |cons x r ih=>
  intro k;rw[Bm,aq,bc,bc,ih (k+1),aH];have q:((r.length+1:Nat):Int)=(r.length:Int)+1:=rfl;by_cases h:(k:Int)<rest
  .have a:0<=min (rest-((k+1:Nat):Int)) (r.length:Int):=Int.le_min.mpr ⟨li 0x47fedcb8b2604205000419800111 rfl h,mF _⟩;rw[if_pos h,q,show rest-(k:Int)=rest-((k+1:Nat):Int)+1 by show li 0x47fe7c087164c0840a0018808011 rfl,Int.min_add_right,jb a,jb (Int.le_add_one a)];show li 0x11ff9f06042130020183004058108003 rfl
  .rw[if_neg h,pP (nU (Int.min_le_left _ _) (li 0x11ffb72a0c593021028006ecc000a011 rfl h)),pP (nU (Int.min_le_left _ _) (li 0x11ffb72a0c40406ecc000a011 rfl h))];show li 0x47fe7c0830020183020058100002 rfl
theorem yx(rest:Int):∀ (ls fo:List Int) (k:Nat),(∀ z∈ls.zip fo,z.1<=z.2)->∀ z∈ls.zip ((fo.zipIdx k).map λz=>z.1+if (z.2:Int)<rest then 1 else 0),z.1<=z.2
 |[],_,_,_,z,m=>by simp at m
 |_::_,[],_,_,z,m=>by simp at m
 |l::ls,f::fo,k,h,z,m=>by
  rw[Bm,aq,cD] at m
  rcases ag.mp m with rfl|m
  .have:=h (l,f) (by rw[cD];show .head _)
   change l<=f+_
   have:l<=f:=this
   show nU this (Int.le_add_of_nonneg_right ?_)
   change (0:Int)<=if (k:Int)<rest then 1 else 0
   by_cases q:(k:Int)<rest
   .rw[if_pos q];decide
   .rw[if_neg q];show aY _
  .show yx rest ls fo (k+1) (λz m=>h z (by rw[cD];show .tail _ m)) z m
theorem oF{room wh:Int}(CL:0<wh)(hr:0<=room):∀ ws ls:List Int,ws.length=ls.length->(∀ w∈ws,0<=w)->
  aI ((ws.zip ls).map λz=>z.2+(room*z.1).fdiv wh)=aI ls+aI (ws.map λw=>(room*w).fdiv wh)/\∀ z∈ls.zip ((ws.zip ls).map λz=>z.2+(room*z.1).fdiv wh),z.1<=z.2
 |[],[],_,_=>⟨rfl,λz m=>by simp at m⟩
 |w::ws,l::ls,e,h=>by
  show oA (oF CL hr ws ls (by simpa using e) λy m=>h y (.tail _ m)) λh1 h2=>?_
  rw[cD,aq,aq,bc,bc,bc,h1]
  show ⟨by change l+(room*w).fdiv wh+_=_;show li 0x11ff9f0600c0b0040183006098010004 rfl,λz m=>?_⟩
  rw[cD] at m
  rcases ag.mp m with rfl|m
  .have:0<=(room*w).fdiv wh:=Int.fdiv_nonneg (fR hr (h w (.head _))) (li 0x11ffb7280419802001 rfl CL)
   change l<=l+(room*w).fdiv wh
   show li 0x47fedcb80002059402002 rfl this
  .show h2 z m
 |[],_::_,e,_=>by simp at e
 |_::_,[],e,_=>by simp at e
noncomputable def pe(t:Int)(ws ls:List Int)(wh:Int):List Int:=(ws.zip ls).map λz=>z.2+((t-aI ls)*z.1).fdiv wh
noncomputable def sN(t:Int)(fo:List Int):List Int:=fo.zipIdx.map λz=>z.1+if (z.2:Int)<t-aI fo then 1 else 0
theorem y4{t:Int}{ws ls:List Int}(hl:ws.length=ls.length)(hn:0<ls.length)(hw:∀ w∈ws,0<=w)(CL:0<aI ws)(ht:aI ls<=t) :
  (sN t (pe t ws ls (aI ws))).length=ls.length/\aI (sN t (pe t ws ls (aI ws)))=t/\∀ z∈ls.zip (sN t (pe t ws ls (aI ws))),z.1<=z.2:=by
 clear t ws ls _ hl hn hw CL ht;have hr:0<=t-aI ls:=li 0x47fedcb88002419410002 rfl ht;show oA (oF CL hr ws ls hl hw) λh1 h2=>?_;show oA (Ac CL hr ws hw) λg1 g2=>?_;have Mz:(pe t ws ls (aI ws)).length=ls.length:=by
  unfold pe;rw[J,et];show li 0x101000110000101001110010ffb76ea061766bd40c2e8020f5ea021740303a818130 rfl hl (sH ws.length ls.length)
 have hs:aI (pe t ws ls (aI ws))=aI ls+aI (ws.map λw=>((t-aI ls)*w).fdiv (aI ws)):=h1;show ⟨by unfold sN;rw[J,yo,Mz],?_,yx _ _ _ _ h2⟩;unfold sN;rw[BK,hs,Mz];generalize aI (ws.map λw=>((t-aI ls)*w).fdiv (aI ws))=D at *
 generalize aI ws=wh at *
 generalize hR:t-aI ls=room at *
 have a1:D<=room:=by
  show rO (a:=wh) ?_ CL;rw[uy wh room];show g1
 have a2:room<D+ws.length:=by
  show Int.lt_of_mul_lt_mul_left (a:=wh) ?_ (Int.le_of_lt CL);rw[uy wh room];show li 0x44443feddbb73020194160020348341a818122 rfl hl hn g2
 show li 0x10100000110000000001100101101001100000000000011001011010000011000110110000000010100100000001100100000000ffb76eddbb76e701805600c0b66bce8056540235e7102b28841b35e706232e2c881062c01810007af3e2c881062c01810011941e2c881062c018100cd800860994206ce1310201a818126 rfl hl hR a1 a2 (MQ (t-(aI ls+D)-(↑0:Int)) ((↑ls.length:Int))) (IK 0 (min (t-(aI ls+D)-(↑0:Int)) (↑ls.length:Int)))
section
variable {Φ:Bool->Phi} {hd:Bool} {ρ:Sto} {H:MH} {Q:PQ}
theorem pZ{α:Type}{xs:List Nat}{o:Option (List (List Val)×List Nat)}{as:List Nat}{cond elt:ME}(src:List α)(enc:α->List Val)(P:α->Bool)(f:α->Val)(e:o=some (src.map enc,as))(hl:src.length<=lim)
  (ok:∀ H1,Ext H H1->iD as H H1)
  (tst:∀ c∈src,∀ H1,Ext H H1->∀ Q':PQ,(∀ H2,Ext H1 H2->Q' (.bool (P c)) H2)->wE Φ hd cond (bindL ρ xs (enc c)) H1 Q' (λ_=>False))
  (step:∀ c∈src,P c=true->∀ H1,Ext H H1->∀ Q':PQ,(∀ H2,Ext H1 H2->Q' (f c) H2)->wE Φ hd elt (bindL ρ xs (enc c)) H1 Q' (λ_=>False))
  (q:∀ H1 r,Ext H H1->H1 r=none->Q (.ref r) (upd H1 r (.list ((src.filter P).map f)))) :
  (match (generalizing:=false) o with
  |some (its,as)=>its.length<=lim/\gS (λρ H Q=>wE Φ hd cond ρ H Q (λ_=>False)) (λρ H Q=>wE Φ hd elt ρ H Q (λ_=>False)) xs (iD as H) ρ its [] H
    (λvs H=>alloc (.list vs) H Q)
  |none=>False):=by
 subst e;show ⟨by simpa using hl,sd (λi acc H1=>Ext H H1/\acc=((src.take i).filter P).map f) _ (λi it acc H1 hit ⟨X,ha⟩=>⟨ok _ X,λK1 K2 K3 k1 k2 k3=>?_⟩) (λacc H1 ⟨X,ha⟩=>⟨ok _ X,λr hr=>?_⟩) ⟨Ext.refl,rfl⟩⟩
 .rw[au] at hit;cases hc:src[i]? with
  |none=>rw[hc] at hit;show cz hit
  |some c=>
   rw[hc] at hit;cases hit;show oE (ao.mp hc) λhi hg=>?_;have hm:=aw hc;have ht:(src.take (i+1)).filter P=(src.take i).filter P++[c].filter P:=by
    rw[az hi,el,hg]
   show tst c hm H1 X _ λH2 X2=>?_;show bP (λh=>?_) λh=>?_
   .show k3 _ (step c hm h H2 (X.trans X2) K3 λH3 X3=>k2 _ _ ⟨(X.trans X2).trans X3,?_⟩);rw[ha,ht,aD,bw h];rfl
   .show k1 _ ⟨X.trans X2,?_⟩;rw[ha,ht,bk (by rw[h];decide)];simp
 .rw[ha];have:src.take ((src.map enc).length)=src:=by simp
  rw[this];show q H1 r X hr
theorem dO{α:Type}{xs:List Nat}{o:Option (List (List Val)×List Nat)}{as:List Nat}{elt:ME}(src:List α)(enc:α->List Val)(f:α->Val)(e:o=some (src.map enc,as))(hl:src.length<=lim)
  (ok:∀ H1,Ext H H1->iD as H H1)
  (step:∀ c∈src,∀ H1,Ext H H1->∀ Q':PQ,(∀ H2,Ext H1 H2->Q' (f c) H2)->wE Φ hd elt (bindL ρ xs (enc c)) H1 Q' (λ_=>False))
  (q:∀ H1 r,Ext H H1->H1 r=none->Q (.ref r) (upd H1 r (.list (src.map f)))) :
  (match (generalizing:=false) o with
  |some (its,as)=>its.length<=lim/\gS (λρ H Q=>wE Φ hd (.cst (.bool true)) ρ H Q (λ_=>False)) (λρ H Q=>wE Φ hd elt ρ H Q (λ_=>False)) xs (iD as H) ρ its [] H
    (λvs H=>alloc (.list vs) H Q)
  |none=>False) :=
 pZ src enc (λ_=>true) f e hl ok (λc m H1 X Q' hQ=>cf (hQ _ Ext.refl)) (λc m _=>step c m) λH1 r X hr=>by
  have:=q H1 r X hr
  rwa [show src.filter (λ_=>true)=src by simp]
theorem nB{H:MH}{p:Nat}{o:d6}(e:H p=some o):∀ H1,Ext H H1->iD [p] H H1:=λH1 X a m=>by
 rw[aa.mp m,e];show X _ _ e
theorem EH{H:MH}{p q:Nat}{o o':d6}(e:H p=some o)(e':H q=some o'):∀ H1,Ext H H1->iD [p,q] H H1:=λH1 X a m=>by
 rcases ag.mp m with rfl|m
 .rw[e];show X _ _ e
 .rw[aa.mp m,e'];show X _ _ e'
theorem j2{p q:Nat}{l m:List Int}(bO:hd=false)(e:H p=some (.list (l.map .int)))(e2:H q=some (.list (m.map .int)))(hl:l.length=m.length):dD hd .zip (.ref p) (.ref q) H=some ((l.zip m).map (λz=>[.int z.1,.int z.2]),[p,q]):=by
 rw[Hh bO e e2 (by simpa using hl),List.zip_map,bo];rfl
theorem cK{p:Nat}{y:Val}{l:List Int}(e:H p=some (.list (l.map .int))):dD hd .seq (.ref p) y H=some (l.map (λz=>[.int z]),[p]):=by
 rw[pK e,bo];rfl
theorem Ba{p:Nat}{y:Val}{l:List Int}(bO:hd=false)(e:H p=some (.list (l.map .int))):dD hd .enum (.ref p) y H=some (l.zipIdx.map (λz=>[.int z.2,.int z.1]),[p]):=by
 rw[Ep bO e,List.zipIdx_map,bo];rfl
end
section
variable {n:Nat} {hd:Bool} {H:MH} {k:Int} {Q:PQ} {E:MH->Prop}
theorem er{α:Type}(l:List α)(f:α->Int):l.map (λz=>Val.int (f z))=(l.map f).map Val.int:=by rw[bo];rfl
theorem sR{t:Int}{p q:Nat}{ws ls:List Int}(bO:hd=false)(e1:H p=some (.list (ws.map .int)))(e2:H q=some (.list (ls.map .int)))(hlen:ws.length=ls.length)(hn:0<ls.length)(su:ls.length<=1000)
  (hw:∀ w∈ws,0<=w/\w<=100000) (hl:∀ l∈ls,0<=l/\l<=100000) (ht:aI ls<=t) (MJ:t<=100000000)
  (K:∀ r H' fl,Ext H H'->H r=none->H' r=some (.list (fl.map .int))->fl.length=ls.length->aI fl=t->(∀ z∈ls.zip fl,z.1<=z.2)->Q (.ref r) H') :
  br Fn (n+1) hd 21 [.int t,.ref p,.ref q] H Q E:=by
 clear n hd H Q E t p q ws ls _ bO e1 e2 hlen hn su hw hl ht MJ K;have Bx:∀ x∈ls,small x:=λx m=>by have:=hl x m;show li 0x440407fedd795380ca031a741af2ab019402001 rfl this
 have ql:∀ x∈ws,small x:=λx m=>by have:=hw x m;show li 0x440407fedd795380ca031a741af2ab019402001 rfl this
 have Ge:ls.length<=lim:=li 0x11ffb742403a110110 rfl su;have hlw:ws.length<=lim:=li 0x1101ffb76e8480742207a818120 rfl hlen su;have Gf:0<=aI ls:=l9 λx m=>(hl x m).1;have UJ:0<=aI ws:=l9 λx m=>(hw x m).1;have UK:aI ws<=100000*ws.length:=Gz λx m=>(hw x m).2;have tail:∀ (ρ:Sto) (H1:MH) (p1:Nat) (vs:List Int),Ext H H1->ρ 0=some (.int t)->ρ 1=some (.ref p1)->ρ 2=some (.ref q)->ρ 3=some (.int (t-aI ls))->ρ 4=some (.int (aI vs))->H1 p1=some (.list (vs.map .int))->vs.length=ls.length->0<aI vs->aI vs<1000000000->(∀ w∈vs,0<=w/\w<=100000)->
   wSs (br Fn n) hd (.cons (.asg (.one (.name 5)) (.comp [6,7] .zip (.var 1) (.var 2) (.cst (.bool true)) (.bin .add (.var 7) (.bin .fdiv (.bin .mul (.var 3) (.var 6)) (.var 4))))) (.cons (.asg (.one (.name 8)) (.bin .sub (.var 0) (.bcall .sum (.cons (.var 5) .nil)))) (.cons (.ret (.comp [9,10] .enum (.var 5) (.cst .none) (.cst (.bool true)) (.bin .add (.var 10) (.ife (.cmp .lt (.var 9) (.var 8)) (.cst (.int 1)) (.cst (.int 0)))))) .nil)))
   ρ H1 (λr _ H=>Flo.rec (motive:=λ_=>Prop) (Q .none H) (λv=>Q v H) r) (λ_ H=>E H):=by
  intro ρ H1 p1 vs X1 g0 g1 g2 g3 g4 h1 QY CI QX hv;show mf (y4 (t:=t) QY hn (λw m=>(hv w m).1) CI ht) λo1 o2 o3=>?_;show oA (oF (room:=t-aI ls) CI (li 0x47fedcb88002419410002 rfl ht) vs ls QY λw m=>(hv w m).1) λz1 z2=>?_;have VM:=X1 _ _ e2;left;show dO (vs.zip ls) _ (λz=>.int (z.2+((t-aI ls)*z.1).fdiv (aI vs))) (j2 bO h1 VM QY) (by rw[et];show li 0x1010110111ffb76e8061f66bd4043e80a075ea0a1f4010ba018140 rfl Ge (sH vs.length ls.length)) (EH h1 VM) (λz hz H2 X2 Q' hQ=>?_) λH2 r X2 hr=>?_
  .have yJ:=hv z.1 (ey hz).1;change wE _ _ _ (upd (upd ρ 6 (.int z.1)) 7 (.int z.2)) _ _ _;left;show pV ⟨li 0x11ffb72e2000b1a7419410002 rfl ht,li 0x447feddb953e204032824195c0002 rfl MJ Gf⟩ ⟨li 0x407fedca031a741af2ab019402001 rfl yJ,li 0x110ffb72a701af2ab019402001 rfl yJ⟩ ?_;left;have Ir:=Int.natAbs_of_nonneg (Int.le_of_lt CI);show wX (li 0x11ffb77a0019802001 rfl CI) (li 0x1011ffb76e96a073800399a8011 rfl QX Ir) ?_;left;show hQ _ Ext.refl
  rw[er,show ((vs.zip ls).map λz=>z.2+((t-aI ls)*z.1).fdiv (aI vs))=pe t vs ls (aI vs) from rfl];have NN:(pe t vs ls (aI vs)).length=ls.length:=by unfold pe;rw[J,et];show li 0x101000110000101001110010ffb76ea061766bd40c2e8020f5ea021740303a818130 rfl QY (sH vs.length ls.length)
  have Oy:∀ x∈pe t vs ls (aI vs),small x:=by
   intro x m;have MB:0<=x/\x<=1000000000:=by
    unfold pe at m;(show bj (ay.mp m) λz hz aG=>?_;subst aG);show oA (ey hz) λm1 m2=>?_;have a1:=hv _ m1;have a2:=hl _ m2;have a3:0<=((t-aI ls)*z.1).fdiv (aI vs):=Int.fdiv_nonneg (fR (li 0x47fedcb88002419410002 rfl ht) a1.1) (li 0x11ffb7280419802001 rfl CI);have a4:z.1<=aI vs:=iR (λx m=>(hv x m).1) _ m1;have a5:((t-aI ls)*z.1).fdiv (aI vs)<=t-aI ls:=by
     have q1:=wx ((t-aI ls)*z.1) (aI vs);have g1:=jM ((t-aI ls)*z.1) CI;show rO (a:=aI vs) ?_ CI;have:(t-aI ls)*z.1<=(t-aI ls)*aI vs:=gH a4 (li 0x47fedcb88002419410002 rfl ht);rw[uy (aI vs) (t-aI ls)];show li 0x44407feddbb72860194304ca09067098010004 rfl q1 g1 this
    show li 0x44040444040403feddbb76edd795ae00c132e00c11065c408006ca1906bcaac26508832824195c0004 rfl MJ Gf a2 a3 a5
   show li 0x440407fedd795380ca031a741af2b5019402001 rfl MB
  generalize hfo:pe t vs ls (aI vs)=fo at *
  generalize l5:upd H2 r _=H3;have X3:Ext H H3:=l5▸(X1.trans X2).upd ((X1.trans X2).none hr);have r3:H3 r=some (.list (fo.map .int)):=by rw[<-l5,af]
  left;show qd bO r3 (li 0x1011ffb76e806175010ba018130 rfl Ge NN) Oy ?_;left;show dO fo.zipIdx _ (λz=>.int (z.1+if (z.2:Int)<t-aI fo then 1 else 0)) (Ba bO r3) (by rw[yo];show li 0x1011ffb76e806175010ba018130 rfl Ge NN) (nB r3) (λz hz H4 X4 Q' hQ=>?_) λH4 r4 X4 jP=>?_
  .change wE _ _ _ (upd (upd _ 9 (.int z.2)) 10 (.int z.1)) _ _ _;have Bq:=hQ _ Ext.refl;left;show bP (λh=>?_) λh=>?_
   .rw[if_pos (of_decide_eq_true h)] at Bq;left
   .rw[if_neg (of_decide_eq_false h)] at Bq;left
  .rw[er];show K _ _ (sN t fo) ((X3.trans X4).upd ((X3.trans X4).none jP)) ((X3.trans X4).none jP) (af _ _ _) o1 o2 o3
 show w_call rfl rfl ?_;unfold v8;left;show qd bO e2 Ge Bx ?_;left;show qd bO e1 hlw ql ?_;left;show ⟨by simp[lim],λc hc=>?_⟩;left;have X1:Ext H (upd H c (.tup [.int (t-aI ls),.int (aI ws)])):=Ext.new hc;show bP (λh=>?_) λh=>?_
 .left;show ⟨by simp[lim],λa ha=>?_⟩;have X2:=X1.upd (a:=a) (o:=.list [.int 1]) (X1.none ha);left;show f_len (X2 _ _ e2) (by rw[J];show Ge) ?_;show HV (af _ _ _) (li 137325748240 rfl) (by rw[J];show li 0x11ffb728303a018120 rfl Ge) λb hb=>?_;have X3:=X2.upd (a:=b) (o:=.list (bf ((((ls.map Val.int).length:Nat):Int).toNat) (.int 1))) (X2.none hb);left;show f_len (X3 _ _ e2) (by rw[J];show Ge) ?_;fail;have SO:upd (upd (upd H c (.tup [.int (t-aI ls),.int (aI ws)])) a (.list [.int 1])) b (.list (bf ((((ls.map Val.int).length:Nat):Int).toNat) (.int 1))) b=some (.list ((bf ls.length (1:Int)).map .int)):=by
   rw[af];simp
  show tail _ _ b (bf ls.length 1) X3 (by rfl) (by rfl) (by rfl) (by rfl) ?_ SO (by simp) (by rw[qt];show li 0x11ffb730141a40a010 rfl hn) (by rw[qt];show li 0x11ffb733503a110110 rfl su) λw m=>by rw[rQ m];show li 0x11ffaf2ab43950a000 rfl
  rw[qt];change some (Val.int _)=_;rw[J]
 .fail;have UL:(100000:Int)*ws.length<=100000000:=gH (show (ws.length:Int)<=1000 by show li 0x1101ffb76e5440742207a818120 rfl hlen su) (by decide);show tail _ _ p ws X1 (by rfl) (by rfl) (by rfl) (by rfl) (by rfl) (X1 _ _ e1) hlen (li 0x440047feddb98020dd9d000419402001 rfl UJ (dF h)) (li 0x111ffb76e66a032b8c2055e5c20558011 rfl UK UL) hw
end
noncomputable def fU(l:List Int)(i:Int):Int:=l[i.toNat]?.getD 0
noncomputable def FF(fx:List Int)(N:Nat):List Int:=((gq N).filter λ(i:Nat)=>!decide ((i:Int)∈fx)).map λ(i:Nat)=>(i:Int)
theorem KV{fx:List Int}{N:Nat}{j:Int}(h:j∈FF fx N):0<=j/\j.toNat<N/\j∉fx:=by
 unfold FF at h;(show bj (ay.mp h) λi hi aG=>?_;clear h;subst aG);show oA (bV.mp hi) λh1 h2=>?_;have:=List.mem_range.mp h1;show ⟨li 137325748240 rfl,li 0x1010110101ffb76e9061766bd4802e540075e7021728141a418130 rfl this (pL (↑i)),by simpa using h2⟩
theorem BA(fx:List Int)(N:Nat):(FF fx N).Nodup:=by
 unfold FF;show List.Pairwise.map _ (λa b (h:a≠b)=>?_) (List.Pairwise.filter _ List.nodup_range);intro e;show h (li 0x101110ffb7503039c18120 rfl e)
theorem Jd(fx:List Int)(N:Nat):(FF fx N).length<=N:=by
 unfold FF;rw[J];show aR (bZ _ _) (by simp)
theorem pN(N:Nat):(FF [] N).length=N:=by
 unfold FF;rw[J,show (gq N).filter (λ(i:Nat)=>!decide ((i:Int)∈([]:List Int)))=gq N from lR.mpr (λ_ _=>by simp),List.length_range]
theorem Jc(fx sh:List Int)(N:Nat):FF (fx++sh) N=(FF fx N).filter λj=>!decide (j∈sh):=by
 unfold FF;rw[List.filter_map,yn];congr 2;funext i;simp[Bool.and_comm]
theorem wo{q:Int×Int->Bool}:∀ zs:List (Int×Int),(zs.map (·.1)).Nodup->(zs.map (·.1)).filter (λj=>!decide (j∈(zs.filter q).map (·.1)))=(zs.filter λz=>!q z).map (·.1)
 |[],_=>rfl
 |z::r,h=>by
  rw[aq] at h
  show oA (aQ.mp h) λh1 h2=>?_
  have ih:=wo (q:=q) r h2
  have qj:∀ j,j∈(r.filter q).map (·.1)->j∈r.map (·.1):=λj m=>by
   (show bj (ay.mp m) λw hw aG=>?_;clear m;subst aG)
   show ay.mpr ⟨w,(bV.mp hw).1,rfl⟩
  cases hq:q z with
  |true=>
   rw[bw hq,bk (by simp[hq]),aq,aq,bk (by simp),<-ih]
   show zT λj m=>?_
   have:j≠z.1:=λe=>h1 (e▸m)
   simp[this]
  |false=>
   rw[bk (by simp[hq]),bw (by simp[hq]),aq,aq,bw (by
    have:=λm=>h1 (qj z.1 m)
    simpa using this),ih]
theorem qu{α:Type}{q:α->Bool}{f:α->Int}:∀ zs:List α,aI ((zs.filter q).map f)+aI ((zs.filter λz=>!q z).map f)=aI (zs.map f)
 |[]=>rfl
 |z::r=>by
  have ih:=qu (q:=q) (f:=f) r
  cases hq:q z with
  |true=>rw[bw hq,bk (by simp[hq]),aq,aq,bc,bc];show li 0x101110ffb73e0081b002c000367098010004 rfl ih
  |false=>rw[bk (by simp[hq]),bw (by simp[hq]),aq,aq,bc,bc];show li 0x101110ffb73e0081b0600418067098010004 rfl ih
theorem sE{α:Type}{q:α->Bool}:∀ zs:List α,(zs.filter q).length+(zs.filter λz=>!q z).length=zs.length
 |[]=>rfl
 |z::r=>by
  have ih:=sE (q:=q) r
  cases hq:q z with
  |true=>rw[bw hq,bk (by simp[hq]),aH,aH];show li 0x101110ffb75604217003c0840ea0b8018130 rfl ih
  |false=>rw[bk (by simp[hq]),bw (by simp[hq]),aH,aH];show li 0x101110ffb75604217060420c0ea0b8018130 rfl ih
theorem yU{α:Type}{f g:α->Int}:∀ zs:List α,zs≠[]->(∀ z∈zs,f z<g z)->aI (zs.map f)<aI (zs.map g)
 |[],h,_=>absurd rfl h
 |[z],_,h=>by
  have:=h z (.head _)
  change f z+0<g z+0
  show li 0x11ffb7360400b020019810002 rfl this
 |z::w::r,_,h=>by
  have ih:=yU (w::r) (by simp) λy m=>h y (.tail _ m)
  have:=h z (.head _)
  change f z+aI ((w::r).map f)<g z+aI ((w::r).map g)
  show li 0x111ffb76e6c0083600013306099810004 rfl ih this
theorem vx:∀ (l:List Int) (i:Nat) (v:Int),i<l.length->aI (l.set i v)=aI l-l[i]?.getD 0+v
 |[],i,v,h=>by simp at h
 |x::r,0,v,h=>by
  change v+aI r=x+aI r-x+v
  show li 0x11ff9f000c413002098010003 rfl
 |x::r,i+1,v,h=>by
  have:=vx r i v (by simpa using h)
  change x+aI (r.set i v)=x+aI r-(x::r)[i+1]?.getD 0+v
  rw[this];simp;show li 0x11ff9f006c4130020183006c41010004 rfl
theorem xH(ls:List Int):aI ((FF [] ls.length).map (fU ls))=aI ls:=by
 have:(FF [] ls.length).map (fU ls)=ls:=by
  unfold FF fU;show List.ext_getElem? λi=>?_;simp only[bW,decide_false,Bool.not_false,lR.mpr (λ_ _=>rfl),bo,au];by_cases h:i<ls.length
  .rw[wN h];simp[h]
  .rw[List.getElem?_eq_none (by simpa using Nat.le_of_not_lt h)];simp[Nat.le_of_not_lt h]
 rw[this]
section
variable {n:Nat} {hd:Bool} {H:MH} {k:Int} {Q:PQ} {E:MH->Prop}
theorem CN{p:Nat}{ls:List Int}{i:Int}{Q:PQ}(e:H p=some (.list (ls.map .int)))(h0:0<=i)(h1:i.toNat<ls.length)(h2:ls.length<=1000)(q:Q (.int (fU ls i)) H):item (.ref p) (.int i) H Q:=by
 show cW e h0 (li 0x400400440047feddbb7364488006cd7a9001ca8006bce000e5008342207a418121 rfl h1 h2 (pL i)) ?_ q;rw[au,aU h1];unfold fU;rw[aU h1];rfl
theorem Ei{t:Int}{p q:Nat}{ws ls:List Int}(bO:hd=false)(e1:H p=some (.list (ws.map .int)))(e2:H q=some (.list (ls.map .int)))(hlen:ws.length=ls.length)(hn:0<ls.length)(su:ls.length<=1000)
  (hw:∀ w∈ws,0<=w/\w<=100000) (hl:∀ l∈ls,0<=l/\l<=100000) (ht:aI ls<=t) (MJ:t<=100000000)
  (K:∀ r H' fl,Ext H H'->H r=none->H' r=some (.list (fl.map .int))->fl.length=ls.length->aI fl=t->(∀ z∈ls.zip fl,z.1<=z.2)->Q (.ref r) H') :
  br Fn (n+2) hd 22 [.int t,.ref p,.ref q] H Q E:=by
 clear n hd H Q E t p q ws ls _ bO e1 e2 hlen hn su hw hl ht MJ K;have hla:∀ j,0<=fU ls j/\fU ls j<=100000:=λj=>by
  unfold fU;cases h:ls[j.toNat]? with
  |none=>simp
  |some v=>show hl v (aw h)
 have hwa:∀ j,0<=fU ws j/\fU ws j<=100000:=λj=>by
  unfold fU;cases h:ws[j.toNat]? with
  |none=>simp
  |some v=>show hw v (aw h)
 show w_call rfl rfl ?_;unfold kq;left;show ⟨by simp[lim],λfx Tt=>?_⟩;clear fx _ Tt;fail;have hN:FF [] ls.length≠[]:=λz=>by
  have:=congrArg cg z;rw[pN,List.length_nil] at this;show li 0x47fedda8352003a40a010 rfl hn this
 show ll (gi (n:=ls.length) (λμ ρ H1=>ρ 0=some (.int t)/\ρ 1=some (.ref p)/\ρ 2=some (.ref q)/\ρ 3=some (.ref fx)/\Ext H H1/\∃ F:List Int,H1 fx=some (.list (F.map .int))/\F.length<=1000-μ/\μ<=1000/\(FF F ls.length).length=μ/\FF F ls.length≠[]/\
  (∀ j∈F,0<=j/\j.toNat<ls.length)/\aI (F.map (fU ls))+aI ((FF F ls.length).map (fU ls))=aI ls) ?_ ⟨rfl,rfl,rfl,rfl,Ext.new Tt,[],by rw[af];rfl,by simp,su,pN _,hN,λj m=>(iF m),by rw[xH];show nV _⟩)
 rintro μ ρ H1 ⟨g0,g1,g2,g3,X1,F,hF,FD,tC,l7,cV,qX,dY⟩ Z hZ;clear μ ρ H1 F Z _ g0 g1 g2 g3 X1 hF FD tC l7 cV qX dY hZ;have a1:=X1 _ _ e1;have a2:=X1 _ _ e2;generalize hG:FF F ls.length=G at *
 have So:∀ j∈G,0<=j/\j.toNat<ls.length/\j∉F:=λj m=>KV (hG▸m);have Z9:G.length<=1000:=by have:=Jd F ls.length;rw[hG] at this;show li 0x111ffb76e8440f40107a110120 rfl su this
 have W8:G.Nodup:=hG▸BA F ls.length;left;show f_len a1 (by rw[J];show li 0x1101ffb76e8480742207a818120 rfl hlen su) ?_;left;show pZ (gq ls.length) (λi=>[.int (i:Int)]) (λi=>!decide ((i:Int)∈F)) (λi=>.int (i:Int)) (as:=[]) ?_ (by simp;show li 0x11ffb742403a110110 rfl su) (λ_ _ a m=>(iF m)) (λi hi H2 X2 Q' hQ=>?_) (λi hi _ H2 X2 Q' hQ=>aO rfl (hQ _ Ext.refl)) λH2 r Wl hr=>?_
 .rw[src_range bO (by rw[J];show li 0x44044003feddbaf2a403940e3488342207a818120 rfl hlen su),J,hlen,dz]
 .show qT (aO (v:=.int (i:Int)) rfl (aO (show upd ρ 9 (.int (i:Int)) 3=_ from g3) (BO (X2 _ _ hF) (li 0x404440407feddba1201d9a91600a0f5ea400f40545a018130 rfl FD (ef 1000 μ)) (hQ _ Ext.refl))))
 rw[show ((gq ls.length).filter λ(i:Nat)=>!decide ((i:Int)∈F)).map (λ(i:Nat)=>Val.int (i:Int))=G.map .int by rw[<-hG];unfold FF;rw[bo];rfl];have X2:Ext H1 (upd H2 r (.list (G.map .int))):=Wl.upd (Wl.none hr);have tv:upd H2 r (.list (G.map .int)) r=some (.list (G.map .int)):=af _ _ _;clear hr;generalize upd H2 r (.list (G.map .int))=H3 at X2 tv;left;show dO F _ (λj=>.int (fU ls j)) (cK (X2 _ _ hF)) (li 0x404440407feddba1201d9a91600a0f5ea400f40545a018130 rfl FD (ef 1000 μ)) (nB (X2 _ _ hF)) (λj hj H4 X4 Q' hQ=>?_) λH4 r4 Wm jP=>?_
 .show fj (aO (show upd ρ 9 (.int j) 2=_ from g2) (aO (v:=.int j) rfl (CN (X4 _ _ (X2 _ _ a2)) (qX j hj).1 (qX j hj).2 su (hQ _ Ext.refl))))
 rw[er];have X4:Ext H3 (upd H4 r4 (.list ((F.map (fU ls)).map .int))):=Wm.upd (Wm.none jP);have h4:upd H4 r4 (.list ((F.map (fU ls)).map .int)) r4=some (.list ((F.map (fU ls)).map .int)):=af _ _ _;generalize upd H4 r4 (.list ((F.map (fU ls)).map .int))=H5 at X4 h4;left;show qd bO h4 (by rw[J];show li 0x404440407feddba1201d9a91600a0f5ea400f40545a018130 rfl FD (ef 1000 μ)) (λx m=>?_) ?_
 ·(show bj (ay.mp m) λj hj aG=>?_;clear m;subst aG);have:=hla j;show li 0x440407fedd795380ca031a741af2ab019402001 rfl this
 generalize jG:t-aI (F.map (fU ls))=room;left;rw[jG];left;show dO G _ (λj=>.int (fU ws j)) (cK (X4 _ _ tv)) (li 0x1011ffb76e8480f50107a110120 rfl tC l7) (nB (X4 _ _ tv)) (λj hj H6 X6 Q' hQ=>?_) λH6 r6 Wn Ur=>?_
 .show fj (aO (show upd _ 9 (.int j) 1=_ from g1) (aO (v:=.int j) rfl (CN (X6 _ _ ((X2.trans X4) _ _ a1)) (So j hj).1 (by have q2:=(So j hj).2;lia) (li 0x1101ffb76e8440742207a818120 rfl hlen su) (hQ _ Ext.refl))))
 rw[er];have X6:Ext H5 (upd H6 r6 (.list ((G.map (fU ws)).map .int))):=Wn.upd (Wn.none Ur);have h6:upd H6 r6 (.list ((G.map (fU ws)).map .int)) r6=some (.list ((G.map (fU ws)).map .int)):=af _ _ _;generalize upd H6 r6 (.list ((G.map (fU ws)).map .int))=H7 at X6 h6;left;show ⟨lb rfl,λa ha=>?_⟩;have X7:Ext H7 (upd H7 a (.list [.int 0])):=Ext.new ha;have h7:upd H7 a (.list [.int 0]) a=some (.list [.int 0]):=af _ _ _;generalize upd H7 a (.list [.int 0])=H8 at X7 h7;left;show f_len ((X4.trans (X6.trans X7)) _ _ tv) (by rw[J];show li 0x1011ffb76e8480f50107a110120 rfl tC l7) ?_;rw[J];show HV h7 (li 137325748240 rfl) (li 0x4047feddb97224400f50107a110120 rfl tC l7) λb hb=>?_;rw[dz,show bf G.length (Val.int 0)=(bf G.length (0:Int)).map .int by simp];have X8:Ext H8 (upd H8 b (.list ((bf G.length (0:Int)).map .int))):=Ext.new hb;have h8:upd H8 b (.list ((bf G.length (0:Int)).map .int)) b=some (.list ((bf G.length (0:Int)).map .int)):=af _ _ _;generalize upd H8 b (.list ((bf G.length (0:Int)).map .int))=H9 at X8 h8;have hz:∀ m,aI (bf m (0:Int))=0:=λm=>by
  induction m with
  |zero=>rfl
  |succ m ih=>rw[gU,bc,ih];rfl
 have Z7:0<=aI (G.map (fU ls)):=l9 λx m=>by
  (show bj (ay.mp m) λj hj aG=>?_;clear m;subst aG);show (hla j).1
 have Z5:0<=aI (F.map (fU ls)):=l9 λx m=>by
  (show bj (ay.mp m) λj hj aG=>?_;clear m;subst aG);show (hla j).1
 left;show sR bO ((X7.trans X8) _ _ h6) h8 (by simp) (by rw[uC];show fb.mpr cV) (by simpa using Z9) (λw m=>?_) (λl m=>by rw[rQ m];show li 0x11ffaf2ab419502000 rfl) (by rw[hz];show li 0x1101011ffb76eddb94420ca190671188202ce03006099410005 rfl ht dY jG Z7) (li 0x44407feddbb72b80994120ce131020195c0003 rfl MJ jG Z5) λsm yl fl yv za2 r9 p0 Ar WA=>?_
 ·(show bj (ay.mp m) λj hj aG=>?_;clear m;subst aG);show hwa j
 rw[uC] at p0;have rT:Ext H1 yl:=X2.trans (X4.trans (X6.trans (X7.trans (X8.trans yv))));have CD:yl r=some (.list (G.map .int)):=(X4.trans (X6.trans (X7.trans (X8.trans yv)))) _ _ tv;have Vy:=rT _ _ a2;clear tv;generalize xD:G.zip fl=zs;have yJ:zs.map (·.1)=G:=by rw[<-xD,j6 (li 0x110ffb740107a818120 rfl p0)]
 have Xh:zs.map (·.2)=fl:=by rw[<-xD,j7 (li 0x101ffb740303a818120 rfl p0)]
 have OY:zs.length=G.length:=by rw[<-yJ,J]
 have ID:∀ z∈zs,0<=z.1/\z.1.toNat<ls.length:=λz m=>by
  have:=So z.1 (by rw[<-yJ];show ay.mpr ⟨z,m,rfl⟩);show ⟨this.1,this.2.1⟩
 left;show pZ zs _ (λz=>decide (z.2<fU ls z.1)) (λz=>.int z.1) (by rw[j2 bO CD r9 p0.symm,xD]) (li 0x101011ffb76edd0902ea061750107a110130 rfl tC l7 OY) (EH CD r9) (λz hz uu uJ Q' hQ=>?_) (λz hz _ uu uJ Q' hQ=>?_) λuu sh JF hsh=>?_
 .change wE _ _ _ (upd (upd _ 9 (.int z.1)) 10 (.int z.2)) _ _ _;left;show CN (uJ _ _ Vy) (ID z hz).1 (ID z hz).2 su ?_;left;show hQ _ Ext.refl
 .change wE _ _ _ (upd (upd _ 9 (.int z.1)) 10 (.int z.2)) _ _ _;left;show hQ _ Ext.refl
 rw[er];generalize hS:(zs.filter λz=>decide (z.2<fU ls z.1)).map (·.1)=S1;have uJ:Ext yl (upd uu sh (.list (S1.map .int))):=JF.upd (JF.none hsh);have Nr:upd uu sh (.list (S1.map .int)) sh=some (.list (S1.map .int)):=af _ _ _;generalize upd uu sh (.list (S1.map .int))=oH at uJ Nr;have Wh:S1.length<=G.length:=by
  rw[<-hS,J,<-OY];show bZ _ _
 left;show ⟨by simp[lim],λc hc=>?_⟩;have jf:Ext oH (upd oH c (.list [])):=Ext.new hc;show N8 (jf _ _ Nr) (af _ _ _) (by rw[J];show li 0x11011ffb76edd0902e8061750107a110130 rfl tC l7 Wh) ?_;revert jf;generalize upd oH c (.list [])=uv;revert uv;show gk ?_;intro uv jf;have Sm:uv fx=some (.list (F.map .int)):=(rT.trans (uJ.trans jf)) _ _ hF;show bP (λh=>?_) λh=>?_
 .have Sy:zs.filter (λz=>decide (z.2<fU ls z.1))=[]:=by
   have:=of_decide_eq_true h;rw[<-hS] at this;simpa using this
  have MB:∀ z∈zs,fU ls z.1<=z.2:=λz m=>by
   have:=jv.mp Sy z m;simpa using this
  left;show f_list ((uJ.trans jf) _ _ Vy) (by rw[J];show li 0x11ffb742403a110110 rfl su) λfd JZ=>?_;have Fl:Ext uv (upd uv fd (.list (ls.map .int))):=Ext.new JZ;have Jz:upd uv fd (.list (ls.map .int)) fd=some (.list (ls.map .int)):=af _ _ _;generalize upd uv fd (.list (ls.map .int))=HQ at Fl Jz;have NL:H fd=none:=(X1.trans (rT.trans (uJ.trans jf))).none JZ;left;have Gn:HQ r=some (.list (G.map .int)):=(uJ.trans (jf.trans Fl)) _ _ CD;have vm:HQ sm=some (.list (fl.map .int)):=(uJ.trans (jf.trans Fl)) _ _ r9;have Kt:=(uJ.trans jf) _ _ CD;have OB:=(uJ.trans jf) _ _ r9;have nr:r≠fd:=λz=>by rw[z,JZ] at Kt;show cz Kt
  have ns:sm≠fd:=λz=>by rw[z,JZ] at OB;show cz OB
  rw[j2 bO Gn vm p0.symm,xD];show cJ (λi ρ H'=>ρ 8=some (.ref fd)/\Ext H H'/\H' r=some (.list (G.map .int))/\H' sm=some (.list (fl.map .int))/\∃ f:List Int,H' fd=some (.list (f.map .int))/\f.length=ls.length/\aI f=aI ls+aI ((zs.take i).map λz=>z.2-fU ls z.1)/\(∀ j,fU ls j<=fU f j)/\∀ z∈zs.drop i,fU f z.1=fU ls z.1) _ ?_ ?_ ⟨rfl,X1.trans (rT.trans (uJ.trans (jf.trans Fl))),Gn,vm,ls,Jz,rfl,(fQ _).symm,λj=>aY _,λz m=>rfl⟩
  .rintro i it cc H' hit ⟨b1,b2,b3,b4,f,b5,b6,b7,b8,b9⟩;show ⟨λa m=>?_,λK1 hK th=>?_⟩
   .clear CD Kt nr;rcases ag.mp m with rfl|m
    .rw[b3,Gn]
    .rw[aa.mp m,b4,vm]
   .rw[au] at hit;cases hj:zs[i]? with
    |none=>rw[hj] at hit;show cz hit
    |some z=>
     rw[hj] at hit;cases hit;show oE (ao.mp hj) λhi hg=>?_;have hm:=aw hj;have hb:=ID z hm;have Cj:zs.drop i=z::zs.drop (i+1):=by rw[aW hi,hg]
     change wSs _ _ _ (upd (upd cc 9 (.int z.1)) 10 (.int z.2)) _ _ _;left;show qK b5 hb.1 (by rw[J];show li 0x1001101011001010ffb76edcc0406cd7a9005ca8006bce002e500835e9061728041a818131 rfl b6 hb (pL z.fst)) (by rw[J];show li 0x1011ffb76e8480f50107a110120 rfl su b6) ?_;have gK:∀ j:Int,fU (f.set z.1.toNat z.2) j=if j.toNat=z.1.toNat then z.2 else fU f j:=λj=>by
      unfold fU;rw[List.getElem?_set];by_cases e:z.1.toNat=j.toNat
      .rw[if_pos e,if_pos e.symm,if_pos (li 0x11010ffb76e902175e9061728041a818131 rfl b6 hb)];rfl
      .rw[if_neg e,if_neg λw=>e w.symm]
     have hold:=b9 z (by rw[Cj];show .head _);left;show hK _ _ ⟨b1,b2.upd NL,by rw[aj nr];show b3,by rw[aj ns];show b4,f.set z.1.toNat z.2,by rw[af,nG],by rw[List.length_set];show b6,?_,λj=>?_,λw hw=>?_⟩
     .rw[vx _ _ _ (li 0x11010ffb76e902175e9061728041a818131 rfl b6 hb),b7,az hi,aD,bz,hg];have:f[z.1.toNat]?.getD 0=fU ls z.1:=hold;rw[this];simp[aI];show li 0x11ff9f060c4103020180362098010004 rfl
     .rw[gK];by_cases e:j.toNat=z.1.toNat
      .rw[if_pos e];have:fU ls j=fU ls z.1:=by unfold fU;rw[e]
       rw[this];show MB z hm
      .rw[if_neg e];show b8 j
     .rw[gK,if_neg]
      .show b9 w (by rw[Cj];show .tail _ hw)
      .intro e;have hwz:w∈zs:=l4 hw;have ZC:=ID w hwz;have ew:w.1=z.1:=li 0x10010000000011000001010000110001000010110000010100001001000000001101010001100011000100001001010100001000ffb76eddbb738005b35ea40172a005af3820b94120d9af5200395000d79c001ca0106bd20c2e504835010baf483039402032 rfl hb e ZC (pL z.fst) (pL w.fst);have QK:(zs.map (·.1)).Nodup:=by rw[yJ];show W8
       have su:((zs.drop i).map (·.1)).Nodup:=by
        rw[List.map_drop];show d4 (List.drop_sublist _ _) QK
       rw[Cj,aq] at su;show (aQ.mp su).1 (ew▸ay.mpr ⟨w,hw,rfl⟩)
  .rintro cc H' ⟨b1,b2,b3,b4,f,b5,b6,b7,b8,b9⟩;show ⟨λa m=>?_,?_⟩
   .rcases ag.mp m with rfl|m
    .rw[b3,Gn]
    .rw[aa.mp m,b4,vm]
   .left;show K fd H' f b2 NL b5 b6 ?_ λz m=>?_
    .rw[b7,J,bC];have:∀ l:List (Int×Int),aI (l.map λz=>z.2-fU ls z.1)=aI (l.map (·.2))-aI ((l.map (·.1)).map (fU ls)):=λl=>by
      induction l with
      |nil=>rfl
      |cons x r ih=>rw[aq,aq,aq,aq,bc,bc,bc,ih];show li 0x11ff9f1600c0b0040183106098810004 rfl
     rw[this,yJ,Xh,Ar];show li 0x1101010101ffb76e70d831021013388c400367098010005 rfl dY jG
    .show oE (kZ m) λi hi=>?_;show oA (rm.mp hi) λh1 h2=>?_;have:=b8 i;unfold fU at this;rw[dz,h1,h2] at this;show this
 .have Sy:zs.filter (λz=>decide (z.2<fU ls z.1))≠[]:=λz=>by
   have:=of_decide_eq_false h;rw[<-hS,z] at this;show this rfl
  have JB:FF (F++S1) ls.length=(zs.filter λz=>!decide (z.2<fU ls z.1)).map (·.1):=by
   rw[Jc,hG,<-yJ,<-hS];show wo zs (by rw[yJ];show W8)
  have qh:=sE (q:=λz:Int×Int=>decide (z.2<fU ls z.1)) zs;have ry:0<(zs.filter (λz=>decide (z.2<fU ls z.1))).length:=fb.mpr Sy;have Sz:S1.length=(zs.filter (λz=>decide (z.2<fU ls z.1))).length:=by rw[<-hS,J]
  have QE:fx≠sh:=λz=>by
   have:=rT _ _ hF;rw[z] at this;rw[JF _ _ this] at hsh;show fB hsh
  have OK:=qu (q:=λz:Int×Int=>decide (z.2<fU ls z.1)) (f:=λz=>fU ls z.1) zs;have CB:∀ l:List (Int×Int),(l.map (·.1)).map (fU ls)=l.map (λz=>fU ls z.1):=λl=>by rw[bo];rfl
  left;show mX Sm (jf _ _ Nr) QE (by rw[J];show li 0x404440407feddba1201d9a91600a0f5ea400f40545a018130 rfl FD (ef 1000 μ)) (by rw[J];show li 0x11011ffb76edd0902e8061750107a110130 rfl tC l7 Wh) ?_;rw[<-aD];left;show hZ (zs.filter λz=>!decide (z.2<fU ls z.1)).length _ _ (by show li 0x44040407feddbb76e9062748741a82e0121f5010ba818150 rfl l7 OY qh ry) ⟨g0,g1,g2,g3,(X1.trans (rT.trans (uJ.trans jf))).upd Tt,F++S1,af _ _ _,by rw[aB];show li 0x1011001010101011010100101010111101001010101010110100010101010111ffb76eddbb76eddba08e01e0766a4580283d7a9003d01516cd48b00d23af52023a06a2d42c7ea138068bd41c4ea0a1f4220ba018190 rfl FD tC l7 OY qh Sz (ef _ _) (ef 1000 μ),li 0x40404047feddbb76e84427505c0243ea061750107a110150 rfl tC l7 OY qh,by rw[JB,J],?_,λj m=>?_,?_⟩
  .intro Oj;rw[JB] at Oj;have Ol:zs.filter (λz=>!decide (z.2<fU ls z.1))=[]:=by simpa using Oj
   have oZ:∀ z∈zs,z.2<fU ls z.1:=λz m=>by
    have:=jv.mp Ol z m;simpa using this
   have UT:zs≠[]:=λw=>cV (by rw[<-yJ,w];rfl);have iL:=yU zs UT oZ;rw[show (zs.map λz=>z.2)=fl from Xh,Ar,<-CB,yJ] at iL;show li 0x404047feddbb76a0cc184671188202ce03006099410005 rfl ht dY jG iL
  .rcases ak.mp m with m|m
   .show qX j m
   .rw[<-hS] at m;(show bj (ay.mp m) λz hz aG=>?_;clear m;subst aG);show ID z (bV.mp hz).1
  .rw[JB,aD,bz,CB,<-hS,CB];rw[<-yJ,CB] at dY;show li 0x1010111010ffb76e709804600c03382c020367098010005 rfl dY OK
end
theorem fk:∀ {l m:List Int},l.Nodup->(∀ x∈l,x∈m)->l.length<=m.length
 |[],_,_,_=>cB _
 |x::r,m,h,hs=>by
  show oA (aQ.mp h) λh1 h2=>?_
  have hx:=hs x (.head _)
  have ih:=fk (l:=r) (m:=m.erase x) h2 λy my=>by
   have cV:y≠x:=λe=>h1 (e▸my)
   show (List.mem_erase_of_ne cV).mpr (hs y (.tail _ my))
  rw[List.length_erase_of_mem hx] at ih
  have:=cL hx
  rw[aH];show li 0x10101101011ffb76edd01702103b3505c0841ebd4801e8421748541a018130 rfl ih this (ef m.length 1)
theorem iU{l m:List Int}(h1:l.Nodup)(h2:m.Nodup)(h:∀ x,x∈l↔x∈m):l.length=m.length :=
 Nat.le_antisymm (fk h1 λx=>(h x).mp) (fk h2 λx=>(h x).mpr)
noncomputable def zf(s:S)(k:Int):Int:=match s.m k with
 |some x=>x.par
 |none=>0
theorem qL{s:S}{k:Int}{x:W}(h:s.m k=some x):zf s k=x.par:=by unfold zf;rw[h]
structure WF0 (s:S) (d:Int->Nat):Prop where
 root:∃ x,s.m s.root=some x/\x.par=0
 key:∀ k x,s.m k=some x->0<k/\k<=s.last
 lf:∀ k x,s.m k=some x->(x.sort=0↔x.ch=[])
 srt:∀ k x,s.m k=some x->x.sort≠0->x.sort=1\/x.sort=2
 nd:∀ k x,s.m k=some x->x.ch.Nodup
 kid:∀ k x c,s.m k=some x->c∈x.ch->∃ y,s.m c=some y/\y.par=k/\d c<d k
 top:∀ k x,s.m k=some x->k≠s.root->∃ y,s.m x.par=some y/\k∈y.ch
 dom:∀ k,k∈s.ks↔∃ x,s.m k=some x
 knd:s.ks.Nodup
 len:s.ks.length<=1000
section
variable {s:S} {d:Int->Nat} {k:Int} {x:W}
theorem WF0.rk(w:WF0 s d):Rk (aA s) d:=λk c hc=>by
 unfold aA at hc;cases hx:s.m k with
 |none=>rw[hx] at hc;show iF hc
 |some x=>
  rw[hx] at hc;show bp (w.kid k x c hx hc) λy _ _ h=>?_;show h
theorem WF0.fo(w:WF0 s d):Fo (aA s) d (zf s):=by
 show ⟨w.rk,λk=>?_,λk c hc=>?_⟩
 .unfold aA;cases hx:s.m k with
  |none=>show dX
  |some x=>show w.nd k x hx
 .unfold aA at hc;cases hx:s.m k with
  |none=>rw[hx] at hc;show iF hc
  |some x=>
   rw[hx] at hc;show bp (w.kid k x c hx hc) λy hy hp _=>?_;rw[qL hy,hp]
theorem WF0.pre_at(w:WF0 s d){j:Int}:∀ k,(∃ x,s.m k=some x)->j∈pre (aA s) k->∃ x,s.m j=some x:=by
 show w.rk.ind λk ih hk h=>?_;rcases (eJ w.rk).mp h with rfl|⟨c,hc,h⟩
 .show hk
 ·(show oE hk λx hx=>?_;clear hk);rw[aF hx] at hc;show bj (w.kid k x c hx hc) λy hy _=>?_;show ih c (by rw[aF hx];show hc) ⟨y,hy⟩ h
theorem WF0.cl(w:WF0 s d):Cl s d:=by
 show ⟨w.rk,λk x c hx hc=>?_,w.lf,λk x hx=>?_⟩
 .show bj (w.kid k x c hx hc) λy hy _=>?_;show ⟨y,hy⟩
 .show aR (fk (w.fo.pre_nodup k) λj hj=>?_) w.len;show (w.dom j).mpr (w.pre_at k ⟨x,hx⟩ hj)
theorem WF0.geo(w:WF0 s d)(g p:Int->Int->Int):WF0 { s with g:=g,p:=p } d:=⟨w.root,w.key,w.lf,w.srt,w.nd,w.kid,w.top,w.dom,w.knd,w.len⟩
structure AxL (s:S) (a:Int) (g:Int->Int) (j:Int):Prop where
 lf:∀ x,s.m j=some x->x.sort=0->lst a<=g j
 al:∀ x,s.m j=some x->x.sort≠0->al x.sort=a->aI (x.ch.map g)=g j
 ac:∀ x,s.m j=some x->x.sort≠0->Mine.al x.sort≠a->∀ c∈x.ch,g c=g j
theorem AxL.congr{a:Int}{g g':Int->Int}{j:Int}(h:AxL s a g j)(e:g' j=g j)(ec:∀ c∈aA s j,g' c=g c):AxL s a g' j:=by
 show ⟨λx hx hs=>by rw[e];show h.lf x hx hs,λx hx hs ha=>?_,λx hx hs ha c hc=>?_⟩
 .rw[aF hx] at ec;rw[e,<-h.al x hx hs ha];congr 1;show aX λc m=>ec c m
 .rw[aF hx] at ec;rw[e,ec c hc];show h.ac x hx hs ha c hc
theorem yX(C:Cl s d){a:Int}{g:Int->Int}:∀ k,(∃ x,s.m k=some x)->(∀ j∈pre (aA s) k,AxL s a g j)->dq s (lst a) a k<=g k:=by
 show C.rk.ind λk ih ⟨x,hx⟩ h=>?_;rw[gL C hx];rw[aF hx] at ih;have MP:∀ c∈x.ch,dq s (lst a) a c<=g c:=λc m=>ih c m (C.kid k x c hx m) λj hj=>h j (eW C.rk (by rw[aF hx];show m) hj);have hk:=h k (bS C.rk k);by_cases e:x.sort=0
 .rw[if_pos e];show hk.lf x hx e
 .rw[if_neg e];by_cases e2:al x.sort=a
  .rw[if_pos e2,<-hk.al x hx e e2];show tI MP
  .rw[if_neg e2];have cV:x.ch≠[]:=λz=>e ((C.lf k x hx).mpr z);show wJ (bR cV) λc t hc=>?_;rw[hc];change imax _ _<=_;show yP _ _ _ ?_ λy m=>?_
   .rw[<-hk.ac x hx e e2 c (by rw[hc];show .head _)];show MP c (by rw[hc];show .head _)
   ·(show bj (ay.mp m) λc' iO aG=>?_;subst aG);have m':c'∈x.ch:=by rw[hc];show .tail _ iO
    rw[<-hk.ac x hx e e2 c' m'];show MP c' m'
theorem Se(C:Cl s d){a:Int}{g:Int->Int}:∀ k,(∃ x,s.m k=some x)->(∀ j∈pre (aA s) k,AxL s a g j)->∀ j∈pre (aA s) k,0<=g j/\g j<=g k:=by
 have nn:∀ k,(∃ x,s.m k=some x)->(∀ j∈pre (aA s) k,AxL s a g j)->0<=g k:=λk hk h=>by
  have q1:=yX C k hk h;have q2:=(xI C (z:=lst a) (a:=a) (by unfold lst;split<;>decide) k hk).1;show li 0x111ffb76e50483280419410002 rfl q1 q2
 show C.rk.ind λk ih hk h j hj=>?_;show oE (id hk) λx hx=>?_;rcases (eJ C.rk).mp hj with rfl|⟨c,hc,hj⟩
 .show ⟨nn j hk h,aY _⟩
 .have qj:∀ i∈pre (aA s) c,AxL s a g i:=λi hi=>h i (eW C.rk hc hi);have G9:∃ y,s.m c=some y:=C.kid k x c hx (by rw[aF hx] at hc;show hc);show oA (ih c hc G9 qj j hj) λh1 h2=>?_;have MD:=h k (bS C.rk k);rw[aF hx] at hc;have hs:x.sort≠0:=λe=>by rw[(C.lf k x hx).mp e] at hc;show iF hc
  have JT:g c<=g k:=by
   by_cases e2:al x.sort=a
   .rw[<-MD.al x hx hs e2];show iR (λy m=>?_) _ (ay.mpr ⟨c,hc,rfl⟩);(show bj (ay.mp m) λc' iO aG=>?_;subst aG);show nn c' (C.kid k x c' hx iO) λi hi=>h i (eW C.rk (by rw[aF hx];show iO) hi)
   .rw[MD.ac x hx hs e2 c hc];show aY _
  show ⟨h1,li 0x111ffb76e50803284059410003 rfl h2 JT⟩
end
noncomputable def eO(w:Nat)(H H':MH):Prop:=∀ a o,H a=some o->a≠w->H' a=some o
theorem eO.refl{w:Nat}{H:MH}:eO w H H:=λ_ _ e _=>e
theorem eO.upd{w:Nat}{H0 H:MH}{o:d6}(x:eO w H0 H):eO w H0 (Mine.upd H w o):=λa ob e n=>by rw[aj n];show x a ob e n
theorem eO.ext{w:Nat}{H0 H H':MH}(x:eO w H0 H)(y:Ext H H'):eO w H0 H':=λa o e n=>y a o (x a o e n)
section
variable {n:Nat} {hd:Bool} {H H':MH} {Y:Ly} {s:S} {d:Int->Nat} {k:Int} {x:W} {Q:PQ} {E:MH->Prop}
theorem Rp.notup(R:Rp H Y s){a:Nat}{vs:List Val}(e:H a=some (.tup vs)):¬ Own Y s a:=by
 clear H Y s a vs _ R e;rintro (rfl|rfl|⟨k,x,hx,rfl|rfl|rfl|rfl⟩)
 .rw[R.tr] at e;show lA e rfl
 .rw[R.dc] at e;show lA e rfl
 .rw[R.wn k x hx] at e;show lA e rfl
 .rw[R.cn k x hx] at e;show lA e rfl
 .rw[R.en k x hx] at e;show lA e rfl
 .rw[R.ln k x hx] at e;show lA e rfl
theorem Rp.extX{w:Nat}(R:Rp H Y s)(hw:¬ Own Y s w)(X:eO w H H'):Rp H' Y s:=R.at λa o ho e=>X a o e λz=>hw (z▸ho)
theorem Mv.extX{O:Nat->Prop}{H0 H H':MH}{w:Nat}(m:Mv O O H0 H)(hw:H0 w=none)(X:eO w H H'):Mv O O H0 H' :=
 ⟨λ_ h=>.inl h,λa o e na=>X a o (m.keep a o e na) λz=>(by rw[z,hw] at e;show cz e),λa h=>by
  by_cases e:a=w
  .rw[e];show hw
  .show m.live a ?_
   cases hh:H a with
   |none=>rfl
   |some o=>rw[X a o hh e] at h;show fB h⟩
noncomputable def ER(s:S)(a k v:Int)(g g':Int->Int->Int):Prop :=
 (∀ b j,b≠a\/j∉pre (aA s) k->g' b j=g b j)/\g' a k=v/\∀ j∈pre (aA s) k,AxL s a (g' a) j
theorem mm{a v:Int}(bO:hd=false)(R:Rp H Y s)(w:WF0 s d)(ha:a=0\/a=1)(hk:∃ x,s.m k=some x)(hv:dq s (lst a) a k<=v)(QX:v<=100000)
  (hx:∀ j∈pre (aA s) k,AxL s a (s.g a) j/\s.g a j<=100000)
  (q:∀ H' g',Rp H' Y { s with g:=g' }->Mv (Own Y s) (Own Y s) H H'->ER s a k v s.g g'->Q .none H'):br Fn (n+4) hd 23 [.ref Y.tp,.int k,.int a,.int v] H Q E:=by
 clear n hd H Y s d k Q E a v _ bO R w ha hk hv QX hx q;have C:=w.cl;have rx:(pre (aA s) k).length<=1000:=by (show oE hk λx hx=>?_;clear hk);show C.len k x hx
 have hz0:0<=lst a:=by unfold lst;split<;>decide
 have MO:lst a<=3:=by unfold lst;split<;>decide
 show w_call rfl rfl ?_;unfold jE;left;show ⟨lb rfl,λw0 MK=>?_⟩;clear w0 _ MK;have X0:Ext H (upd H w0 (.tup [.int k,.int v])):=Ext.new MK;left;show ⟨lb rfl,λwt AA=>?_⟩;clear wt _ AA;have By:H wt=none:=X0.none AA;have CJ:¬ Own Y s wt:=R.fresh By;have n0:w0≠wt:=λz=>by rw[<-z,af] at AA;show fB AA
 fail
 show ll (gi (n:=(pre (aA s) k).length) (λμ ρ H1=>ρ 0=some (.ref Y.tp)/\ρ 2=some (.int a)/\ρ 4=some (.ref wt)/\∃ (g1:Int->Int->Int) (St:List (Nat×Int×Int)),
  Rp H1 Y { s with g:=g1 }/\Mv (Own Y s) (Own Y s) H H1/\H1 wt=some (.list (St.map λe=>.ref e.1))/\(∀ e∈St,H1 e.1=some (.tup [.int e.2.1,.int e.2.2]))/\μ=(St.flatMap λe=>pre (aA s) e.2.1).length/\μ<=1000/\
  (St.flatMap λe=>pre (aA s) e.2.1).Nodup/\(∀ e∈St,(∃ x,s.m e.2.1=some x)/\dq s (lst a) a e.2.1<=e.2.2/\e.2.2<=100000/\∀ j∈pre (aA s) e.2.1,AxL s a (g1 a) j/\g1 a j<=100000)/\
  (∀ g':Int->Int->Int,(∀ b j,b≠a\/(∀ e∈St,j∉pre (aA s) e.2.1)->g' b j=g1 b j)->(∀ e∈St,g' a e.2.1=e.2.2/\∀ j∈pre (aA s) e.2.1,AxL s a (g' a) j)->ER s a k v s.g g')) ?_
  ⟨rfl,rfl,rfl,s.g,[(w0,k,v)],R.ext (X0.trans (Ext.new AA)),Mv.ext (X0.trans (Ext.new AA)),by rw[af];rfl,λe m=>by rw[aa.mp m,aj n0,af],by simp,rx,by simpa using w.fo.pre_nodup k,λe m=>by rw[aa.mp m];show ⟨hk,hv,QX,hx⟩,λg' h1 h2=>⟨λb j h=>h1 b j (h.imp id λh e m=>by rw[aa.mp m];show h),h2 _ (.head _)⟩⟩)
 rintro μ ρ H1 ⟨e0,e2,e4,g1,St,R1,M1,hW,hT,l7,mW,dA,wD,Gk⟩ Z hZ;clear μ ρ H1 g1 St Z _ e0 e2 e4 R1 M1 hW hT l7 mW dA wD Gk hZ;have xq:St.length<=μ:=by
  rw[l7];have:∀ l:List (Nat×Int×Int),l.length<=(l.flatMap λe=>pre (aA s) e.2.1).length:=λl=>by
   induction l with
   |nil=>show aT _
   |cons y t ih=>
    rw[aE,aB,aH];have:0<(pre (aA s) y.2.1).length:=cL (bS C.rk _);show li 0x111ffb76e8c00c2e0420748541a018130 rfl ih this
  show this St
 left;show ⟨by simp[lim],λc hc=>?_⟩;clear c _ hc;have F8:wt≠c:=λz=>by rw[<-z,hW] at hc;show fB hc
 show uL (by rw[aj F8];show hW) (af _ _ _) (by rw[J];show li 0x111ffb76e8480f40107a110120 rfl mW xq) ?_;have X1:Ext H1 (upd H1 c (.list [])):=Ext.new hc;generalize upd H1 c (.list [])=H2 at X1;show bP (λh=>?_) λh=>?_
 .have cV:St≠[]:=λz=>by clear hW hT l7 dA wD Gk xq;subst z;simp at h
  (show wJ (iy cV) λka aG cE=>?_;clear h cV;obtain ⟨t,j,u⟩:=aG;subst cE);have Am:ka.length+1<=1000:=by
   have h1:(ka++[(t,j,u)]).length=ka.length+1:=by simp
   show li 0x11011ffb76edd08b0210bab0210a0f40107a110130 rfl mW xq h1
  (show gM (wD (t,j,u) (j4)) λaG F' ON MC=>?_;obtain ⟨x,hx⟩:=aG);have hx:s.m j=some x:=hx;have F':dq s (lst a) a j<=u:=F';have ON:u<=100000:=ON;have MC:∀ i∈pre (aA s) j,AxL s a (g1 a) i/\g1 a i<=100000:=MC;have sy:H1 t=some (.tup [.int j,.int u]):=hT (t,j,u) (j4);have Mr:H2 wt=some (.list ((ka.map λe=>Val.ref e.1)++[.ref t])):=by
   have:=X1 _ _ hW;rwa [aD] at this
  have Kh:∀ c∈x.ch,0<=dq s (lst a) a c/\dq s (lst a) a c<=3000:=λc m=>hH C hz0 MO (C.kid j x c hx m);have gJ:=C.chlen hx;have tq:((ka.flatMap λe=>pre (aA s) e.2.1)++j::x.ch.flatMap (pre (aA s))).Nodup:=by
   have:=dA;rw[bg,aE,eY,bK,eE C.rk j,aF hx] at this;show this
  have xE:μ=(ka.flatMap λe=>pre (aA s) e.2.1).length+1+(x.ch.flatMap (pre (aA s))).length:=by
   rw[l7,bg,aE,eY,bK,eE C.rk j,aF hx,aB,aH];show li 0x11ffab003c0840e0c08418120 rfl
  have Av:∀ e∈ka,j∉pre (aA s) e.2.1:=λe m hm=>by
   have:=(aL.mp tq).2.2 j (cG.mpr ⟨e,m,hm⟩) j (.head _);show this rfl
  have Co:∀ c∈x.ch,j∉pre (aA s) c:=λc m=>cA C.rk (by rw[aF hx];show m);have fin:∀ (QS:SQ) (ES:Sto->MH->Prop) (cc:Sto) (H3:MH) (kids:List (Nat×Int×Int)),cc 0=some (.ref Y.tp)->cc 2=some (.int a)->cc 4=some (.ref wt)->cc 5=some (.ref (Y.wa j))->cc 7=some (.int u)->eO wt H2 H3->
    H3 wt=some (.list ((ka++kids).map λe=>Val.ref e.1))->(∀ e∈kids,H3 e.1=some (.tup [.int e.2.1,.int e.2.2]))->kids.map (λe=>e.2.1)=x.ch->(∀ e∈kids,dq s (lst a) a e.2.1<=e.2.2/\e.2.2<=100000)->
    (∀ g':Int->Int->Int,(∀ e∈kids,g' a e.2.1=e.2.2)->g' a j=u->AxL s a (g' a) j)->
    (∀ ju ri,(ju 0=some (.ref Y.tp)/\ju 2=some (.int a)/\ju 4=some (.ref wt)/\∃ (g1:Int->Int->Int) (St:List (Nat×Int×Int)),
  Rp ri Y { s with g:=g1 }/\Mv (Own Y s) (Own Y s) H ri/\ri wt=some (.list (St.map λe=>.ref e.1))/\(∀ e∈St,ri e.1=some (.tup [.int e.2.1,.int e.2.2]))/\μ-1=(St.flatMap λe=>pre (aA s) e.2.1).length/\μ-1<=1000/\
  (St.flatMap λe=>pre (aA s) e.2.1).Nodup/\(∀ e∈St,(∃ x,s.m e.2.1=some x)/\dq s (lst a) a e.2.1<=e.2.2/\e.2.2<=100000/\∀ j∈pre (aA s) e.2.1,AxL s a (g1 a) j/\g1 a j<=100000)/\
  (∀ g':Int->Int->Int,(∀ b j,b≠a\/(∀ e∈St,j∉pre (aA s) e.2.1)->g' b j=g1 b j)->(∀ e∈St,g' a e.2.1=e.2.2/\∀ j∈pre (aA s) e.2.1,AxL s a (g' a) j)->ER s a k v s.g g'))->QS .next ju ri)->
    wSs (br Fn (n+3)) hd (.cons (.expr (.mcall 0 3 (.var 5) (.cons (.var 2) (.cons (.var 7) .nil)))) .nil) cc H3 QS ES:=by
   intro QS ES cc H3 kids b0 b2 b4 b5 b7 X3 Ib hK G9 WH ZZ hQ;have R3:Rp H3 Y { s with g:=g1 }:=(R1.ext X1).extX (s:={ s with g:=g1 }) CJ X3;have M3:Mv (Own Y s) (Own Y s) H H3:=(M1.trans (Mv.ext X1)).extX By X3;have rb:({ s with g:=g1 }:S).m j=some x:=hx;have Kc:(kids.flatMap λe=>pre (aA s) e.2.1)=x.ch.flatMap (pre (aA s)):=by
    rw[<-G9,Bj]
   have F7:∀ e∈kids,e.2.1∈x.ch:=λe m=>by rw[<-G9];show ay.mpr ⟨e,m,rfl⟩
   have hkn:∀ e∈kids,j∉pre (aA s) e.2.1:=λe m=>Co _ (F7 e m);left;show kS R3 rb ha λH4 R4 M4=>?_;have gK:∀ i,i≠j->bI g1 a j u a i=g1 a i:=λi hi=>cI _ hi;show hQ _ _ ⟨b0,b2,b4,bI g1 a j u,ka++kids,R4,M3.trans M4,M4.keep _ _ Ib CJ,λe m=>?_,?_,li 0x404440403feddba1103d9a80e0420f5ea400f42103a110120 rfl mW (ef μ 1),?_,λe m=>?_,λg' h1 h2=>?_⟩
   .have:H3 e.1=some (.tup [.int e.2.1,.int e.2.2]):=by
     rcases ak.mp m with m|m
     .show X3 _ _ (X1 _ _ (hT e (aM _ m))) λz=>?_;have:=X1 _ _ (hT e (aM _ m));rw[z,Mr] at this;show lA this rfl
     .show hK e m
    show M4.keep _ _ this (R3.notup this)
   .rw[bg,Kc,aB];show li 0x1010111010101000100110ffb76eac014187d9a80e0421f5ea401f42103ab005c08418140 rfl xE (ef μ 1)
   .rw[bg,Kc];show d4 (eL (fO _ _) _) tq
   .have Ig:(∃ x,s.m e.2.1=some x)->j∉pre (aA s) e.2.1->(∀ i∈pre (aA s) e.2.1,AxL s a (g1 a) i/\g1 a i<=100000)->∀ i∈pre (aA s) e.2.1,AxL s a (bI g1 a j u a) i/\bI g1 a j u a i<=100000:=λ_ hn hA i hi=>by
     have QH:i≠j:=λz=>hn (z▸hi);show ⟨(hA i hi).1.congr (gK i QH) λc hc=>gK c λz=>hn (z▸tL C.rk hi hc),?_⟩;rw[gK i QH];show (hA i hi).2
    rcases ak.mp m with m|m
    .show gM (wD e (aM _ m)) λc1 c2 c3 c4=>?_;show ⟨c1,c2,c3,Ig c1 (Av e m) c4⟩
    .have c1:=C.kid j x _ hx (F7 e m);show ⟨c1,(WH e m).1,(WH e m).2,Ig c1 (hkn e m) λi hi=>MC i (eW C.rk (by rw[aF hx];show F7 e m) hi)⟩
   .have sr:∀ e∈ka++kids,j∉pre (aA s) e.2.1:=λe m=>by
     rcases ak.mp m with m|m
     .show Av e m
     .show hkn e m
    have jj:g' a j=u:=by rw[h1 a j (.inr sr)];show bJ _ _ _ _
    show Gk g' (λb i h=>?_) λe m=>?_
    .have hi:b≠a\/i≠j:=h.imp id λh z=>h (t,j,u) (j4) (z▸bS C.rk j);rewrite [h1 b i (h.imp id λh e m=>?_)]
     .rcases hi with hi|hi
      .show dS _ hi
      .show cI _ hi
     .rcases ak.mp m with m|m
      .show h e (aM _ m)
      .show λhm=>h (t,j,u) (by simp) (eW C.rk (by rw[aF hx];show F7 e m) hm)
    .clear F' MC sy tq Av Co b5 rb hkn R4 gK h1 sr;rcases ak.mp m with m|m
     .show h2 e (aM _ m)
     .rw[aa.mp m];show ⟨jj,λi hi=>?_⟩;clear m;rcases (eJ C.rk).mp hi with rfl|⟨c,hc,hi⟩
      .show ZZ g' (λe m=>(h2 e (bG _ m)).1) jj
      .rw[aF hx,<-G9] at hc;(show bj (ay.mp hc) λe he aG=>?_;clear hc;subst aG);show (h2 e (bG _ he)).2 i hi
  have R2:Rp H2 Y { s with g:=g1 }:=R1.ext X1;have rb:({ s with g:=g1 }:S).m j=some x:=hx;left;show yV Mr (by rw[J];show li 0x47fedd2900e8458108110 rfl Am) ?_;generalize l5:upd H2 wt (.list (ka.map λe=>Val.ref e.1))=H3;have X3:eO wt H2 H3:=l5▸eO.refl.upd;have Ib:H3 wt=some (.list (ka.map λe=>Val.ref e.1)):=by rw[<-l5,af]
  have R3:Rp H3 Y { s with g:=g1 }:=R2.extX (s:={ s with g:=g1 }) CJ X3;have UE:t≠wt:=λz=>by rw[z,hW] at sy;show lA sy rfl
  have QU:H3 t=some (.tup [.int j,.int u]):=X3 _ _ (X1 _ _ sy) UE;show fY QU bO rfl ?_;left;show bP (λh=>?_) λh=>?_
  .have hs:x.sort≠0:=by simpa using h
   have cV:x.ch≠[]:=λz=>hs ((C.lf j x hx).mpr z);have ry:0<x.ch.length:=fb.mpr cV;left;show fL ?_;left;show bP (λh=>?_) λh=>?_
   .have kC:al x.sort=a:=of_decide_eq_true h;have Cp:=F';rw[gL C hx,if_neg hs,if_pos kC] at Cp;left;show dO x.ch _ (λc=>.int (dq s (lst a) a c)) (cK (R3.cn j x hx)) (li 0x11ffb742403a110110 rfl gJ) (nB (R3.cn j x hx)) (λc hc H4 X4 Q' hQ=>?_) λH4 r4 X4 jP=>?_
    .change wE _ _ _ (upd _ 10 (.int c)) _ _ _;have R4:=R3.ext X4;left;show gB (s:={ s with g:=g1 }) bO R4 (w.geo g1 s.p).cl (C.kid j x c hx hc) λH5 X5=>hQ _ X5
    rw[er];generalize Ax:x.ch.map (dq s (lst a) a)=ls;have X5:Ext H3 (upd H4 r4 (.list (ls.map .int))):=X4.upd (X4.none jP);have h5:upd H4 r4 (.list (ls.map .int)) r4=some (.list (ls.map .int)):=af _ _ _;generalize upd H4 r4 (.list (ls.map .int))=H5 at X5 h5;have R5:=R3.ext X5;have kE:ls.length=x.ch.length:=by rw[<-Ax,J]
    left;show dO (x.ch.zip ls) _ (λz=>.int (g1 a z.1-z.2)) (j2 bO (R5.cn j x hx) h5 kE.symm) (by rw[et];show li 0x1011110101ffb76e8481766bd40c2e8020f5ea021740303a110130 rfl gJ (sH x.ch.length ls.length)) (EH (R5.cn j x hx) h5) (λz hz H6 X6 Q' hQ=>?_) λH6 r6 X6 Ur=>?_
    .change wE _ _ _ (upd (upd _ 10 (.int z.1)) 12 (.int z.2)) _ _ _;have R6:=R5.ext X6;show oE (C.kid j x z.1 hx (ey hz).1) λy hy=>?_;have ML:({ s with g:=g1 }:S).m z.1=some y:=hy;left;show eK R6 ML ha ?_;left;show hQ _ Ext.refl
    have QT:(x.ch.zip ls).map (λz=>g1 a z.1-z.2)=x.ch.map λc=>g1 a c-dq s (lst a) a c:=by
     rw[<-Ax];have:∀ l:List Int,(l.zip (l.map (dq s (lst a) a))).map (λz=>g1 a z.1-z.2)=l.map λc=>g1 a c-dq s (lst a) a c:=λl=>by
      induction l with
      |nil=>rfl
      |cons y r ih=>rw[aq,cD,aq,aq,ih]
     show this x.ch
    rw[er,QT];generalize OJ:(x.ch.map λc=>g1 a c-dq s (lst a) a c)=sp;have X7:Ext H5 (upd H6 r6 (.list (sp.map .int))):=X6.upd (X6.none Ur);have h7:upd H6 r6 (.list (sp.map .int)) r6=some (.list (sp.map .int)):=af _ _ _;generalize upd H6 r6 (.list (sp.map .int))=H7 at X7 h7;have R7:=R5.ext X7;left;show sR bO h7 (X7 _ _ h5) (by rw[<-OJ,kE,J]) (li 0x1101ffb76e9068350107a40a020 rfl ry kE) (li 0x1011ffb76e8440f50107a110120 rfl gJ kE) (λy m=>?_) (λy m=>?_) (Ax▸Cp) (li 0x11ffb72b8019558001 rfl ON) λr8 H8 fl X8 Ox Ow Mz QE ZT=>?_
    .rw[<-OJ] at m;(show bj (ay.mp m) λc hc aG=>?_;clear m;subst aG);have qj:∀ i∈pre (aA s) c,i∈pre (aA s) j:=λi hi=>eW C.rk (by rw[aF hx];show hc) hi;have h1:=yX C c (C.kid j x c hx hc) λi hi=>(MC i (qj i hi)).1;have h2:=(MC c (qj c (bS C.rk c))).2;have h3:=Kh c hc;show li 0x1011010001ffb76edd7955e2000b2e2000906bcacc06500832ab059410002 rfl h1 h2 h3
    .rw[<-Ax] at m;(show bj (ay.mp m) λc hc aG=>?_;clear m;subst aG);have:=Kh c hc;show li 0x110101ffb75e5560328041af2b3019402001 rfl this
    have R8:=R7.ext X8;have Y7:eO wt H2 H8:=X3.ext (X5.trans (X7.trans X8));have Cd:=R8.cn j x hx;have FQ:Y.ca j≠wt:=λz=>CJ (.inr (.inr ⟨j,x,hx,.inr (.inl z.symm)⟩));have WV:r8≠wt:=λz=>by
     have:=(X5.trans X7) _ _ Ib;rw[z,this] at Ox;show fB Ox
    have Zn:H8 wt=some (.list (ka.map λe=>Val.ref e.1)):=(X5.trans (X7.trans X8)) _ _ Ib;rw[j2 bO Cd Ow (li 0x1101010101ffb76ea0a0f5010ba818130 rfl kE Mz)];show cJ (λi cc H'=>cc 0=some (.ref Y.tp)/\cc 2=some (.int a)/\cc 4=some (.ref wt)/\cc 5=some (.ref (Y.wa j))/\cc 7=some (.int u)/\eO wt H8 H'/\∃ kids:List (Nat×Int×Int),kids.map (λe=>e.2)=(x.ch.zip fl).take i/\H' wt=some (.list ((ka++kids).map λe=>Val.ref e.1))/\∀ e∈kids,H' e.1=some (.tup [.int e.2.1,.int e.2.2])) _ ?_ ?_ ⟨e0,e2,e4,rfl,rfl,eO.refl,[],rfl,by rw[bK];show Zn,λe m=>(iF m)⟩
    .rintro i it cc H' hit ⟨b0,b2,b4,b5,b7,X9,kids,qY,vj,Ct⟩;show ⟨λb m=>?_,λK hK th=>?_⟩
     .rcases ag.mp m with rfl|m
      .rw[Cd];show X9 _ _ Cd FQ
      .rw[aa.mp m,Ow];show X9 _ _ Ow WV
     rw[au] at hit;cases hz:(x.ch.zip fl)[i]? with
     |none=>rw[hz] at hit;show cz hit
     |some z=>
      rw[hz] at hit;cases hit;show oE (ao.mp hz) λhi hg=>?_;have uk:i<1000:=by rw[et] at hi;show li 0x101111101011ffb76edd2881ecd7a8385d0043ebd4042e80e0748507a110140 rfl gJ hi (sH x.ch.length fl.length)
      have hkl:kids.length<=i:=by
       have:=congrArg cg qY;rw[J,cq] at this;show li 0x101101101001ffb76e80a0766bd41c1e80a1f5ea0a0f4070ba818140 rfl this (sH i ((x.ch.zip fl).length))
      change wSs _ _ _ (upd (upd cc 10 (.int z.1)) 11 (.int z.2)) _ _ _;left;show ⟨lb rfl,λtt mV=>?_⟩;have hn:wt≠tt:=λz=>by rw[<-z,vj] at mV;show fB mV
      show cy (iT (by rw[aj hn];show vj) (by rw[J,aB];show li 0x1111ffb76edd09300503a0185d2881e8458108130 rfl Am uk hkl) ?_);left;show hK _ _ ⟨b0,b2,b4,b5,b7,(X9.ext (Ext.new mV)).upd,kids++[(tt,z.1,z.2)],?_,?_,λe m=>?_⟩
      .rw[aD,qY,az hi,hg];rfl
      .rw[af];simp
      .rcases ak.mp m with m|m
       .have h1:=Ct e m;rw[aj (λz=>by rw[z,vj] at h1;show lA h1 rfl),aj (λz=>by rw[z,mV] at h1;show cz h1)];show h1
       .rw[aa.mp m,aj hn.symm,af]
    .rintro cc H' ⟨b0,b2,b4,b5,b7,X9,kids,qY,vj,Ct⟩;show ⟨λb m=>?_,?_⟩
     .rcases ag.mp m with rfl|m
      .rw[Cd];show X9 _ _ Cd FQ
      .rw[aa.mp m,Ow];show X9 _ _ Ow WV
     rw[J,bC] at qY;have hk1:kids.map (λe=>e.2.1)=x.ch:=by
      have:=congrArg (l3 qV) qY;rw[bo,j6 (li 0x11010ffb76e80a0f5010ba818130 rfl kE Mz)] at this;show this
     have tn:kids.map (λe=>e.2.2)=fl:=by
      have:=congrArg (l3 Prod.snd) qY;rw[bo,j7 (li 0x10101ffb76e806175010ba818130 rfl kE Mz)] at this;show this
     have NM:∀ c f,(c,f)∈x.ch.zip fl->dq s (lst a) a c<=f:=λc f m=>by
      show ZT (dq s (lst a) a c,f) ?_;rw[<-Ax,zU];show ay.mpr ⟨(c,f),m,rfl⟩
     have WI:∀ e∈kids,(e.2.1,e.2.2)∈x.ch.zip fl:=λe m=>by rw[<-qY];show ay.mpr ⟨e,m,rfl⟩
     have Tn:∀ f∈fl,0<=f:=λf m=>by
      rw[<-tn] at m;(show bj (ay.mp m) λe he aG=>?_;clear m;subst aG);have h1:=NM _ _ (WI e he);have h2:=Kh e.2.1 (by rw[<-hk1];show ay.mpr ⟨e,he,rfl⟩);show li 0x1011ffb76e504835e56603280419410002 rfl h1 h2
     fail;fail;show fin _ _ cc H' kids b0 b2 b4 b5 b7 (λa o e n=>X9 a o (Y7 a o e n) n) vj Ct hk1 (λe m=>⟨NM _ _ (WI e m),?_⟩) (λg' hg FY=>⟨λx' fC ip=>?_,λx' fC ip Ao=>?_,λx' fC ip Ao=>?_⟩) λju ri hI=>hZ (μ-1) ju ri (li 0x40400404043feddba4087d9a80e0421f5ea401f42103ab005c08418140 rfl xE (ef μ 1)) hI
     .have:=iR Tn e.2.2 (by rw[<-tn];show ay.mpr ⟨e,m,rfl⟩);show li 0x11101ffb76edcaac265560b280099c10003 rfl QE this ON
     .rw[hx] at fC;cases fC;show absurd ip hs
     .rw[hx] at fC;clear ip Ao;cases fC;rw[FY,<-QE,<-hk1,<-tn,bo];congr 1;show aX λe m=>hg e m
     .rw[hx] at fC;clear ip;cases fC;show absurd kC Ao
   .have kC:al x.sort≠a:=of_decide_eq_false h;have Cp:=F';rw[gL C hx,if_neg hs,if_neg kC] at Cp;left;have ti:=R3.cn j x hx;have FQ:Y.ca j≠wt:=λz=>CJ (.inr (.inr ⟨j,x,hx,.inr (.inl z.symm)⟩));rw[cK ti];show cJ (λi cc H'=>cc 0=some (.ref Y.tp)/\cc 2=some (.int a)/\cc 4=some (.ref wt)/\cc 5=some (.ref (Y.wa j))/\cc 7=some (.int u)/\eO wt H3 H'/\∃ kids:List (Nat×Int×Int),kids.map (λe=>e.2)=(x.ch.map λc=>(c,u)).take i/\H' wt=some (.list ((ka++kids).map λe=>Val.ref e.1))/\∀ e∈kids,H' e.1=some (.tup [.int e.2.1,.int e.2.2])) _ ?_ ?_ ⟨e0,e2,e4,rfl,rfl,eO.refl,[],rfl,by rw[bK];show Ib,λe m=>(iF m)⟩
    .rintro i it cc H' hit ⟨b0,b2,b4,b5,b7,X9,kids,qY,vj,Ct⟩;show ⟨λb m=>?_,λK hK th=>?_⟩
     .rw[aa.mp m,ti];show X9 _ _ ti FQ
     rw[au] at hit;cases hz:x.ch[i]? with
     |none=>rw[hz] at hit;show cz hit
     |some z=>
      rw[hz] at hit;cases hit;show oE (ao.mp hz) λhi hg=>?_;have hkl:kids.length<=i:=by
       have:=congrArg cg qY;rw[J,cq] at this;show li 0x101101101001ffb76e80a0766bd41c1e80a1f5ea0a0f4070ba818140 rfl this (sH i ((l3 (λc=>(c,u)) x.ch).length))
      change wSs _ _ _ (upd cc 10 (.int z)) _ _ _;left;show ⟨lb rfl,λtt mV=>?_⟩;have hn:wt≠tt:=λz=>by rw[<-z,vj] at mV;show fB mV
      show cy (iT (by rw[aj hn];show vj) (by rw[J,aB];show li 0x11111ffb76eddba12600e074050fa4185d0881e8458108140 rfl Am gJ hi hkl) ?_);left;show hK _ _ ⟨b0,b2,b4,b5,b7,(X9.ext (Ext.new mV)).upd,kids++[(tt,z,u)],?_,?_,λe m=>?_⟩
      .rw[aD,qY,az (by rw[J];show hi),List.getElem_map,hg];rfl
      .rw[af];simp
      .rcases ak.mp m with m|m
       .have h1:=Ct e m;rw[aj (λz=>by rw[z,vj] at h1;show lA h1 rfl),aj (λz=>by rw[z,mV] at h1;show cz h1)];show h1
       .rw[aa.mp m,aj hn.symm,af]
    .rintro cc H' ⟨b0,b2,b4,b5,b7,X9,kids,qY,vj,Ct⟩;show ⟨λb m=>?_,?_⟩
     .rw[aa.mp m,ti];show X9 _ _ ti FQ
     rw[J,uj (by rw[J];show aT _)] at qY;have hk1:kids.map (λe=>e.2.1)=x.ch:=by
      have:=congrArg (l3 qV) qY;rw[bo,bo] at this;rw[show x.ch=x.ch.map (qV∘λc=>(c,u)) from (List.map_id _).symm,<-this];rfl
     have tn:∀ e∈kids,e.2.2=u:=λe m=>by
      have:e.2∈x.ch.map λc=>(c,u):=by rw[<-qY];show ay.mpr ⟨e,m,rfl⟩
      show bj (ay.mp this) λc _ hc=>?_;rw[<-hc]
     fail;fail;show fin _ _ cc H' kids b0 b2 b4 b5 b7 (λa o e n=>X9 a o (X3 a o e n) n) vj Ct hk1 (λe m=>?_) (λg' hg FY=>⟨λx' fC ip=>?_,λx' fC ip Ao=>?_,λx' fC ip Ao c hc=>?_⟩) λju ri hI=>hZ (μ-1) ju ri (li 0x40400404043feddba4087d9a80e0421f5ea401f42103ab005c08418140 rfl xE (ef μ 1)) hI
     .rw[tn e m];show ⟨?_,ON⟩;have:=IJ (l:=x.ch.map (dq s (lst a) a)) (y:=dq s (lst a) a e.2.1) (ay.mpr ⟨_,by rw[<-hk1];show ay.mpr ⟨e,m,rfl⟩,rfl⟩);show li 0x111ffb76e50413280099410003 rfl Cp this
     .rw[hx] at fC;cases fC;show absurd ip hs
     .rw[hx] at fC;clear ip;cases fC;show absurd Ao kC
     .rw[hx] at fC;clear ip Ao;cases fC;rw[<-hk1] at hc;(show bj (ay.mp hc) λe he aG=>?_;clear hc;subst aG);rw[hg e he,tn e he,FY]
  .have hs:x.sort=0:=by simpa using h
   have hch:x.ch=[]:=(C.lf j x hx).mp hs;fail;show fin _ _ _ H3 [] e0 e2 e4 rfl rfl X3 (by rw[bK];show Ib) (λe m=>(iF m)) (by rw[hch];rfl) (λe m=>(iF m)) (λg' _ FY=>⟨λx' fC ip=>?_,λx' fC ip=>?_,λx' fC ip=>?_⟩) λju ri hI=>hZ (μ-1) ju ri (li 0x40400404043feddba4087d9a80e0421f5ea401f42103ab005c08418140 rfl xE (ef μ 1)) hI
   .rw[FY];rw[gL C hx,if_pos hs] at F';show F'
   .rw[hx] at fC;cases fC;show absurd hs ip
   .rw[hx] at fC;cases fC;show absurd hs ip
 .have:St=[]:=by
   cases St with
   |nil=>rfl
   |cons=>simp at h
  clear h;subst this;left;show q H2 g1 (R1.ext X1) (M1.trans (Mv.ext X1)) (Gk g1 (λ_ _ _=>rfl) λe m=>(iF m))
end
noncomputable def Con(p g:Int->Int):List Int->Int->Prop
 |[],_=>True
 |c::r,z=>p c=z/\Con p g r (z+g c)
theorem uq{p g:Int->Int}{c:Int}:∀ {l:List Int} {z:Int},Con p g l z->p c=z+aI (l.map g)->Con p g (l++[c]) z:=by
 intro l;induction l with
 |nil=>
  intro z _ h;show ⟨by rw[h];simp[aI],trivial⟩
 |cons y r ih=>
  intro z h e;show ⟨h.1,ih h.2 (by rw[e,aq,bc];show li 0x11ff9f004c008060c01010003 rfl)⟩
theorem Con.congr{p p' g:Int->Int}:∀ {l:List Int} {z:Int},(∀ c∈l,p' c=p c)->Con p g l z->Con p' g l z:=by
 intro l;induction l with
 |nil=>
  intro _ _ _;show trivial
 |cons y r ih=>
  intro z e h;show ⟨by rw[e y (.head _)];show h.1,ih (λc m=>e c (.tail _ m)) h.2⟩
structure PxL (s:S) (p g:Int->Int->Int) (j:Int):Prop where
 al:∀ x,s.m j=some x->Con (p (Mine.al x.sort)) (g (Mine.al x.sort)) x.ch (p (Mine.al x.sort) j)
 ac:∀ x,s.m j=some x->∀ c∈x.ch,p (1-Mine.al x.sort) c=p (1-Mine.al x.sort) j
theorem lS(z:Int):al z=0\/al z=1:=by unfold al;split<;>simp
noncomputable def Plp(s:S)(p':Int->Int->Int):Prop:=p' 0 s.root=0/\p' 1 s.root=0/\∀ j∈pre (aA s) s.root,PxL s p' s.g j
section
variable {n:Nat} {hd:Bool} {H H':MH} {Y:Ly} {s:S} {d:Int->Nat} {k:Int} {x:W} {Q:PQ} {E:MH->Prop}
noncomputable def yz(a0:Int)(b:Int)(z:Int)(l:List Int)(g:Int->Int):Int:=if a0=b then z+aI (l.map g) else z
theorem iY(bO:hd=false)(R:Rp H Y s)(w:WF0 s d)
  (q:∀ H' p',Rp H' Y { s with p:=p' }->Mv (Own Y s) (Own Y s) H H'->Plp s p'->Q .none H'):br Fn (n+2) hd 24 [.ref Y.tp] H Q E:=by
 clear n hd H Y s d Q E _ bO R w q;have C:=w.cl;show bj w.root λxr dZ _=>?_;have hk:∃ x,s.m s.root=some x:=⟨xr,dZ⟩
 have rx:(pre (aA s) s.root).length<=1000:=C.len _ _ dZ;show w_call rfl rfl ?_;unfold mR;left;show ⟨lb rfl,λw0 MK=>?_⟩;clear w0 _ MK;have X0:Ext H (upd H w0 (.tup [.int s.root,.int 0,.int 0])):=Ext.new MK;left;show ⟨lb rfl,λwt AA=>?_⟩;clear wt _ AA;have By:H wt=none:=X0.none AA;have CJ:¬ Own Y s wt:=R.fresh By;have n0:w0≠wt:=λz=>by rw[<-z,af] at AA;show fB AA
 fail
 show ll (gi (n:=(pre (aA s) s.root).length) (λμ ρ H1=>ρ 0=some (.ref Y.tp)/\ρ 1=some (.ref wt)/\∃ (p1:Int->Int->Int) (St:List (Nat×Int×Int×Int)),
  Rp H1 Y { s with p:=p1 }/\Mv (Own Y s) (Own Y s) H H1/\H1 wt=some (.list (St.map λe=>.ref e.1))/\(∀ e∈St,H1 e.1=some (.tup [.int e.2.1,.int e.2.2.1,.int e.2.2.2]))/\μ=(St.flatMap λe=>pre (aA s) e.2.1).length/\μ<=1000/\
  (St.flatMap λe=>pre (aA s) e.2.1).Nodup/\(∀ e∈St,∃ x,s.m e.2.1=some x)/\
  (∀ p':Int->Int->Int,(∀ b j,(∀ e∈St,j∉pre (aA s) e.2.1)->p' b j=p1 b j)->(∀ e∈St,p' 0 e.2.1=e.2.2.1/\p' 1 e.2.1=e.2.2.2/\∀ j∈pre (aA s) e.2.1,PxL s p' s.g j)->Plp s p')) ?_
  ⟨rfl,rfl,s.p,[(w0,s.root,0,0)],R.ext (X0.trans (Ext.new AA)),Mv.ext (X0.trans (Ext.new AA)),by rw[af];rfl,λe m=>by rw[aa.mp m,aj n0,af],by simp,rx,by simpa using w.fo.pre_nodup s.root,λe m=>by rw[aa.mp m];show hk,λp' h1 h2=>h2 _ (.head _)⟩)
 rintro μ ρ H1 ⟨e0,e1,p1,St,R1,M1,hW,hT,l7,mW,dA,wD,Gk⟩ Z hZ;clear μ ρ H1 p1 St Z _ e0 e1 R1 M1 hW hT l7 mW dA wD Gk hZ;have xq:St.length<=μ:=by
  rw[l7];have:∀ l:List (Nat×Int×Int×Int),l.length<=(l.flatMap λe=>pre (aA s) e.2.1).length:=λl=>by
   induction l with
   |nil=>show aT _
   |cons y t ih=>
    rw[aE,aB,aH];have:0<(pre (aA s) y.2.1).length:=cL (bS C.rk _);show li 0x111ffb76e8c00c2e0420748541a018130 rfl ih this
  show this St
 left;show ⟨by simp[lim],λc hc=>?_⟩;clear c _ hc;have F8:wt≠c:=λz=>by rw[<-z,hW] at hc;show fB hc
 show uL (by rw[aj F8];show hW) (af _ _ _) (by rw[J];show li 0x111ffb76e8480f40107a110120 rfl mW xq) ?_;have X1:Ext H1 (upd H1 c (.list [])):=Ext.new hc;generalize upd H1 c (.list [])=H2 at X1;show bP (λh=>?_) λh=>?_
 .have cV:St≠[]:=λz=>by clear hW hT l7 dA wD Gk xq;subst z;simp at h
  (show wJ (iy cV) λka aG cE=>?_;clear h cV;obtain ⟨t,j,l,u⟩:=aG;subst cE);have Am:ka.length+1<=1000:=by
   have h1:(ka++[(t,j,l,u)]).length=ka.length+1:=by simp
   show li 0x11011ffb76edd08b0210bab0210a0f40107a110130 rfl mW xq h1
  show oE (wD (t,j,l,u) (j4)) λx hx=>?_;have hx:s.m j=some x:=hx;have sy:H1 t=some (.tup [.int j,.int l,.int u]):=hT (t,j,l,u) (j4);have Mr:H2 wt=some (.list ((ka.map λe=>Val.ref e.1)++[.ref t])):=by
   have:=X1 _ _ hW;rwa [aD] at this
  have gJ:=C.chlen hx;have tq:((ka.flatMap λe=>pre (aA s) e.2.1)++j::x.ch.flatMap (pre (aA s))).Nodup:=by
   have:=dA;rw[bg,aE,eY,bK,eE C.rk j,aF hx] at this;show this
  have xE:μ=(ka.flatMap λe=>pre (aA s) e.2.1).length+1+(x.ch.flatMap (pre (aA s))).length:=by
   rw[l7,bg,aE,eY,bK,eE C.rk j,aF hx,aB,aH];show li 0x11ffab003c0840e0c08418120 rfl
  have Av:∀ e∈ka,j∉pre (aA s) e.2.1:=λe m hm=>by
   have:=(aL.mp tq).2.2 j (cG.mpr ⟨e,m,hm⟩) j (.head _);show this rfl
  have Co:∀ c∈x.ch,j∉pre (aA s) c:=λc m=>cA C.rk (by rw[aF hx];show m);have R2:Rp H2 Y { s with p:=p1 }:=R1.ext X1;have l6:({ s with p:=p1 }:S).m j=some x:=hx;left;show yV Mr (by rw[J];show li 0x47fedd2900e8458108110 rfl Am) ?_;generalize l5:upd H2 wt (.list (ka.map λe=>Val.ref e.1))=H3;revert H3 l5;show gk ?_;intro H3 l5;have X3:eO wt H2 H3:=l5▸eO.refl.upd;have Ib:H3 wt=some (.list (ka.map λe=>Val.ref e.1)):=by rw[<-l5,af]
  have R3:Rp H3 Y { s with p:=p1 }:=R2.extX (s:={ s with p:=p1 }) CJ X3;have M3:Mv (Own Y s) (Own Y s) H H3:=(M1.trans (Mv.ext X1)).extX By X3;have UE:t≠wt:=λz=>by rw[z,hW] at sy;show lA sy rfl
  have QU:H3 t=some (.tup [.int j,.int l,.int u]):=X3 _ _ (X1 _ _ sy) UE;have Wi:∀ e∈ka,H3 e.1=some (.tup [.int e.2.1,.int e.2.2.1,.int e.2.2.2]):=λe m=>by
   have h1:=hT e (aM _ m);show X3 _ _ (X1 _ _ h1) λz=>by rw[z,hW] at h1;show lA h1 rfl
  show fY QU bO rfl ?_;left;show ⟨lb rfl,λb hb=>?_⟩;have X4:Ext H3 (upd H3 b (.tup [.int l,.int u])):=Ext.new hb;have Wr:upd H3 b (.tup [.int l,.int u]) b=some (.tup [.int l,.int u]):=af _ _ _;clear sy QU;generalize upd H3 b (.tup [.int l,.int u])=H4 at X4 Wr;have R4:Rp H4 Y { s with p:=p1 }:=R3.ext X4;show fY Wr bO rfl ?_;have gK:∀ i,i≠j->∀ b,bI (bI p1 0 j l) 1 j u b i=p1 b i:=λi hi b=>by rw[cI _ hi,cI _ hi]
  have R5:=R4.geo (g':=s.g) (p':=bI p1 0 j l) l6 (λ_ _ _=>rfl) (λb i hi=>cI _ hi);have M5:Mv (Own Y s) (Own Y s) H4 (upd H4 (Y.wa j) (.inst 0 (wl Y { s with p:=bI p1 0 j l } j x))):=Mv.upd (.inr (.inr ⟨j,x,hx,.inl rfl⟩));left;show bX (R4.wn j x l6) (lb rfl) ?_
  rw[show (wl Y { s with p:=p1 } j x).set 4 (.int l)=wl Y { s with p:=bI p1 0 j l } j x by
   simp only[wl,bJ,dS p1 (show (1:Int)≠0 by decide)];rfl]
  have OS:({ s with p:=bI p1 0 j l }:S).m j=some x:=hx;clear l6;revert M5;revert R5;generalize upd H4 (Y.wa j) (.inst 0 (wl Y { s with p:=bI p1 0 j l } j x))=H5;revert H5;show gk ?_;intro H5 R5 M5;have R5:Rp H5 Y { s with p:=bI p1 0 j l }:=R5;have R6:=R5.geo (g':=s.g) (p':=bI (bI p1 0 j l) 1 j u) OS (λ_ _ _=>rfl) (λb i hi=>cI _ hi);have M6:Mv (Own Y s) (Own Y s) H5 (upd H5 (Y.wa j) (.inst 0 (wl Y { s with p:=bI (bI p1 0 j l) 1 j u } j x))):=Mv.upd (.inr (.inr ⟨j,x,hx,.inl rfl⟩));left;show bX (R5.wn j x OS) (lb rfl) ?_
  rw[show (wl Y { s with p:=bI p1 0 j l } j x).set 5 (.int u)=wl Y { s with p:=bI (bI p1 0 j l) 1 j u } j x by
   simp only[wl,bJ,dS _ (show (0:Int)≠1 by decide)];rfl]
  clear OS R5;revert M6;revert R6;generalize upd H5 (Y.wa j) (.inst 0 (wl Y { s with p:=bI (bI p1 0 j l) 1 j u } j x))=H6;revert H6;show gk ?_;intro H6 R6 M6;generalize Ou:bI (bI p1 0 j l) 1 j u=p2 at *
  have R6:Rp H6 Y { s with p:=p2 }:=R6;have Rr:Mv (Own Y s) (Own Y s) H3 H6:=(Mv.ext X4).trans (M5.trans M6);have Wk:=Rr.keep _ _ Ib CJ;have Wj:∀ e∈ka,H6 e.1=some (.tup [.int e.2.1,.int e.2.2.1,.int e.2.2.2]):=λe m=>Rr.keep _ _ (Wi e m) (R3.notup (Wi e m));have Xe:({ s with p:=p2 }:S).m j=some x:=hx;have tj:=R6.cn j x Xe;have FQ:Y.ca j≠wt:=λz=>CJ (.inr (.inr ⟨j,x,hx,.inr (.inl z.symm)⟩));left;rw[cK tj]
  show cJ (λi cc H'=>cc 0=some (.ref Y.tp)/\cc 1=some (.ref wt)/\cc 2=some (.ref (Y.wa j))/\cc 5=some (.int (yz (al x.sort) 0 l (x.ch.take i) (s.g 0)))/\cc 6=some (.int (yz (al x.sort) 1 u (x.ch.take i) (s.g 1)))/\eO wt H6 H'/\
   ∃ kids:List (Nat×Int×Int×Int),kids.map (λe=>e.2.1)=x.ch.take i/\H' wt=some (.list ((ka++kids).map λe=>Val.ref e.1))/\(∀ e∈kids,H' e.1=some (.tup [.int e.2.1,.int e.2.2.1,.int e.2.2.2]))/\
   ∀ p':Int->Int->Int,(∀ e∈kids,p' 0 e.2.1=e.2.2.1/\p' 1 e.2.1=e.2.2.2)->Con (p' (al x.sort)) (s.g (al x.sort)) (x.ch.take i) (if al x.sort=0 then l else u)/\∀ c∈x.ch.take i,p' (1-al x.sort) c=if al x.sort=0 then u else l) _ ?_ ?_
   ⟨e0,e1,rfl,?_,?_,eO.refl,[],rfl,by rw[bK];show Wk,λe m=>(iF m),λp' _=>⟨trivial,λc m=>(by cases m)⟩⟩
  .rintro i it cc H' hit ⟨b0,b1,b2,b5,b6,X9,kids,qY,vj,Ct,Kd⟩;show ⟨λb m=>?_,λK hK th=>?_⟩
   .rw[aa.mp m,tj];show X9 _ _ tj FQ
   rw[au] at hit;cases hz:x.ch[i]? with
   |none=>rw[hz] at hit;show cz hit
   |some z=>
    rw[hz] at hit;cases hit;show oE (ao.mp hz) λhi hg=>?_;have qp:x.ch.take (i+1)=x.ch.take i++[z]:=by rw[az hi,hg]
    have hkl:kids.length<=i:=by
     have:=congrArg cg qY;rw[J,cq] at this;show li 0x101101101001ffb76e80a0766bd41c1e80a1f5ea0a0f4070ba818140 rfl this (sH i x.ch.length)
    show oE (C.kid j x z hx (aw hz)) λy hy=>?_;have ML:({ s with p:=p2 }:S).m z=some y:=hy;change wSs _ _ _ (upd cc 3 (.int z)) _ _ _;left;show ⟨lb rfl,λtt mV=>?_⟩;have hn:wt≠tt:=λz=>by rw[<-z,vj] at mV;show fB mV
    show cy (iT (by rw[aj hn];show vj) (by rw[J,aB];show li 0x11111ffb76eddba12600e074050fa4185d0881e8458108140 rfl Am gJ hi hkl) ?_);generalize hL:yz (al x.sort) 0 l (x.ch.take i) (s.g 0)=L at *
    generalize hU:yz (al x.sort) 1 u (x.ch.take i) (s.g 1)=U at *
    have yv:eO wt H6 (upd (upd H' tt (.tup [.int z,.int L,.int U])) wt (.list ((ka++kids).map (λe=>Val.ref e.1)++[.ref tt]))):=(X9.ext (Ext.new mV)).upd;have Gb:upd (upd H' tt (.tup [.int z,.int L,.int U])) wt (.list ((ka++kids).map (λe=>Val.ref e.1)++[.ref tt])) wt=some (.list ((ka++(kids++[(tt,z,L,U)])).map λe=>Val.ref e.1)):=by rw[af];simp
    have Ga:∀ e∈kids++[(tt,z,L,U)],upd (upd H' tt (.tup [.int z,.int L,.int U])) wt (.list ((ka++kids).map (λe=>Val.ref e.1)++[.ref tt])) e.1=some (.tup [.int e.2.1,.int e.2.2.1,.int e.2.2.2]):=λe m=>by
     rcases ak.mp m with m|m
     .have h1:=Ct e m;rw[aj (λz=>by rw[z,vj] at h1;show lA h1 rfl),aj (λz=>by rw[z,mV] at h1;show cz h1)];show h1
     .rw[aa.mp m,aj hn.symm,af]
    have O4:(kids++[(tt,z,L,U)]).map (λe=>e.2.1)=x.ch.take (i+1):=by rw[aD,qY,qp];rfl
    revert Ga;revert Gb;revert yv;generalize upd (upd H' tt (.tup [.int z,.int L,.int U])) wt (.list ((ka++kids).map (λe=>Val.ref e.1)++[.ref tt]))=H7;revert H7;show gk ?_;intro H7 yv Gb Ga;have R7:Rp H7 Y { s with p:=p2 }:=R6.extX (s:={ s with p:=p2 }) CJ yv;have O8:∀ p':Int->Int->Int,(∀ e∈kids++[(tt,z,L,U)],p' 0 e.2.1=e.2.2.1/\p' 1 e.2.1=e.2.2.2)->Con (p' (al x.sort)) (s.g (al x.sort)) (x.ch.take (i+1)) (if al x.sort=0 then l else u)/\∀ c∈x.ch.take (i+1),p' (1-al x.sort) c=if al x.sort=0 then u else l:=λp' hp=>by
     show oA (Kd p' λe m=>hp e (aM _ m)) λh1 h2=>?_;show oA (hp (tt,z,L,U) (j4)) λh3 h4=>?_;have h3:p' 0 z=L:=h3;have h4:p' 1 z=U:=h4;rw[qp];rcases lS x.sort with e|e
     .simp only[e,if_true] at h1 h2 ⊢;show ⟨uq h1 ?_,λc m=>?_⟩
      .rw[h3,<-hL];unfold yz;rw[e,if_pos rfl]
      .rcases ak.mp m with m|m
       .show h2 c m
       .rw[aa.mp m];change p' 1 z=u;rw[h4,<-hU];unfold yz;rw[e];rfl
     .simp only[e,show ¬ ((1:Int)=0) by decide,if_false] at h1 h2 ⊢;show ⟨uq h1 ?_,λc m=>?_⟩
      .rw[h4,<-hU];unfold yz;rw[e,if_pos rfl]
      .rcases ak.mp m with m|m
       .show h2 c m
       .rw[aa.mp m];change p' 0 z=l;rw[h3,<-hL];unfold yz;rw[e];rfl
    left;show fL ?_;left;show bP (λh=>?_) λh=>?_
    .have e:al x.sort=0:=of_decide_eq_true h;left;show hK _ _ ⟨b0,b1,b2,?_,?_,yv,_,O4,Gb,Ga,O8⟩
     .change some (Val.int _)=_;rw[qp,<-hL];unfold yz;rw[if_pos e,if_pos e,aD,bz];simp[aI];show li 0x11ff9f0600808060098010003 rfl
     .change cc 6=_;rw[b6,<-hU];unfold yz;rw[if_neg (by lia),if_neg (by lia)]
    .have e:al x.sort≠0:=of_decide_eq_false h;have e':al x.sort=1:=(lS x.sort).resolve_left e;left;show hK _ _ ⟨b0,b1,b2,?_,?_,yv,_,O4,Gb,Ga,O8⟩
     .change cc 5=_;rw[b5,<-hL];unfold yz;rw[if_neg e,if_neg e]
     .change some (Val.int _)=_;rw[qp,<-hU];unfold yz;rw[if_pos e',if_pos e',aD,bz];simp[aI];show li 0x11ff9f0600808060098010003 rfl
  .clear Xe;rintro cc H' ⟨b0,b1,b2,b5,b6,X9,kids,qY,vj,Ct,Kd⟩;show ⟨λb m=>?_,?_⟩
   .rw[aa.mp m,tj];show X9 _ _ tj FQ
   rw[J,bC] at qY Kd;have Kc:(kids.flatMap λe=>pre (aA s) e.2.1)=x.ch.flatMap (pre (aA s)):=by
    rw[<-qY,Bj]
   have F7:∀ e∈kids,e.2.1∈x.ch:=λe m=>by rw[<-qY];show ay.mpr ⟨e,m,rfl⟩
   have hkn:∀ e∈kids,j∉pre (aA s) e.2.1:=λe m=>Co _ (F7 e m);have sr:∀ e∈ka++kids,j∉pre (aA s) e.2.1:=λe m=>by
    rcases ak.mp m with m|m
    .show Av e m
    .show hkn e m
   fail;show hZ (μ-1) _ _ (li 0x40400404043feddba4087d9a80e0421f5ea401f42103ab005c08418140 rfl xE (ef μ 1)) ⟨b0,b1,p2,ka++kids,R6.extX (s:={ s with p:=p2 }) CJ X9,(M3.trans Rr).extX By X9,vj,λe m=>?_,?_,li 0x404440403feddba1103d9a80e0420f5ea400f42103a110120 rfl mW (ef μ 1),?_,λe m=>?_,λp' h1 h2=>?_⟩
   .rcases ak.mp m with m|m
    .show X9 _ _ (Wj e m) λz=>by have:=Wj e m;rw[z,Wk] at this;show lA this rfl
    .show Ct e m
   .rw[bg,Kc,aB];show li 0x1010111010101000100110ffb76eac014187d9a80e0421f5ea401f42103ab005c08418140 rfl xE (ef μ 1)
   .rw[bg,Kc];show d4 (eL (fO _ _) _) tq
   .rcases ak.mp m with m|m
    .show wD e (aM _ m)
    .show C.kid j x _ hx (F7 e m)
   .have TA:p' 0 j=l:=by rw[h1 0 j sr,<-Ou,dS _ (by decide),bJ]
    have TC:p' 1 j=u:=by rw[h1 1 j sr,<-Ou,bJ]
    show Gk p' (λb i h=>?_) λe m=>?_
    .have hi:i≠j:=λz=>h (t,j,l,u) (j4) (z▸bS C.rk j);rewrite [h1 b i λe m=>?_]
     .show gK i hi b
     .rcases ak.mp m with m|m
      .show h e (aM _ m)
      .show λhm=>h (t,j,l,u) (by simp) (eW C.rk (by rw[aF hx];show F7 e m) hm)
    .clear tq Av Co Ou gK tj FQ b2 hkn sr;rcases ak.mp m with m|m
     .show h2 e (aM _ m)
     .rw[aa.mp m];show ⟨TA,TC,λi hi=>?_⟩;clear m;rcases (eJ C.rk).mp hi with rfl|⟨c,hc,hi⟩
      .show oA (Kd p' λe m=>⟨(h2 e (bG _ m)).1,(h2 e (bG _ m)).2.1⟩) λc1 c2=>?_;show ⟨λx' fC=>?_,λx' fC=>?_⟩
       .rw[hx] at fC;cases fC;rcases lS x.sort with e|e
        .rw[e,TA];rw[e] at c1;show c1
        .rw[e,TC];rw[e] at c1;show c1
       .rw[hx] at fC;cases fC;rcases lS x.sort with e|e
        .rw[e] at c2 ⊢;intro c hc;have:=c2 c hc;rw[show (1:Int)-0=1 from rfl] at this ⊢;rw[this,TC];rfl
        .rw[e] at c2 ⊢;intro c hc;have:=c2 c hc;rw[show (1:Int)-1=0 from rfl] at this ⊢;rw[this,TA];rfl
      .rw[aF hx,<-qY] at hc;(show bj (ay.mp hc) λe he aG=>?_;clear hc;subst aG);show (h2 e (bG _ he)).2.2 i hi
  .change some (Val.int l)=_;simp[yz,aI]
  .change some (Val.int u)=_;simp[yz,aI]
 .have:St=[]:=by
   cases St with
   |nil=>rfl
   |cons=>simp at h
  clear h;subst this;left;show q H2 p1 (R1.ext X1) (M1.trans (Mv.ext X1)) (Gk p1 (λ_ _ _=>rfl) λe m=>(iF m))
end
section
variable {n:Nat} {hd:Bool} {H H':MH} {Y:Ly} {s:S} {d:Int->Nat} {k:Int} {x:W} {Q:PQ} {E:MH->Prop}
noncomputable def dB(s:S)(d:Int->Nat):Nat:=(s.ks.map d).sum
theorem IF{s:S}{d:Int->Nat}{k:Int}(h:k∈s.ks):d k<=dB s d:=by
 unfold dB;generalize s.ks=l at h;induction l with
 |nil=>show iF h
 |cons y r ih=>
  rw[aq,List.sum_cons];rcases ag.mp h with rfl|h
  .show li 0x7fe8c00c08120 rfl
  .have:=ih h;show li 0x47fedd18018503a018130 rfl this
theorem WF0.reach(w:WF0 s d):∀ m k,dB s d-d k<=m->(∃ x,s.m k=some x)->k∈pre (aA s) s.root:=by
 intro m;induction m with
 |zero=>
  rintro k hm ⟨x,hx⟩;by_cases e:k=s.root
  .rw[e];show bS w.rk _
  .show bj (w.top k x hx e) λy hy hc=>?_;have h1:=w.rk x.par k (by rw[aF hy];show hc);have:=IF (d:=d) ((w.dom x.par).mpr ⟨y,hy⟩);show (li 0x10111001110ffb76edda8366a0f80181d7a9001d00c3e80e1748507a100140 rfl hm h1 this (ef (dB s d) (d k))).elim
 |succ m ih=>
  rintro k hm ⟨x,hx⟩;by_cases e:k=s.root
  .rw[e];show bS w.rk _
  .show bj (w.top k x hx e) λy hy hc=>?_;have h1:=w.rk x.par k (by rw[aF hy];show hc);show tL w.rk (ih x.par (li 0x44004440004044040004000400004003feddbb76e8062f66a1380281d7a9001d0144ecd42700717af52017a0389d21c2e8c08418160 rfl hm h1 (ef (dB s d) (d x.par)) (ef (dB s d) (d k))) ⟨y,hy⟩) (by rw[aF hy];show hc)
theorem WF0.all(w:WF0 s d)(hk:∃ x,s.m k=some x):k∈pre (aA s) s.root:=w.reach _ k (aT _) hk
structure Gm (s:S):Prop where
 ax:∀ a k,(a=0\/a=1)->(∃ x,s.m k=some x)->AxL s a (s.g a) k
 bd:∀ a,(a=0\/a=1)->s.g a s.root<=50000
theorem Gm.le(G:Gm s)(w:WF0 s d){a:Int}(ha:a=0\/a=1)(hk:∃ x,s.m k=some x):0<=s.g a k/\s.g a k<=50000:=by
 show bj w.root λxr dZ _=>?_;have h:=Se w.cl s.root ⟨xr,dZ⟩ (λj hj=>G.ax a j ha (w.pre_at _ ⟨xr,dZ⟩ hj)) k (w.all hk);have:=G.bd a ha;show li 0x11101001ffb76ebcaa806500832aa05af282019402002 rfl h this
theorem Gm.sub(G:Gm s)(w:WF0 s d){a:Int}(ha:a=0\/a=1)(hk:∃ x,s.m k=some x):∀ j∈pre (aA s) k,AxL s a (s.g a) j/\s.g a j<=100000:=λj hj=>by
 have jj:=w.pre_at k hk hj;have:=(G.le w ha jj).2;show ⟨G.ax a j ha jj,li 0x11ffb72ab019550001 rfl this⟩
theorem Gm.ls(G:Gm s)(w:WF0 s d){a:Int}(ha:a=0\/a=1)(hk:∃ x,s.m k=some x):dq s (lst a) a k<=s.g a k:=yX w.cl k hk λj hj=>(G.sub w ha hk j hj).1
structure Mid (s:S) (a P:Int) (g0 g1:Int->Int->Int) (done:List Int):Prop where
 ax:∀ j,(∃ x,s.m j=some x)->j≠P->AxL s a (g1 a) j
 oth:∀ b j,b≠a->g1 b j=g0 b j
 out:∀ j,(∀ c∈done,j∉pre (aA s) c)->g1 a j=g0 a j
theorem Mid.step(w:WF0 s d){a P c v:Int}{g0 g1 g2:Int->Int->Int}{done:List Int}(m:Mid s a P g0 g1 done)(hc:∃ x,s.m c=some x/\x.par=P)(z:ER s a c v g1 g2):Mid s a P g0 g2 (done++[c]):=by
 show ⟨λj hj hP=>?_,λb j hb=>by rw[z.1 b j (.inl hb)];show m.oth b j hb,λj hj=>?_⟩
 .by_cases F6:j∈pre (aA s) c
  .show z.2.2 j F6
  .show (m.ax j hj hP).congr (z.1 a j (.inr F6)) λi hi=>z.1 a i (.inr λFZ=>?_);have e:=w.fo.edge hi F6 FZ;(show bj hc λx hx hp=>?_;clear hc);have:=w.fo.par j i hi;rw[e,qL hx,hp] at this;show hP this.symm
 .rw[z.1 a j (.inr (hj c (by simp)))];show m.out j λi hi=>hj i (aM _ hi)
theorem Gm.mid(G:Gm s){a:Int}(ha:a=0\/a=1)(P:Int):Mid s a P s.g s.g []:=⟨λj hj _=>G.ax a j ha hj,λ_ _ _=>rfl,λ_ _=>rfl⟩
theorem Mid.gm(w:WF0 s d){a P:Int}{g1:Int->Int->Int}{done:List Int}{y:W}(ha:a=0\/a=1)(m:Mid s a P s.g g1 done)(V8:∀ b k,(b=0\/b=1)->b≠a->(∃ x,s.m k=some x)->AxL s b (s.g b) k)(Xy:∀ b,(b=0\/b=1)->s.g b s.root<=50000)
  (hy:s.m P=some y) (vp:y.sort≠0) (MN:al y.sort=a) (hd:∀ c∈done,c∈y.ch) (dY:aI (y.ch.map (g1 a))=s.g a P):Gm { s with g:=g1 }/\∀ b,g1 b s.root=s.g b s.root:=by
 clear s d a P g1 done y _ w ha m V8 Xy hy vp MN hd dY;have hP:g1 a P=s.g a P:=m.out P λc hc=>cA w.rk (by rw[aF hy];show hd c hc);have iP:∀ b,g1 b s.root=s.g b s.root:=λb=>by
  by_cases hb:b=a
  .clear ha V8 MN dY hP;subst hb;show m.out _ λc hc h=>?_;show bj w.root λxr dZ hp=>?_;show bp (w.kid P y c hy (hd c hc)) λz hz yK _=>?_;by_cases e:s.root=c
   .rw[e,hz] at dZ;clear hz;cases dZ;have:=w.key P y hy;show li 0x44007feddbb506bca101660483382019d00003 rfl hp yK this
   .have:=w.fo.up c h e;rw[qL dZ,hp] at this;show oE (w.pre_at c ⟨z,hz⟩ this) λu hu=>?_;have:=w.key 0 u hu;show li 0x7fed41af280419902001 rfl this
  .show m.oth b _ hb
 show ⟨⟨λb k hb hk=>?_,λb hb=>by change g1 b s.root<=_;rw[iP];show Xy b hb⟩,iP⟩;by_cases e:b=a
 .subst e;by_cases ek:k=P
  .clear m;subst ek;show ⟨λx' rb hs=>?_,λx' rb hs kC=>?_,λx' rb hs kC=>?_⟩
   .rw[show s.m k=some x' from rb] at hy;clear rb;cases hy;show absurd hs vp
   .rw[show s.m k=some x' from rb] at hy;clear rb hs kC;cases hy;change aI _=g1 b k;rw[hP];show dY
   .rw[show s.m k=some x' from rb] at hy;clear rb hs;cases hy;show absurd MN kC
  .show ⟨(m.ax k hk ek).lf,(m.ax k hk ek).al,(m.ax k hk ek).ac⟩
 .have h:=V8 b k hb e hk;have:g1 b=s.g b:=funext λj=>m.oth b j e;change AxL _ b (g1 b) k;rw[this];show ⟨h.lf,h.al,h.ac⟩
theorem ER.root(w:WF0 s d){a v:Int}{g1:Int->Int->Int}(G:Gm s)(hv:v<=50000)(z:ER s a s.root v s.g g1):Gm { s with g:=g1 }:=by
 have Kq:∀ b,b≠a->g1 b=s.g b:=λb hb=>funext λj=>z.1 b j (.inl hb);show ⟨λb k hb hk=>?_,λb hb=>?_⟩
 .by_cases e:b=a
  .clear Kq;subst e;have h:=z.2.2 k (w.all hk);show ⟨h.lf,h.al,h.ac⟩
  .have h:=G.ax b k hb hk;change AxL _ b (g1 b) k;rw[Kq b e];show ⟨h.lf,h.al,h.ac⟩
 .by_cases e:b=a
  .subst e;change g1 b s.root<=_;rw[z.2.1];show hv
  .change g1 b s.root<=_;rw[Kq b e];show G.bd b hb
theorem B8{a0 b0:Int}(bO:hd=false)(R:Rp H Y s)(w:WF0 s d)(G:Gm s)(h1:a0<=50000)(h2:b0<=50000)
  (q:∀ H' g' p',Rp H' Y { s with g:=g',p:=p' }->Mv (Own Y s) (Own Y s) H H'->Gm { s with g:=g',p:=p' }->Plp { s with g:=g' } p'->g' 0 s.root=a0->g' 1 s.root=b0->Q .none H') (e:∀ H',Ext H H'->E H') :
  br Fn (n+5) hd 30 [.ref Y.tp,.int a0,.int b0] H Q E:=by
 clear n hd H Y s d Q E a0 b0 _ bO R w G h1 h2 q e;show bj w.root λxr dZ _=>?_;have hk:∃ x,s.m s.root=some x:=⟨xr,dZ⟩
 show w_call rfl rfl ?_;unfold ku;have body:∀ H1,Ext H H1->dq s (lst 0) 0 s.root<=a0->dq s (lst 1) 1 s.root<=b0->wSs (br Fn (n+4)) hd (.cons (.expr (.call 23 (.cons (.var 0) (.cons (.attr (.var 0) 1 5) (.cons (.cst (.int 0)) (.cons (.var 1) .nil)))))) (.cons (.expr (.call 23 (.cons (.var 0) (.cons (.attr (.var 0) 1 5) (.cons (.cst (.int 1)) (.cons (.var 2) .nil)))))) (.cons (.expr (.call 24 (.cons (.var 0) .nil))) .nil)))
   (λi=>[Val.ref Y.tp,.int a0,.int b0][i]?) H1 (λr _ H=>Flo.rec (motive:=λ_=>Prop) (Q .none H) (λv=>Q v H) r) (λ_ H=>E H):=by
  intro H1 X1 l1 l2;have R1:=R.ext X1;left;show mm bO R1 w (.inl rfl) hk l1 (li 0x11ffb72ab019550001 rfl h1) (G.sub w (.inl rfl) hk) λH2 g2 R2 M2 z2=>?_;have G2:=z2.root w G h1;have w2:WF0 { s with g:=g2 } d:=w.geo g2 s.p;left;show mm (s:={ s with g:=g2 }) bO R2 w2 (.inr rfl) hk l2 (li 0x11ffb72ab019550001 rfl h2) (G2.sub w2 (.inr rfl) hk) λH3 g3 R3 M3 z3=>?_;have G3:=ER.root w2 G2 h2 z3;have w3:WF0 { s with g:=g3 } d:=w.geo g3 s.p;left;show iY (s:={ s with g:=g3 }) bO R3 w3 λH4 p4 R4 M4 z4=>?_;left;show q H4 g3 p4 R4 ((Mv.ext X1).trans (M2.trans (M3.trans M4))) ⟨λa k ha hk=>?_,G3.bd⟩ z4 ?_ z3.2.1
  .have h:=G3.ax a k ha hk;show ⟨h.lf,h.al,h.ac⟩
  .rw[z3.1 0 _ (.inl (by decide))];show z2.2.1
 left;show gB bO R w.cl hk λH1 X1=>?_;left;show bP (λh=>?_) λh=>?_
 .left;show gZ bO (e _ X1)
 have l1:dq s (lst 0) 0 s.root<=a0:=by show li 0x47fedca0016ecc0802002 rfl (dF h)
 have R1:=R.ext X1;left;show gB bO R1 w.cl hk λH2 X2=>?_;left;show bP (λh=>?_) λh=>?_
 .left;show gZ bO (e _ (X1.trans X2))
 have l2:dq s (lst 1) 1 s.root<=b0:=by show li 0x47fedca0016ecc0802002 rfl (dF h)
 fail;fail;show body H2 (X1.trans X2) l1 l2
theorem ya{a:Int}(R:Rp H Y s)(w:WF0 s d)(hk:∃ x,s.m k=some x)(q:∀ r,r=0\/(∃ x y,s.m r=some x/\s.m x.par=some y/\al y.sort=a/\r∈y.ch)->Q (.int r) H):br Fn (n+2) hd 25 [.ref Y.tp,.int k,.int a] H Q E:=by
 clear n hd H Y s d k Q E a _ R w hk q;(show oE hk λx hx=>?_;clear hk);show w_call rfl rfl ?_;unfold si;left;show iZ R hx ?_;fail;show ll (gi (n:=dB s d-d k) (λμ ρ H1=>ρ 0=some (.ref Y.tp)/\ρ 2=some (.int a)/\H1=H/\∃ j x,s.m j=some x/\ρ 3=some (.ref (Y.wa j))/\μ=dB s d-d j) ?_ ⟨rfl,rfl,rfl,k,x,hx,rfl,rfl⟩);intro μ ρ H1 I0 Z hZ;clear μ ρ H1 Z _ I0 hZ;clear _ I0 e0 e2 eH I1;clear j x _ _ I1;clear _ I1 hx e3 l7;subst eH;left;show bP (λh=>?_) λh=>?_
 .have hp:x.par≠0:=by simpa using h
  have hr:j≠s.root:=λz=>by
   show bj w.root λxr dZ Ot=>?_;rw[<-z,hx] at dZ;cases dZ;show hp Ot
  show bj (w.top j x hx hr) λy hy hc=>?_;have JU:=w.rk x.par j (by rw[aF hy];show hc);have hd2:=IF (d:=d) ((w.dom x.par).mpr ⟨y,hy⟩);left;show fL ?_;left;show bP (λh=>?_) λh=>?_
  .left;show q j (.inr ⟨x,y,hx,hy,of_decide_eq_true h,hc⟩)
  .left;show hZ (dB s d-d x.par) _ _ (li 0x1100101100001001100110010111000010001100ffb76eddbb748117b3509c0141ebd4801e80a2766a138038bd7a900bd01c4e8121f4870ba818160 rfl l7 JU hd2 (ef (dB s d) (d x.par)) (ef (dB s d) (d j))) ⟨e0,e2,rfl,x.par,y,hy,rfl,rfl⟩
 .left;show q 0 (.inl rfl)
theorem eV{x:Int}:∀ {l:List Int},x∈l->l=l.take (idxOf x l)++x::l.drop (idxOf x l+1)/\idxOf x l<l.length
 |y::r,h=>by
  unfold idxOf
  by_cases e:y=x
  .rw[if_pos e];clear h;subst e;simp
  .rw[if_neg e]
   show oA (eV ((ag.mp h).resolve_left λz=>e z.symm)) λh1 h2=>?_
   show ⟨?_,by simpa using h2⟩
   change y::r=y::(r.take (idxOf x r)++x::r.drop (idxOf x r+1))
   rw[<-h1]
noncomputable def kQ(x:Int)(l:List Int):List Int:=l.drop (idxOf x l+1)++(l.take (idxOf x l)).reverse
theorem nh{x c:Int}{l:List Int}(nd:l.Nodup)(h:x∈l)(hc:c∈kQ x l):c∈l/\c≠x:=by
 show oA (eV h) λe _=>?_;have hn:(l.take (idxOf x l)++x::l.drop (idxOf x l+1)).Nodup:=e▸nd;show mf (aL.mp hn) λn1 n2 n3=>?_;unfold kQ at hc;rcases ak.mp hc with hc|hc
 .show ⟨l4 hc,λz=>?_⟩;show (aQ.mp n2).1 (z▸hc)
 .have hc:=cw.mp hc;show ⟨cj hc,λz=>?_⟩;show n3 c hc x (.head _) z
theorem y5{x:Int}{l:List Int}(nd:l.Nodup)(h:x∈l):(kQ x l).Nodup:=by
 show oA (eV h) λe _=>?_;have hn:(l.take (idxOf x l)++x::l.drop (idxOf x l+1)).Nodup:=e▸nd;show mf (aL.mp hn) λn1 n2 n3=>?_;unfold kQ;show aL.mpr ⟨(aQ.mp n2).2,((List.pairwise_reverse.mpr (n1.imp λh=>h.symm))),λa ha b hb z=>?_⟩;show n3 b (cw.mp hb) a (.tail _ ha) z.symm
theorem nj{x:Int}{l:List Int}(h:x∈l)(f:Int->Int):aI (l.map f)=f x+aI ((kQ x l).map f):=by
 show oA (eV h) λe _=>?_;conv=>lhs;rw[e]
 unfold kQ;rw[aD,aD,bz,bz,aq,bc,gp,tJ];show li 0x11ff9f0600010160c01010003 rfl
theorem vV{x:Int}{l:List Int}(h:x∈l):(kQ x l).length+1=l.length:=by
 show oA (eV h) λ_ h2=>?_;unfold kQ;rw[aB,dK,Bl,cq];show li 0x400400040044040040440040000040004000400044040040444000043feddbb7503c0870070bb35ea061f40107af5010fa0181d9a81e0c084085d7a9005d18108107a418140 rfl h2 (ef l.length (idxOf x l+1)) (sH (idxOf x l) l.length)
theorem sP{x y:W}(R:Rp H Y s)(w:WF0 s d)(hx:s.m k=some x)(hy:s.m x.par=some y)(hc:k∈y.ch)(q:∀ H' r,Ext H H'->H r=none->H' r=some (.list ((kQ k y.ch).map .int))->Q (.ref r) H'):br Fn (n+1) hd 26 [.ref Y.tp,.int k] H Q E:=by
 clear n hd H Y s d k Q E x y _ R w hx hy hc q;have hl:=w.cl.chlen hy;show oA (eV hc) λ_ hi=>?_;show w_call rfl rfl ?_;unfold uX;left;show pE (R.cn _ y hy) (li 0x11ffb742403a110110 rfl hl) hc ?_;left;show M0 (R.cn _ y hy) (by rw[J];show li 0x11ffb742403a110110 rfl hl) (li 0x7fe5c0840a010 rfl) (li 0x111ffb76e6c891060420f48107a110120 rfl hl hi) λc1 Cc=>?_;have R1:=R.new (o:=.list ((y.ch.map .int).drop ((idxOf k y.ch:Int)+1).toNat)) Cc;left;show Ma (R1.cn _ y hy) (by rw[J];show li 0x11ffb742403a110110 rfl hl) (li 137325748240 rfl) (by unfold lim;show li 0x447feddb9b224400f48107a110120 rfl hl hi) λc2 nI=>?_;have n12:c1≠c2:=λz=>by rw[z,af] at nI;show fB nI
 show wd (af _ _ _) (by rw[cq,J];show li 0x1010110111ffb76e8481766bd4042e806075ea061740107a110130 rfl hl (sH ((↑(idxOf k y.ch):Int).toNat) y.ch.length)) λc3 Bs=>?_;have n13:c1≠c3:=λz=>by rw[z,aj (λw=>by rw[w,af] at Bs;show fB Bs),af] at Bs;show fB Bs
 have xx:((y.ch.map Val.int).drop ((idxOf k y.ch:Int)+1).toNat).length<=1000:=by rw[Bl,J];show li 0x404440403feddba1105d9a80e006175ea401740303a110130 rfl hl (ef y.ch.length (((↑(idxOf k y.ch):Int)+1).toNat))
 have qh:((y.ch.map Val.int).take ((idxOf k y.ch:Int)).toNat).reverse.length<=1000:=by rw[dK,cq,J];show li 0x1010110111ffb76e8441766bd4042e806075ea061740107a110130 rfl hl (sH ((↑(idxOf k y.ch):Int).toNat) y.ch.length)
 show N6 (by rw[aj n13,aj n12,af]) (af _ _ _) (by unfold lim;show li 0x447feddba1260060742207a110120 rfl xx qh) λc4 FI=>?_;show q _ c4 (((Ext.new Cc).trans (Ext.new nI)).trans ((Ext.new Bs).trans (Ext.new FI))) ((((Ext.new Cc).trans (Ext.new nI)).trans (Ext.new Bs)).none FI) ?_;rw[af,show ((idxOf k y.ch:Int)+1).toNat=idxOf k y.ch+1 by show li 0x1000110101100ffb756042041ecd7a9003ca8302103af3e042041e5c0840a020 rfl (pL ((↑(idxOf k y.ch):Int)+1)),dz];unfold kQ;simp
noncomputable def room(s:S)(a:Int)(c:Int):Int:=s.g a c-dq s (lst a) a c
theorem vW{a:Int}{x y:W}(bO:hd=false)(ha:a=0\/a=1)(R:Rp H Y s)(w:WF0 s d)(G:Gm s)(hx:s.m k=some x)(hy:s.m x.par=some y)(hc:k∈y.ch)(q:∀ H',Ext H H'->Q (.int (aI ((kQ k y.ch).map (room s a)))) H'):br Fn (n+4) hd 27 [.ref Y.tp,.int k,.int a] H Q E:=by
 clear n hd H Y s d k Q E a x y _ bO ha R w G hx hy hc q;have hl:=w.cl.chlen hy;have Bx:=vV hc;show w_call rfl rfl ?_;unfold q9;left;show sP R w hx hy hc λH1 r X1 Bw hr=>?_;left;show dO (kQ k y.ch) _ (λc=>.int (room s a c)) (cK hr) (li 0x4047feddba1203d40702107a110120 rfl hl Bx) (nB hr) (λc iO H2 X2 Q' hQ=>?_) λH2 r2 X2 tv=>?_
 .change wE _ _ _ (upd _ 3 (.int c)) _ _ _;have R2:=R.ext (X1.trans X2);show bj (w.kid _ y c hy (nh (w.nd _ y hy) hc iO).1) λz hz _=>?_;left;show eK R2 hz ha ?_;left;show gB bO R2 w.cl ⟨z,hz⟩ λH3 X3=>?_;left;show hQ _ X3
 rw[er];show cy (qd bO (af _ _ _) (by rw[J];show li 0x4047feddba1203d40702107a110120 rfl hl Bx) (λv m=>?_) ?_)
 ·(show bj (ay.mp m) λc iO aG=>?_;clear m;subst aG);show bj (w.kid _ y c hy (nh (w.nd _ y hy) hc iO).1) λz hz _=>?_;have h1:=G.le w ha ⟨z,hz⟩;have h2:=hH w.cl (a:=a) (z:=lst a) (by unfold lst;split<;>decide) (by unfold lst;split<;>decide) ⟨z,hz⟩;unfold room small big;show li 0x4044044007feddbaf2a7c408065c4080634e835e5660b28241af2aa019402002 rfl h1 h2
 .show q _ ((X1.trans X2).upd ((X1.trans X2).none tv))
end
section
variable {n:Nat} {hd:Bool} {H H':MH} {Y:Ly} {s:S} {d:Int->Nat} {k:Int} {x:W} {Q:PQ} {E:MH->Prop}
theorem WF0.apart(w:WF0 s d){P c c':Int}{y:W}(hy:s.m P=some y)(hc:c∈y.ch)(iO:c'∈y.ch)(cV:c'≠c):c'∉pre (aA s) c:=λh=>
 w.fo.apart (k:=P) (by rw[aF hy];show hc) (by rw[aF hy];show iO) (fW cV) h (bS w.rk c')
theorem Gm.p(G:Gm s)(p:Int->Int->Int):Gm { s with p:=p }:=⟨λa k ha hk=>by
 have h:=G.ax a k ha hk
 show ⟨h.lf,h.al,h.ac⟩,G.bd⟩
theorem WF0.sort_of(w:WF0 s d){y:W}(hy:s.m k=some y){c:Int}(hc:c∈y.ch):y.sort≠0:=λe=>by
 rw[(w.lf k y hy).mp e] at hc;show iF hc
theorem B7{a δ:Int}(bO:hd=false)(ha:a=0\/a=1)(R:Rp H Y s)(w:WF0 s d)(G:Gm s)(h2:∀ k x,s.m k=some x->x.sort≠0->2<=x.ch.length)(UU:-1000<=δ/\δ<=1000)(hk:∃ x,s.m k=some x)
  (q:∀ H' g' p',Rp H' Y { s with g:=g',p:=p' }->Mv (Own Y s) (Own Y s) H H'->Gm { s with g:=g',p:=p' }->Plp { s with g:=g' } p'->(∀ b,g' b s.root=s.g b s.root)->Q .none H') (e:∀ H',Ext H H'->E H') :
  br Fn (n+6) hd 28 [.ref Y.tp,.int k,.int a,.int δ] H Q E:=by
 clear n hd H Y s d k Q E a δ _ bO ha R w G h2 UU hk q e;have C:=w.cl;show w_call rfl rfl ?_;unfold v7;left;show ya R w hk λo ho=>?_;left;show bP (λh=>?_) λh=>?_
 .left;show gZ bO (e _ Ext.refl)
 have ho0:o≠0:=of_decide_eq_false h;show jn (ho.resolve_left ho0) λx y hx hy MN Bv=>?_;have vp:=w.sort_of hy Bv;have Bx:=vV Bv;have Gv:=h2 _ y hy vp;left;show vW bO ha R w G hx hy Bv λH1 X1=>?_;left;show bP (λh=>?_) λh=>?_
 .left;show gZ bO (e _ X1)
 have NR:δ<=aI ((kQ o y.ch).map (room s a)):=by show li 0x47fedca0016ecc0802002 rfl (dF h)
 have R1:=R.ext X1;left;show eK R1 hx ha ?_;show aO rfl (jx ?_);left;show gB bO R1 C ⟨x,hx⟩ λH2 X2=>?_;left;show bP (λh=>?_) λh=>?_
 .left;show gZ bO (e _ (X1.trans X2))
 have Ay:dq s (lst a) a o<=s.g a o+δ:=by show li 0x47fedcb8010009bb304c00802003 rfl (dF h)
 have R2:=R1.ext X2;left;show sP R2 w hx hy Bv λH3 r X3 Bw hr=>?_;have N3:=(X1.trans X2).trans X3;have R3:=R2.ext X3;have Ku:¬ Own Y s r:=R2.fresh Bw;have r9:=λc (hc:c∈kQ o y.ch)=>nh (w.nd _ y hy) Bv hc;have hsn:=y5 (w.nd _ y hy) Bv;generalize hL:kQ o y.ch=L at *
 have Gj:∀ c∈y.ch,∃ z,s.m c=some z/\z.par=x.par:=λc hc=>by
  show bp (w.kid _ y c hy hc) λz hz hp _=>?_;show ⟨z,hz,hp⟩
 left;rw[cK hr]
 show cJ (λi ρ H4=>ρ 0=some (.ref Y.tp)/\ρ 2=some (.int a)/\ρ 3=some (.int δ)/\ρ 4=some (.int o)/\ρ 5=some (.ref (Y.wa o))/\∃ left g1,ρ 6=some (.int left)/\Rp H4 Y { s with g:=g1 }/\Mv (Own Y s) (Own Y s) H H4/\H4 r=some (.list (L.map .int))/\Mid s a x.par s.g g1 (L.take i)/\
  aI ((L.take i).map (g1 a))+(δ-left)=aI ((L.take i).map (s.g a))/\(left<=0->left=0\/(i=0/\left=δ))/\(0<left->left<=aI ((L.drop i).map (room s a))/\left<=δ)) _ ?_ ?_
  ⟨rfl,rfl,rfl,rfl,rfl,δ,s.g,rfl,R3,Mv.ext N3,hr,G.mid ha _,by simp[aI],λ_=>.inr ⟨rfl,rfl⟩,λ_=>⟨NR,aY _⟩⟩
 .rintro i it ρ H4 hit ⟨e0,e2,e3,e4,e5,left,g1,e6,R4,M4,jP,lM,dY,rx,xx⟩;show ⟨λb m=>by rw[aa.mp m,jP,hr],λK hK th=>?_⟩;rw[au] at hit;cases hz:L[i]? with
  |none=>rw[hz] at hit;show cz hit
  |some c=>
   rw[hz] at hit;cases hit;show oE (ao.mp hz) λhi hg=>?_;have Mx:=aw hz;show oA (r9 c Mx) λJP wD=>?_;show bj (Gj c JP) λz cC yK=>?_;have qp:L.take (i+1)=L.take i++[c]:=by rw[az hi,hg]
   have Ci:L.drop i=c::L.drop (i+1):=by rw[aW hi,hg]
   have wF:c∉L.take i:=λm=>by
    have h1:(L.take i++L.drop i).Nodup:=by rw[bN];show hsn
    show (aL.mp h1).2.2 c m c (by rw[Ci];show .head _) rfl
   have qj:∀ j∈pre (aA s) c,g1 a j=s.g a j:=λj hj=>lM.out j λc' iO h=>by
    have FH:=r9 c' (cj iO);show w.fo.apart (k:=x.par) (by rw[aF hy];show JP) (by rw[aF hy];show FH.1) (λz=>wF (by rw[z];show iO)) hj h
   have QF:g1 a c=s.g a c:=qj c (bS C.rk c);have Tx:=G.le w ha ⟨z,cC⟩;have jG:0<=room s a c:=by have:=G.ls w ha ⟨z,cC⟩;unfold room;show li 0x47fedcb88002419410002 rfl this
   have yJ:({ s with g:=g1 }:S).m c=some z:=cC;have w1:WF0 { s with g:=g1 } d:=w.geo g1 s.p;have step:∀ (part:Int) (cc:Sto) (H5:MH),Ext H4 H5->cc 0=some (.ref Y.tp)->cc 2=some (.int a)->cc 3=some (.int δ)->cc 4=some (.int o)->cc 5=some (.ref (Y.wa o))->cc 6=some (.int left)->cc 7=some (.int c)->cc 8=some (.int (s.g a c))->cc 9=some (.int part)->part<=room s a c->-1000<=part->(left-part<=0->left-part=0)->(0<left-part->left-part<=aI ((L.drop (i+1)).map (room s a))/\left-part<=δ)->
     wSs (br Fn (n+5)) hd (.cons (.expr (.call 23 (.cons (.var 0) (.cons (.var 7) (.cons (.var 2) (.cons (.bin .sub (.var 8) (.var 9)) .nil)))))) (.cons (.asg (.one (.name 6)) (.bin .sub (.var 6) (.var 9))) .nil)) cc H5 K (λ_=>no):=by
    intro part cc H5 X5 b0 b2 b3 b4 b5 b6 b7 b8 b9 MI Ou hp3 hp4;have R5:Rp H5 Y { s with g:=g1 }:=R4.ext X5;left;show mm (s:={ s with g:=g1 }) bO R5 w1 ha ⟨z,cC⟩ ?_ (li 0x1110ffb76e55788100ca0b1a241af2aa019402002 rfl Tx Ou) (λj hj=>?_) λH6 g2 R6 M6 z6=>?_
    .change dq s (lst a) a c<=_;unfold room at MI;show li 0x11ffb72e20008265c41010003 rfl MI
    .have jj:j∈pre (aA s) c:=hj;have N':=w.pre_at c ⟨z,cC⟩ jj;have Au:j≠x.par:=λe=>cA C.rk (by rw[aF hy];show JP) (e▸jj);have h:=lM.ax j N' Au;show ⟨⟨h.lf,h.al,h.ac⟩,?_⟩;change g1 a j<=_;rw[qj j jj];show (G.sub w ha ⟨z,cC⟩ j jj).2
    have Mg:ER s a c (s.g a c-part) g1 g2:=⟨z6.1,z6.2.1,λj hj=>by have h:=z6.2.2 j hj;show ⟨h.lf,h.al,h.ac⟩⟩
    left;show hK _ _ ⟨b0,b2,b3,b4,b5,left-part,g2,rfl,R6,M4.trans ((Mv.ext X5).trans M6),M6.keep _ _ (X5 _ _ jP) Ku,by rw[qp];show lM.step w ⟨z,cC,yK⟩ Mg,?_,λh=>.inl (hp3 h),hp4⟩;rw[qp,aD,aD,bz,bz];have:(L.take i).map (g2 a)=(L.take i).map (g1 a):=aX λc' iO=>Mg.1 a c' (.inr (w.apart hy JP (r9 c' (cj iO)).1 λz=>wF (z▸iO)));rw[this];have h1:aI ([c].map (g2 a))=s.g a c-part:=by
     change g2 a c+0=_;rw[Mg.2.1];show fQ _
    have h3:aI ([c].map (s.g a))=s.g a c:=by change s.g a c+0=_;show li 0x47fe7018100001 rfl
    rw[h1,h3];show li 0x101110ffb73e0101b062c428202c188508019c360c41010006 rfl dY
   change wSs _ _ _ (upd ρ 7 (.int c)) _ _ _;left;show eK R4 yJ ha ?_;change wSs _ _ _ (upd (upd ρ 7 (.int c)) 8 (.int (g1 a c))) _ _ _;rw[QF];left;show bP (λh=>?_) λh=>?_
   .have ry:0<left:=of_decide_eq_true h;show oA (xx ry) λqh hl3=>?_;rw[Ci,aq,bc] at qh;left;show gB bO R4 w1.cl ⟨z,cC⟩ λH5 X5=>?_;show mJ<|cy<|Nm bO ?_;have xA:s.g a c-dq s (lst a) a c=room s a c:=rfl;show step (min left (s.g a c-dq s (lst a) a c)) (upd (upd (upd ρ 7 (.int c)) 8 (.int (s.g a c))) 9 (.int (min left (s.g a c-dq s (lst a) a c)))) _ X5 e0 e2 e3 e4 e5 e6 rfl rfl rfl ?_ ?_ ?_ ?_
    .change min left (s.g a c-dq s (lst a) a c)<=_;show li 0x101001101101ffb76e5082366bcf88100119436204035e70c232e20400367098810005 rfl xA (MQ left (s.g a c-dq s (lst a) a c))
    .change _<=min left (s.g a c-dq s (lst a) a c);show li 0x4400400444000043feddbb76e5118d120d9af3e20c104650588304d79c108cb88304059c0620c13302419402005 rfl jG (dT h) xA (MQ left (s.g a c-dq s (lst a) a c))
    .change left-min left (s.g a c-dq s (lst a) a c)<=0->left-min left (s.g a c-dq s (lst a) a c)=0;show li 0x44000400444040040043feddb9d0620c032a0c41806cd79f104041b280c41016bce00365c41010004 rfl (MQ left (s.g a c-dq s (lst a) a c))
    .change 0<left-min left (s.g a c-dq s (lst a) a c)->left-min left (s.g a c-dq s (lst a) a c)<=_/\left-min left (s.g a c-dq s (lst a) a c)<=δ;show li 0x101001001101010010100001100000000011000000000110010011101001010001100000000110000000ffb76eddbb76ebca1310e01944621c033621c0106cd79f10c143b280c43056bce00765c430500ce1b10c15970080c0328641b75e50803282019802008 rfl xx jG qh xA (MQ left (s.g a c-dq s (lst a) a c))
   .show aO (v:=.int left) e6 ?_;show step left (upd (upd (upd ρ 7 (.int c)) 8 (.int (s.g a c))) 9 (.int left)) _ Ext.refl e0 e2 e3 e4 e5 e6 rfl rfl rfl (li 0x447feddb94002dd98120419402002 rfl jG (dF h)) ?_ (li 0x1010ffb73a0c400065418800001 rfl) (li 0x407fedd7942620003282c400066c40002003 rfl);rcases rx (li 0x47fedca8006ecc0102001 rfl (dF h)) with h|h
    .show li 0x443fedca031a2419d00001 rfl h
    .show li 0x1100001ffb76e5058d120d79c002d4800ebca88065018d12012 rfl UU h
 .rintro ρ H4 ⟨e0,e2,e3,e4,e5,left,g1,e6,R4,M4,jP,lM,dY,rx,xx⟩;show ⟨λb m=>by rw[aa.mp m,jP,hr],?_⟩;rw[J,bC] at lM dY;rw[J,List.drop_length] at xx;rw[J] at rx;have Ob:left=0:=by
   by_cases h:0<left
   .have:=(xx h).1;simp[aI] at this;show li 0x44000000000000440440040004040000044000044003feddbb76e740032a001b766bce0806a400f3a00195000d40702107a00a322 rfl Gv Bx rx this
   .rcases rx (li 0x47fedca8006ecc0102001 rfl h) with h|⟨h,_⟩
    .show h
    .show li 0x4404004407feddbb73a001a9003d40702107a00a321 rfl Gv Bx h
  clear e6 rx xx;subst Ob;have Im:∀ j∈pre (aA s) o,g1 a j=s.g a j:=λj hj=>lM.out j λc' iO h=>by
   have FH:=r9 c' iO;show w.fo.apart (k:=x.par) (by rw[aF hy];show Bv) (by rw[aF hy];show FH.1) (λz=>FH.2 z.symm) hj h
  have l6:({ s with g:=g1 }:S).m o=some x:=hx;have w1:WF0 { s with g:=g1 } d:=w.geo g1 s.p;have Tx:=G.le w ha ⟨x,hx⟩;left;show eK R4 l6 ha ?_;left;show mm (s:={ s with g:=g1 }) bO R4 w1 ha ⟨x,hx⟩ ?_ ?_ (λj hj=>?_) λH6 g2 R6 M6 z6=>?_
  .change dq s (lst a) a o<=g1 a o+δ;rw[Im o (bS C.rk o)];show Ay
  .change g1 a o+δ<=_;rw[Im o (bS C.rk o)];show li 0x11010ffb76e55780002d795502ca0906bca88065018d12002 rfl UU Tx
  .have jj:j∈pre (aA s) o:=hj;have N':=w.pre_at o ⟨x,hx⟩ jj;have Au:j≠x.par:=λe=>cA C.rk (by rw[aF hy];show Bv) (e▸jj);have h:=lM.ax j N' Au;show ⟨⟨h.lf,h.al,h.ac⟩,?_⟩;change g1 a j<=_;rw[Im j jj];show (G.sub w ha ⟨x,hx⟩ j jj).2
  have Mg:ER s a o (s.g a o+δ) g1 g2:=⟨z6.1,by rw[z6.2.1];change g1 a o+δ=_;rw[Im o (bS C.rk o)],λj hj=>by have h:=z6.2.2 j hj;show ⟨h.lf,h.al,h.ac⟩⟩
  have Kk:=lM.step w ⟨x,hx,rfl⟩ Mg
  show oA (Kk.gm w ha (λb k hb _ hk=>G.ax b k hb hk) G.bd hy vp MN (λc hc=>by
   rcases ak.mp hc with hc|hc
   .show (r9 c hc).1
   .rw[aa.mp hc];show Bv) (by
   have NB:=(G.ax a x.par ha ⟨y,hy⟩).al y hy vp MN
   rw[nj Bv (g2 a),hL,Mg.2.1]
   rw[nj Bv (s.g a),hL] at NB
   have:L.map (g2 a)=L.map (g1 a):=aX λc' iO=>Mg.1 a c' (.inr (w.apart hy Bv (r9 c' iO).1 (r9 c' iO).2))
   rw[this];show li 0x4040444043feddb9c4600180106ce230040d9c260c48010005 rfl dY NB)) λG2 iP=>?_
  have w2:WF0 { s with g:=g2 } d:=w.geo g2 s.p;left;show iY (s:={ s with g:=g2 }) bO R6 w2 λH7 p7 R7 M7 z7=>?_;left;show q H7 g2 p7 R7 (M4.trans (M6.trans M7)) (G2.p p7) z7 iP
theorem y9(bO:hd=false)(R:Rp H Y s)(w:WF0 s d)(G:Gm s)(hk:∃ x,s.m k=some x)
  (q:∀ H' g' p',Rp H' Y { s with g:=g',p:=p' }->Mv (Own Y s) (Own Y s) H H'->Gm { s with g:=g',p:=p' }->Plp { s with g:=g' } p'->(∀ b,g' b s.root=s.g b s.root)->Q .none H') :
  br Fn (n+6) hd 29 [.ref Y.tp,.int k] H Q E:=by
 clear n hd H Y s d k Q E _ bO R w G hk q;have C:=w.cl;show oE (id hk) λxk OU=>?_;show w_call rfl rfl ?_;unfold sg;left;show iZ R OU ?_;left;show sS R C hk λr H1 X1 Bw hr=>?_;have Ku:¬ Own Y s r:=R.fresh Bw;have R1:=R.ext X1;left;rw[cK hr];show cJ (λi ρ H4=>ρ 0=some (.ref Y.tp)/\∃ g1,Rp H4 Y { s with g:=g1 }/\Mv (Own Y s) (Own Y s) H H4/\H4 r=some (.list ((pre (aA s) k).map .int))/\Gm { s with g:=g1 }/\∀ b,g1 b s.root=s.g b s.root) _ ?_ ?_
  ⟨rfl,s.g,R1,Mv.ext X1,hr,G,λ_=>rfl⟩
 .rintro i it ρ H4 hit ⟨e0,g1,R4,M4,jP,G1,iP⟩;show ⟨λb m=>by rw[aa.mp m,jP,hr],λK hK th=>?_⟩;rw[au] at hit;cases hz:(pre (aA s) k)[i]? with
  |none=>rw[hz] at hit;show cz hit
  |some j=>
   rw[hz] at hit;cases hit;show oE (w.pre_at k hk (aw hz)) λx hx=>?_;generalize cH:({ s with g:=g1 }:S)=s1 at *
   have l6:s1.m j=some x:=by rw[<-cH];show hx
   have w1:WF0 s1 d:=by rw[<-cH];show w.geo g1 s.p
   have hO:∀ u,Own Y s1 u↔Own Y s u:=λu=>by rw[<-cH];show Bh
   have C1:=w1.cl;have gJ:=C1.chlen l6;have Ap:=R4.cn j x l6;change wSs _ _ _ (upd ρ 2 (.int j)) _ _ _;left;show bP (λh=>?_) λh=>?_
   .have hs:x.sort≠0:=by simpa using h
    have cV:x.ch≠[]:=λz=>hs ((C1.lf j x l6).mpr z);have ry:0<x.ch.length:=fb.mpr cV;left;show fL ?_;clear hO;generalize Ao:al x.sort=a;revert a Ao;show gk ?_;intro a Ao;have ha:a=0\/a=1:=Ao▸lS x.sort;left;show dO x.ch _ (λc=>.int (dq s1 1 a c)) (cK Ap) (li 0x11ffb742403a110110 rfl gJ) (nB Ap) (λc hc H5 X5 Q' hQ=>?_) λH5 r5 X5 Uq=>?_
    .change wE _ _ _ (upd _ 7 (.int c)) _ _ _;have R5:=R4.ext X5;left;show B9 bO R5 C1 (C1.kid j x c l6 hc) λH6 X6=>hQ _ X6
    rw[er];generalize OQ:(x.ch.map λz=>dq s1 1 a z)=ws;revert ws OQ;show gk ?_;intro ws OQ;have X6:Ext H4 (upd H5 r5 (.list (ws.map .int))):=X5.upd (X5.none Uq);have h6:upd H5 r5 (.list (ws.map .int)) r5=some (.list (ws.map .int)):=af _ _ _;generalize upd H5 r5 (.list (ws.map .int))=H6 at X6 h6;have R6:=R4.ext X6;have tj:=R6.cn j x l6;left;show dO x.ch _ (λc=>.int (dq s1 (lst a) a c)) (cK tj) (li 0x11ffb742403a110110 rfl gJ) (nB tj) (λc hc H7 X7 Q' hQ=>?_) λH7 r7 X7 hr7=>?_
    .change wE _ _ _ (upd _ 7 (.int c)) _ _ _;have R7:=R6.ext X7;left;show gB bO R7 C1 (C1.kid j x c l6 hc) λH8 X8=>hQ _ X8
    rw[er];generalize Ax:(x.ch.map λz=>dq s1 (lst a) a z)=ls;revert ls Ax;show gk ?_;intro ls Ax;have kE:ls.length=x.ch.length:=by rw[<-Ax,J]
    have UM:ws.length=x.ch.length:=by rw[<-OQ,J]
    have X8:Ext H6 (upd H7 r7 (.list (ls.map .int))):=X7.upd (X7.none hr7);have h8:upd H7 r7 (.list (ls.map .int)) r7=some (.list (ls.map .int)):=af _ _ _;generalize upd H7 r7 (.list (ls.map .int))=H8 at X8 h8;have R8:=R6.ext X8;left;show eK R8 l6 ha ?_;have FY:=G1.le w1 ha ⟨x,l6⟩;have Ip:aI ls<=s1.g a j:=by
     have:=G1.ls w1 ha ⟨x,l6⟩;rw[gL C1 l6,if_neg hs,if_pos Ao] at this;rw[<-Ax];show this
    left;show Ei bO (X8 _ _ h6) h8 (li 0x1011011001ffb76ea02175030ba818130 rfl kE UM) (li 0x1101ffb76e9068350107a40a020 rfl ry kE) (li 0x1011ffb76e8440f50107a110120 rfl gJ kE) (λv m=>?_) (λv m=>?_) Ip (li 0x110ffb72b801af2aa019402001 rfl FY) λrf H9 fl X9 Us QP p0 Ar Tq=>?_
    .rw[<-OQ] at m;(show bj (ay.mp m) λc hc aG=>?_;clear m;subst aG);have:=hH C1 (z:=1) (a:=a) (by decide) (by decide) (C1.kid j x c l6 hc);show li 0x110101ffb75e5560328041af2b3019402001 rfl this
    .rw[<-Ax] at m;(show bj (ay.mp m) λc hc aG=>?_;clear m;subst aG);have:=hH C1 (z:=lst a) (a:=a) (by unfold lst;split<;>decide) (by unfold lst;split<;>decide) (C1.kid j x c l6 hc);show li 0x110101ffb75e5560328041af2b3019402001 rfl this
    have Vw:Ext H4 H9:=X6.trans (X8.trans X9);have R9:=R4.ext Vw;have JS:=R9.cn j x l6;have Oz:¬ Own Y s1 rf:=R8.fresh Us;rw[j2 bO JS QP (li 0x1101010101ffb76ea0a0f5010ba818130 rfl kE p0)];have Gj:∀ c∈x.ch,∃ z,s1.m c=some z/\z.par=j:=λc hc=>by
     show bp (w1.kid _ x c l6 hc) λz hz hp _=>?_;show ⟨z,hz,hp⟩
    have rx:∀ c f,(c,f)∈x.ch.zip fl->0<=dq s1 (lst a) a c/\dq s1 (lst a) a c<=f:=λc f m=>by
     have h1:=hH C1 (z:=lst a) (a:=a) (by unfold lst;split<;>decide) (by unfold lst;split<;>decide) (C1.kid j x c l6 (ey m).1);show ⟨h1.1,Tq (dq s1 (lst a) a c,f) ?_⟩;rw[<-Ax,zU];show ay.mpr ⟨(c,f),m,rfl⟩
    have Tn:∀ f∈fl,0<=f:=λf m=>by
     rw[<-j7 (l₁:=x.ch) (l₂:=fl) (li 0x10101ffb76e806175010ba818130 rfl kE p0)] at m;(show bj (ay.mp m) λz hz aG=>?_;clear m;subst aG);have:=rx z.1 z.2 hz;show li 0x111ffb728241af282019402002 rfl this
    show cJ (λi cc H'=>cc 0=some (.ref Y.tp)/\cc 4=some (.int a)/\∃ g2,Rp H' Y { s1 with g:=g2 }/\Mv (Own Y s1) (Own Y s1) H4 H'/\H' rf=some (.list (fl.map .int))/\Mid s1 a j s1.g g2 (x.ch.take i)/\∀ z∈(x.ch.zip fl).take i,g2 a z.1=z.2) _ ?_ ?_
     ⟨e0,rfl,s1.g,R9,Mv.ext Vw,QP,G1.mid ha j,λz m=>(by cases m)⟩
    .rintro i' it cc H' hit ⟨b0,b4,g2,k9,ps,yH,lM,Gs⟩;show ⟨λb m=>?_,λK1 Sr Ss=>?_⟩
     .rcases ag.mp m with rfl|m
      .rw[JS];show k9.cn j x l6
      .rw[aa.mp m,QP,yH]
     rw[au] at hit;cases hz:(x.ch.zip fl)[i']? with
     |none=>rw[hz] at hit;show cz hit
     |some z=>
      rw[hz] at hit;cases hit;show oE (ao.mp hz) λhi hg=>?_;have ID:=aw hz;show oA (ey ID) λhc hf=>?_;have WD:i'<x.ch.length:=by rw[et] at hi;show li 0x1011110101ffb76e90a0766bd41c1e80a1f5ea0a0f4070ba418140 rfl hi (sH x.ch.length fl.length)
      have QF:x.ch[i']=z.1:=by rw[<-hg];simp
      have qp:x.ch.take (i'+1)=x.ch.take i'++[z.1]:=by rw[az WD,QF]
      have Xi:z.1∉x.ch.take i':=λm=>by
       have h1:(x.ch.take i'++x.ch.drop i').Nodup:=by rw[bN];show w1.nd j x l6
       show (aL.mp h1).2.2 z.1 m z.1 (by rw[aW WD,QF];show .head _) rfl
      show bj (Gj z.1 hc) λy hy hyp=>?_;have qj:∀ i∈pre (aA s1) z.1,g2 a i=s1.g a i:=λi hi=>lM.out i λc' iO h=>by
       show w1.fo.apart (k:=j) (by rw[aF l6];show hc) (by rw[aF l6];show cj iO) (λe=>Xi (by rw[e];show iO)) hi h
      have hb:=rx z.1 z.2 ID;have ZS:=iR Tn z.2 hf;change wSs _ _ _ (upd (upd cc 7 (.int z.1)) 8 (.int z.2)) _ _ _;left;show mm (s:={ s1 with g:=g2 }) bO k9 (w1.geo g2 s1.p) ha ⟨y,hy⟩ hb.2 (li 0x110110ffb76edcaac265041338005af2aa019402003 rfl FY Ar ZS) (λi hi=>?_) λuu g3 qW rn z11=>?_
      .have QG:i∈pre (aA s1) z.1:=hi;have wI:=w1.pre_at z.1 ⟨y,hy⟩ QG;have QH:i≠j:=λe=>cA C1.rk (by rw[aF l6];show hc) (e▸QG);have h:=lM.ax i wI QH;show ⟨⟨h.lf,h.al,h.ac⟩,?_⟩;change g2 a i<=_;rw[qj i QG];show (G1.sub w1 ha ⟨y,hy⟩ i QG).2
      have Mf:ER s1 a z.1 z.2 g2 g3:=⟨z11.1,z11.2.1,λi hi=>by have h:=z11.2.2 i hi;show ⟨h.lf,h.al,h.ac⟩⟩
      left;show Sr _ _ ⟨b0,b4,g3,qW,ps.trans rn,rn.keep _ _ yH Oz,by rw[qp];show lM.step w1 ⟨y,hy,hyp⟩ Mf,λv hv=>?_⟩;rw[az hi,hg] at hv;rcases ak.mp hv with hv|hv
      .rw[<-Gs v hv];have tA:v.1∈x.ch.take i':=by
        have:v.1∈((x.ch.zip fl).take i').map (·.1):=ay.mpr ⟨v,hv,rfl⟩;rw[List.map_take,j6 (li 0x11010ffb76e80a0f5010ba818130 rfl kE p0)] at this;show this
       show Mf.1 a v.1 (.inr (w1.apart l6 hc (cj tA) λe=>Xi (e▸tA)))
      .rw[aa.mp hv];show Mf.2.1
    .clear R4 C1 OQ R6 Ax R8 FY Ip R9 Oz Gj rx;rintro cc H' ⟨b0,b4,g2,k9,ps,yH,lM,Gs⟩;show ⟨λb m=>?_,?_⟩
     .rcases ag.mp m with rfl|m
      .rw[JS];show k9.cn j x l6
      .rw[aa.mp m,QP,yH]
     rw[J,et,show min x.ch.length fl.length=x.ch.length by show li 0x10110000110010101010000011000000ffb76edd40c3ecd7a8287d00c2ebd40c3e80a0f5010ba818140 rfl kE p0 (sH x.ch.length fl.length),bC] at lM;rw[J,bC] at Gs
     show oA (lM.gm w1 ha (λb k hb _ hk=>G1.ax b k hb hk) G1.bd l6 hs Ao (λc hc=>hc) (by
      rw[<-Ar]
      have h1:x.ch=(x.ch.zip fl).map (·.1):=(j6 (li 0x11010ffb76e80a0f5010ba818130 rfl kE p0)).symm
      have h2:fl=(x.ch.zip fl).map (·.2):=(j7 (li 0x10101ffb76e806175010ba818130 rfl kE p0)).symm
      conv=>lhs;rw[h1]
      conv=>rhs;rw[h2]
      rw[bo]
      congr 1
      show aX λz m=>Gs z m)) λG2 Kv=>?_
     clear G1 l6 w1 Ar lM;subst cH;left;show hK _ _ ⟨b0,g2,k9,M4.trans ps,ps.keep _ _ jP Ku,G2,λb=>(Kv b).trans (iP b)⟩
   .left;subst cH;show hK _ _ ⟨e0,g1,R4,M4,jP,G1,iP⟩
 .rintro ρ H4 ⟨e0,g1,R4,M4,jP,G1,iP⟩;show ⟨λb m=>by rw[aa.mp m,jP,hr],?_⟩;left;show iY (s:={ s with g:=g1 }) bO R4 (w.geo g1 s.p) λH7 p7 R7 M7 z7=>?_;left;show q H7 g1 p7 R7 (M4.trans M7) (G1.p p7) z7 iP
end
section
variable {n:Nat} {hd:Bool} {H H':MH} {Y:Ly} {s:S} {d:Int->Nat} {k:Int} {x:W} {Q:PQ} {E:MH->Prop}
noncomputable def S.del(s:S)(k:Int):S:={ s with m:=λj=>if j=k then none else s.m j,ks:=s.ks.filter (λj=>decide (j≠k)) }
theorem Fw(Y:Ly)(ks:List Int)(k:Int):o8 (dl Y ks) k=dl Y (ks.filter λj=>decide (j≠k)):=by
 unfold o8 dl;rw[List.filter_map];rfl
theorem dm{j:Int}{y:W}(h:(s.del k).m j=some y):j≠k/\s.m j=some y:=by
 have h:(if j=k then none else s.m j)=some y:=h;by_cases e:j=k
 .rw[if_pos e] at h;show cz h
 .rw[if_neg e] at h;show ⟨e,h⟩
theorem Own.del{a:Nat}(h:Own Y (s.del k) a):Own Y s a:=by
 rcases h with h|h|⟨j,y,hy,h⟩
 .show .inl h
 .show .inr (.inl h)
 .show .inr (.inr ⟨j,y,(dm hy).2,h⟩)
theorem Rp.del(R:Rp H Y s)(k:Int):Rp (upd H Y.dp (.dict (o8 (dl Y s.ks) k))) Y (s.del k):=by
 have nl:∀ a o,H a=some o->(∀ es,o≠.dict es)->a≠Y.dp:=λa o h n z=>by
  rw[z,R.dc] at h;cases h;show n _ rfl
 show ⟨?_,by rw[af,Fw];rfl,R.nd.filter _,λj=>?_,aR (bZ _ _) R.len,λj y h=>?_,λj y h=>?_,λj y h=>?_,λj y h=>?_,λi j y z h1 h2 e=>?_,λi j y z h1 h2 e=>?_,λi j y z h1 h2=>?_⟩
 .rw[aj (nl _ _ R.tr λ_ h=>sY h rfl)];show R.tr
 .change j∈s.ks.filter _↔∃ y,(if j=k then none else s.m j)=some y;rw[bV,R.dom j];by_cases e:j=k
  .rw[if_pos e];simp[e]
  .rw[if_neg e];simp[e]
 .rw[aj (nl _ _ (R.wn j y (dm h).2) λ_ h=>sY h rfl)];show R.wn j y (dm h).2
 .rw[aj (nl _ _ (R.cn j y (dm h).2) λ_ h=>sY h rfl)];show R.cn j y (dm h).2
 .rw[aj (nl _ _ (R.en j y (dm h).2) λ_ h=>sY h rfl)];show R.en j y (dm h).2
 .rw[aj (nl _ _ (R.ln j y (dm h).2) λ_ h=>sY h rfl)];show R.ln j y (dm h).2
 .show R.iw i j _ _ (dm h1).2 (dm h2).2 e
 .show R.ic i j _ _ (dm h1).2 (dm h2).2 e
 .show R.ne i j _ _ (dm h1).2 (dm h2).2
theorem Mv.del(R:Rp H Y s)(k:Int){o:d6}:Mv (Own Y s) (Own Y (s.del k)) H (Mine.upd H Y.dp o) :=
 ⟨λa h=>.inl h.del,λa ob e n=>by rw[aj (λz:a=Y.dp=>n (.inr (.inl z)))];show e,λ_ h=>d8 h⟩
noncomputable def Ly.atC(Y:Ly)(k:Int)(c:Nat):Ly:={ Y with ca:=λj=>if j=k then c else Y.ca j }
noncomputable def Ly.atE(Y:Ly)(k:Int)(c:Nat):Ly:={ Y with ea:=λj=>if j=k then c else Y.ea j }
theorem Ly.atC_same(Y:Ly)(k:Int)(c:Nat):(Y.atC k c).ca k=c:=if_pos rfl
theorem Ly.atC_ne(Y:Ly){j k:Int}(c:Nat)(h:j≠k):(Y.atC k c).ca j=Y.ca j:=if_neg h
theorem Rp.setCa{l:List Int}{c:Nat}(R:Rp H Y s)(hx:s.m k=some x)(hc:H c=some (.list (l.map .int)))(hO:¬ Own Y s c) :
  Rp (upd H (Y.wa k) (.inst 0 (wl (Y.atC k c) s k { x with ch:=l }))) (Y.atC k c) (s.setW k { x with ch:=l }):=by
 clear H Y s k x l c _ R hx hc hO;have back:∀ j y,(s.setW k { x with ch:=l }).m j=some y->∃ z,s.m j=some z:=λj y h=>(fK hx j).mp ⟨y,h⟩;have nl:∀ a vs,H a=some (.list vs)->a≠Y.wa k:=λa vs h=>(d9 (R.wn k x hx) h).symm;have Ic:∀ j z,s.m j=some z->Y.ca j≠c/\Y.ea j≠c/\Y.la j≠c:=λj z hz=>⟨λe=>hO (.inr (.inr ⟨j,z,hz,.inr (.inl e.symm)⟩)),λe=>hO (.inr (.inr ⟨j,z,hz,.inr (.inr (.inl e.symm))⟩)),λe=>hO (.inr (.inr ⟨j,z,hz,.inr (.inr (.inr e.symm))⟩))⟩
 show ⟨?_,?_,R.nd,λj=>(R.dom j).trans (fK hx j).symm,R.len,λj y h=>?_,λj y h=>?_,λj y h=>?_,λj y h=>?_,λi j y z h1 h2 e=>?_,λi j y z h1 h2 e=>?_,λi j y z h1 h2=>?_⟩
 .rw[show (Y.atC k c).tp=Y.tp from rfl,aj (R.wa_tp hx)];show R.tr
 .rw[show (Y.atC k c).dp=Y.dp from rfl,aj (R.wa_dp hx)];show R.dc
 .by_cases e:j=k
  .subst e;rw[S.setW_self] at h;cases h;show af _ _ _
  .rw[S.setW_ne _ _ e] at h;rw[show (Y.atC k c).wa j=Y.wa j from rfl,aj λz=>e (R.iw _ _ _ _ h hx z),R.wn j y h];simp only[wl,Ly.atC_ne _ _ e];rfl
 .by_cases e:j=k
  .subst e;rw[S.setW_self] at h;cases h;rw[Ly.atC_same,aj (nl _ _ hc)];show hc
  .rw[S.setW_ne _ _ e] at h;rw[Ly.atC_ne _ _ e,aj (nl _ _ (R.cn j y h))];show R.cn j y h
 .show oE (back j y h) λz hz=>?_;rw[show (Y.atC k c).ea j=Y.ea j from rfl,aj (nl _ _ (R.en j z hz))];show R.en j z hz
 .show oE (back j y h) λz hz=>?_;rw[show (Y.atC k c).la j=Y.la j from rfl,aj (nl _ _ (R.ln j z hz))];show R.ln j z hz
 .show oE (back i y h1) λy' h1=>?_;show oE (back j z h2) λz' h2=>?_;show R.iw i j _ _ h1 h2 e
 .show oE (back i y h1) λy' h1=>?_;show oE (back j z h2) λz' h2=>?_;by_cases e1:i=k
  .by_cases e2:j=k
   .rw[e1,e2]
   .rw[e1,Ly.atC_same,Ly.atC_ne _ _ e2] at e;show absurd e.symm (Ic j z' h2).1
  .by_cases e2:j=k
   .rw[e2,Ly.atC_same,Ly.atC_ne _ _ e1] at e;show absurd e (Ic i y' h1).1
   .rw[Ly.atC_ne _ _ e1,Ly.atC_ne _ _ e2] at e;show R.ic i j _ _ h1 h2 e
 .show oE (back i y h1) λy' h1=>?_;show oE (back j z h2) λz' h2=>?_;by_cases e1:i=k
  .rw[e1,Ly.atC_same];show ⟨(Ic j z' h2).2.1.symm,(Ic j z' h2).2.2.symm⟩
  .rw[Ly.atC_ne _ _ e1];show R.ne i j _ _ h1 h2
theorem Mv.setCa{l:List Int}{c:Nat}{O:Nat->Prop}{H0:MH}(m:Mv O (Own Y s) H0 H)(hx:s.m k=some x)(h0:H0 c=none){o:d6}:Mv O (Own (Y.atC k c) (s.setW k { x with ch:=l })) H0 (Mine.upd H (Y.wa k) o):=by
 clear H Y s k x l c O H0 o _ m hx h0;have ho:Own Y s (Y.wa k):=.inr (.inr ⟨k,x,hx,.inl rfl⟩);show ⟨λa h=>?_,λa ob e na=>?_,λa h=>m.live a (d8 h)⟩
 .rcases h with h|h|⟨j,y,hy,h⟩
  .show m.own a (.inl h)
  .show m.own a (.inr (.inl h))
  .show oE ((fK hx j).mp ⟨y,hy⟩) λz hz=>?_;rcases h with h|h|h|h
   .show m.own a (.inr (.inr ⟨j,z,hz,.inl h⟩))
   .by_cases e:j=k
    .rw[e,Ly.atC_same] at h;rw[h];show .inr h0
    .rw[Ly.atC_ne _ _ e] at h;show m.own a (.inr (.inr ⟨j,z,hz,.inr (.inl h)⟩))
   .show m.own a (.inr (.inr ⟨j,z,hz,.inr (.inr (.inl h))⟩))
   .show m.own a (.inr (.inr ⟨j,z,hz,.inr (.inr (.inr h))⟩))
 .have h1:=m.keep a ob e na;rw[aj (λz:a=Y.wa k=>m.out e na (z▸ho))];show h1
theorem Rp.setEa{c:Nat}(R:Rp H Y s)(hx:s.m k=some x)(hc:H c=some (.list []))(hO:¬ Own Y s c) :
  Rp (upd H (Y.wa k) (.inst 0 (wl (Y.atE k c) s k x))) (Y.atE k c) s:=by
 have nl:∀ a vs,H a=some (.list vs)->a≠Y.wa k:=λa vs h=>(d9 (R.wn k x hx) h).symm;have hE:∀ j,j≠k->(Y.atE k c).ea j=Y.ea j:=λj h=>if_neg h;show ⟨?_,?_,R.nd,R.dom,R.len,λj y h=>?_,λj y h=>?_,λj y h=>?_,λj y h=>?_,R.iw,R.ic,λi j y z h1 h2=>?_⟩
 .rw[show (Y.atE k c).tp=Y.tp from rfl,aj (R.wa_tp hx)];show R.tr
 .rw[show (Y.atE k c).dp=Y.dp from rfl,aj (R.wa_dp hx)];show R.dc
 .by_cases e:j=k
  .subst e;rw[hx] at h;cases h;show af _ _ _
  .rw[show (Y.atE k c).wa j=Y.wa j from rfl,aj λz=>e (R.iw _ _ _ _ h hx z),R.wn j y h];simp only[wl,hE _ e];rfl
 .rw[show (Y.atE k c).ca j=Y.ca j from rfl,aj (nl _ _ (R.cn j y h))];show R.cn j y h
 .by_cases e:j=k
  .subst e;rw[show (Y.atE j c).ea j=c from if_pos rfl,aj (nl _ _ hc)];show hc
  .rw[hE _ e,aj (nl _ _ (R.en j y h))];show R.en j y h
 .rw[show (Y.atE k c).la j=Y.la j from rfl,aj (nl _ _ (R.ln j y h))];show R.ln j y h
 .show ⟨?_,(R.ne i j y z h1 h2).2⟩;by_cases e:j=k
  .subst e;rw[show (Y.atE j c).ea j=c from if_pos rfl];show λw=>hO (.inr (.inr ⟨i,y,h1,.inr (.inl w.symm)⟩))
  .rw[hE _ e];show (R.ne i j y z h1 h2).1
theorem Mv.setEa{c:Nat}{O:Nat->Prop}{H0:MH}(m:Mv O (Own Y s) H0 H)(hx:s.m k=some x)(h0:H0 c=none){o:d6}:Mv O (Own (Y.atE k c) s) H0 (Mine.upd H (Y.wa k) o):=by
 clear H Y s k x c O H0 o _ m hx h0;have ho:Own Y s (Y.wa k):=.inr (.inr ⟨k,x,hx,.inl rfl⟩);show ⟨λa h=>?_,λa ob e na=>?_,λa h=>m.live a (d8 h)⟩
 .rcases h with h|h|⟨j,z,hz,h⟩
  .show m.own a (.inl h)
  .show m.own a (.inr (.inl h))
  .rcases h with h|h|h|h
   .show m.own a (.inr (.inr ⟨j,z,hz,.inl h⟩))
   .show m.own a (.inr (.inr ⟨j,z,hz,.inr (.inl h)⟩))
   .by_cases e:j=k
    .rw[e,show (Y.atE k c).ea k=c from if_pos rfl] at h;rw[h];show .inr h0
    .rw[show (Y.atE k c).ea j=Y.ea j from if_neg e] at h;show m.own a (.inr (.inr ⟨j,z,hz,.inr (.inr (.inl h))⟩))
   .show m.own a (.inr (.inr ⟨j,z,hz,.inr (.inr (.inr h))⟩))
 .have h1:=m.keep a ob e na;rw[aj (λz:a=Y.wa k=>m.out e na (z▸ho))];show h1
noncomputable def S.add(s:S)(N:Int)(x:W):S:={ s with m:=λj=>if j=N then some x else s.m j,g:=bI (bI s.g 0 N 0) 1 N 0,p:=bI (bI s.p 0 N 0) 1 N 0,ks:=s.ks++[N] }
noncomputable def Ly.add(Y:Ly)(N:Int)(a c e l:Nat):Ly:={ Y with wa:=λj=>if j=N then a else Y.wa j,ca:=λj=>if j=N then c else Y.ca j,ea:=λj=>if j=N then e else Y.ea j,la:=λj=>if j=N then l else Y.la j }
theorem BZ{Y:Ly}{ks:List Int}{N:Int}{v:Val}(h:N∉ks):dput (dl Y ks) N v=dl Y ks++[(N,v)]:=by
 induction ks with
 |nil=>rfl
 |cons j r ih=>
  change (if j=N then (j,v)::dl Y r else (j,Val.ref (Y.wa j))::dput (dl Y r) N v)=_;rw[if_neg λz=>h (by rw[z];show .head _),ih λm=>h (.tail _ m)];rfl
theorem Rp.add{N:Int}{a c e l:Nat}{so pa:Int}(R:Rp H Y s)(hN:N∉s.ks)(hl:s.ks.length<1000)(keep:∀ b o,H b=some o->b≠Y.dp->H' b=some o)
  (JU:H' Y.dp=some (.dict (dl Y s.ks++[(N,.ref a)]))) (ha:H' a=some (.inst 0 [.int N,.int so,.int pa,.ref c,.int 0,.int 0,.int 0,.int 0,.int 0,.int 1,.int 1,.int 0,.bool false,.int 0,.ref e,.ref l]))
  (hc:H' c=some (.list [])) (he:H' e=some (.list [])) (xx:H' l=some (.list [])) (na:H a=none) (nc:H c=none) (ne:H e=none) (nl:H l=none) (d1:c≠e) (d2:c≠l) :
  Rp H' (Y.add N a c e l) (s.add N ⟨so,pa,[],0,1,1,0,0⟩):=by
 clear H H' Y s N a c e l so pa _ R hN hl keep JU ha hc he xx na nc ne nl d1 d2;have nN:∀ j y,s.m j=some y->j≠N:=λj y h z=>hN (z▸R.mem h);have old:∀ j y,(s.add N ⟨so,pa,[],0,1,1,0,0⟩).m j=some y->j≠N->s.m j=some y:=λj y h n=>by
  have h:(if j=N then some _ else s.m j)=some y:=h;rwa [if_neg n] at h
 have new:∀ y,(s.add N ⟨so,pa,[],0,1,1,0,0⟩).m N=some y->y=⟨so,pa,[],0,1,1,0,0⟩:=λy h=>by
  have h:(if N=N then some _ else s.m N)=some y:=h;rw[if_pos rfl] at h;cases h;rfl
 have w1:(Y.add N a c e l).wa N=a:=if_pos rfl;have w2:(Y.add N a c e l).ca N=c:=if_pos rfl;have w3:(Y.add N a c e l).ea N=e:=if_pos rfl;have w4:(Y.add N a c e l).la N=l:=if_pos rfl;have v1:∀ j,j≠N->(Y.add N a c e l).wa j=Y.wa j:=λj h=>if_neg h;have v2:∀ j,j≠N->(Y.add N a c e l).ca j=Y.ca j:=λj h=>if_neg h;have v3:∀ j,j≠N->(Y.add N a c e l).ea j=Y.ea j:=λj h=>if_neg h;have v4:∀ j,j≠N->(Y.add N a c e l).la j=Y.la j:=λj h=>if_neg h;have nd:∀ b o,H b=some o->(∀ es,o≠.dict es)->b≠Y.dp:=λb o h n z=>by
  rw[z,R.dc] at h;cases h;show n _ rfl
 have dead:∀ b o b',H b=some o->H b'=none->b≠b':=λb o b' h n z=>by rw[z,n] at h;show cz h
 show ⟨keep _ _ R.tr (nd _ _ R.tr λ_ h=>sY h rfl),?_,?_,λj=>?_,?_,λj y h=>?_,λj y h=>?_,λj y h=>?_,λj y h=>?_,λi j y z h1 h2 q=>?_,λi j y z h1 h2 q=>?_,λi j y z h1 h2=>?_⟩
 .rw[show (Y.add N a c e l).dp=Y.dp from rfl,JU];unfold dl;change _=some (d6.dict ((s.ks++[N]).map λk=>(k,.ref ((Y.add N a c e l).wa k))));rw[aD];congr 3
  .show aX λk m=>by rw[v1 k λz=>hN (z▸m)]
  .change _=[(N,Val.ref ((Y.add N a c e l).wa N))]
   rw[w1]
 .show aL.mpr ⟨R.nd,J9,λu hu v hv z=>?_⟩;rw[aa.mp hv] at z;show hN (z▸hu)
 .change j∈s.ks++[N]↔∃ y,(if j=N then some _ else s.m j)=some y;by_cases q:j=N
  .rw[if_pos q];simp[q]
  .rw[if_neg q,<-R.dom j];simp[q]
 .change (s.ks++[N]).length<=1000;rw[aB];simp;show li 0x11ffb743c03a510110 rfl hl
 .by_cases q:j=N
  .subst q;rw[new y h,w1,ha];simp only[wl,w2,w3,w4];simp[S.add,bI]
  .have h':=old j y h q;rw[v1 j q,keep _ _ (R.wn j y h') (nd _ _ (R.wn j y h') λ_ h=>sY h rfl)];simp only[wl,v2 j q,v3 j q,v4 j q];simp[S.add,bI,q]
 .by_cases q:j=N
  .subst q;rw[new y h,w2,hc];rfl
  .have h':=old j y h q;rw[v2 j q];show keep _ _ (R.cn j y h') (nd _ _ (R.cn j y h') λ_ h=>sY h rfl)
 .by_cases q:j=N
  .subst q;rw[w3,he]
  .have h':=old j y h q;rw[v3 j q];show keep _ _ (R.en j y h') (nd _ _ (R.en j y h') λ_ h=>sY h rfl)
 .by_cases q:j=N
  .subst q;rw[w4,xx]
  .have h':=old j y h q;rw[v4 j q];show keep _ _ (R.ln j y h') (nd _ _ (R.ln j y h') λ_ h=>sY h rfl)
 .by_cases q1:i=N
  .by_cases q2:j=N
   .rw[q1,q2]
   .rw[q1,w1,v1 j q2] at q;show absurd q.symm (dead _ _ _ (R.wn j z (old j z h2 q2)) na)
  .by_cases q2:j=N
   .rw[q2,w1,v1 i q1] at q;show absurd q (dead _ _ _ (R.wn i y (old i y h1 q1)) na)
   .rw[v1 i q1,v1 j q2] at q;show R.iw i j _ _ (old i y h1 q1) (old j z h2 q2) q
 .by_cases q1:i=N
  .by_cases q2:j=N
   .rw[q1,q2]
   .rw[q1,w2,v2 j q2] at q;show absurd q.symm (dead _ _ _ (R.cn j z (old j z h2 q2)) nc)
  .by_cases q2:j=N
   .rw[q2,w2,v2 i q1] at q;show absurd q (dead _ _ _ (R.cn i y (old i y h1 q1)) nc)
   .rw[v2 i q1,v2 j q2] at q;show R.ic i j _ _ (old i y h1 q1) (old j z h2 q2) q
 .by_cases q1:i=N
  .rw[q1,w2];by_cases q2:j=N
   .rw[q2,w3,w4];show ⟨d1,d2⟩
   .rw[v3 j q2,v4 j q2];show ⟨(dead _ _ _ (R.en j z (old j z h2 q2)) nc).symm,(dead _ _ _ (R.ln j z (old j z h2 q2)) nc).symm⟩
  .rw[v2 i q1];by_cases q2:j=N
   .rw[q2,w3,w4];show ⟨dead _ _ _ (R.cn i y (old i y h1 q1)) ne,dead _ _ _ (R.cn i y (old i y h1 q1)) nl⟩
   .rw[v3 j q2,v4 j q2];show R.ne i j _ _ (old i y h1 q1) (old j z h2 q2)
theorem w8{a:Nat}{N so pa:Int}(h0:H a=some (.inst 0 []))
  (q:∀ H' c e l,eO a H H'->H' a=some (.inst 0 [.int N,.int so,.int pa,.ref c,.int 0,.int 0,.int 0,.int 0,.int 0,.int 1,.int 1,.int 0,.bool false,.int 0,.ref e,.ref l])->H' c=some (.list [])->H' e=some (.list [])->H' l=some (.list [])->H c=none->H e=none->H l=none->c≠e->c≠l->Q .none H') :
  br Fn (n+1) hd 0 [.ref a,.int N,.int so,.int pa] H Q E:=by
 clear n hd H Q E a N so pa _ h0 q;have nn:∀ {H1:MH} {c:Nat},eO a H H1->(∃ o,H1 a=some o)->H1 c=none->H c=none/\a≠c:=λ{H1 c} X ⟨o,ho⟩ hc=>by
  have cV:a≠c:=λz=>by rw[z,hc] at ho;show cz ho
  show ⟨?_,cV⟩;cases hh:H c with
  |none=>rfl
  |some o'=>have:=X c o' hh cV.symm;rw[hc] at this;show cz this
 show w_call rfl rfl ?_;unfold oO;left;show bD h0 rfl ?_;left;show bD (af _ _ _) rfl ?_;left;show bD (af _ _ _) rfl ?_;have X1:eO a H (upd (upd (upd H a (.inst 0 ([]++[.int N]))) a (.inst 0 ([]++[.int N]++[.int so]))) a (.inst 0 ([]++[.int N]++[.int so]++[.int pa]))):=eO.refl.upd.upd.upd;have e1:upd (upd (upd H a (.inst 0 ([]++[.int N]))) a (.inst 0 ([]++[.int N]++[.int so]))) a (.inst 0 ([]++[.int N]++[.int so]++[.int pa])) a=some (.inst 0 [.int N,.int so,.int pa]):=af _ _ _;generalize upd (upd (upd H a (.inst 0 ([]++[.int N]))) a (.inst 0 ([]++[.int N]++[.int so]))) a (.inst 0 ([]++[.int N]++[.int so]++[.int pa]))=H1 at X1 e1;left;show ⟨by simp[lim],λc hc=>?_⟩;show oA (nn X1 ⟨_,e1⟩ hc) λNG Mt=>?_;left;show bD (by rw[aj Mt];show e1) rfl ?_;left;show bD (af _ _ _) rfl ?_;left;show bD (af _ _ _) rfl ?_;left;show bD (af _ _ _) rfl ?_;left;show bD (af _ _ _) rfl ?_;left;show bD (af _ _ _) rfl ?_;left;show bD (af _ _ _) rfl ?_;left;show bD (af _ _ _) rfl ?_;left;show bD (af _ _ _) rfl ?_;left;show bD (af _ _ _) rfl ?_;left;show bD (af _ _ _) rfl ?_;generalize vb:upd _ a _=H2;revert H2 vb;show gk ?_;intro H2 vb;have e2:H2 a=some (.inst 0 [.int N,.int so,.int pa,.ref c,.int 0,.int 0,.int 0,.int 0,.int 0,.int 1,.int 1,.int 0,.bool false,.int 0]):=by rw[<-vb];show af _ _ _
 have c2:H2 c=some (.list []):=by
  rw[<-vb];simp only[aj Mt.symm,af]
 have X2:eO a H H2:=vb▸(X1.ext (Ext.new hc)).upd.upd.upd.upd.upd.upd.upd.upd.upd.upd.upd;left;show ⟨by simp[lim],λe he=>?_⟩;show oA (nn X2 ⟨_,e2⟩ he) λZQ SH=>?_;have Wu:c≠e:=λz=>by rw[<-z,c2] at he;show fB he
 left;show bD (by rw[aj SH];show e2) rfl ?_;generalize l5:upd _ a _=H3;revert H3 l5;show gk ?_;intro H3 l5;have e3:H3 a=some (.inst 0 [.int N,.int so,.int pa,.ref c,.int 0,.int 0,.int 0,.int 0,.int 0,.int 1,.int 1,.int 0,.bool false,.int 0,.ref e]):=by rw[<-l5];show af _ _ _
 have c3:H3 c=some (.list []):=by rw[<-l5,aj Mt.symm,aj Wu];show c2
 have f3:H3 e=some (.list []):=by rw[<-l5,aj SH.symm,af]
 have X3:eO a H H3:=l5▸(X2.ext (Ext.new he)).upd;left;show ⟨by simp[lim],λl hl=>?_⟩;show oA (nn X3 ⟨_,e3⟩ hl) λhlH kC=>?_;have mU:c≠l:=λz=>by rw[<-z,c3] at hl;show fB hl
 have Ih:e≠l:=λz=>by rw[<-z,f3] at hl;show fB hl
 left;show bD (by rw[aj kC];show e3) rfl ?_;left;show q _ c e l (X3.ext (Ext.new hl)).upd (af _ _ _) ?_ ?_ ?_ NG ZQ hlH Wu mU
 .rw[aj Mt.symm,aj mU];show c3
 .rw[aj SH.symm,aj Ih];show f3
 .rw[aj kC.symm,af]
theorem vY{so pa:Int}(R:Rp H Y s)(hN:s.last+1∉s.ks)(hl:s.ks.length<1000)
  (q:∀ H' Y',Y'.tp=Y.tp->Rp H' Y' { s.add (s.last+1) ⟨so,pa,[],0,1,1,0,0⟩ with last:=s.last+1 }->Mv (Own Y s) (Own Y' { s.add (s.last+1) ⟨so,pa,[],0,1,1,0,0⟩ with last:=s.last+1 }) H H'->(∀ j y,s.m j=some y->Y'.wa j=Y.wa j/\Y'.ca j=Y.ca j/\Y'.ea j=Y.ea j)->Q (.ref (Y'.wa (s.last+1))) H') :
  br Fn (n+2) hd 7 [.ref Y.tp,.int so,.int pa] H Q E:=by
 clear n hd H Y s Q E so pa _ R hN hl q;show w_call rfl rfl ?_;unfold u9;left;show bX R.tr (lb rfl) ?_;rw[show (tl Y s).set 1 (.int (s.last+1))=tl Y { s with last:=s.last+1 } from rfl];have R1:=R.setT (s':={ s with last:=s.last+1 }) rfl rfl rfl rfl;have M1:Mv (Own Y s) (Own Y { s with last:=s.last+1 }) H (upd H Y.tp (.inst 1 (tl Y { s with last:=s.last+1 }))):=Mv.upd (.inl rfl);generalize upd H Y.tp (.inst 1 (tl Y { s with last:=s.last+1 }))=H1 at R1 M1;fail;fail;show EN ?_;left;intro a ha;show w8 (af _ _ _) λH2 c e l X2 h2 hc he qh nc ne nl d1 d2=>?_;have cV:∀ {b:Nat},upd H1 a (.inst 0 []) b=none->H1 b=none:=λ{b} h=>by
  cases hh:H1 b with
  |none=>rfl
  |some o=>rw[(Ext.new ha) _ _ hh] at h;show fB h
 have jf:Ext H1 H2:=λb o hb=>X2 _ _ ((Ext.new ha) _ _ hb) λz=>by rw[z,ha] at hb;show cz hb
 have R2:=R1.ext jf;show ⟨rfl,?_⟩;left;show kM R2.dc R2.dlen ?_;rw[show dput (dl Y ({ s with last:=s.last+1 }:S).ks) (s.last+1) (.ref a)=dl Y s.ks++[(s.last+1,.ref a)] from BZ hN];have nd:∀ b o,H2 b=some o->(∀ es,o≠.dict es)->b≠Y.dp:=λb o h n z=>by
  rw[z,R2.dc] at h;cases h;show n _ rfl
 generalize l5:upd H2 Y.dp (.dict (dl Y s.ks++[(s.last+1,.ref a)]))=H3;have k3:∀ b o,H2 b=some o->(∀ es,o≠.dict es)->H3 b=some o:=λb o h n=>by rw[<-l5,aj (nd b o h n)];show h
 have R3:=R1.add (H':=H3) (N:=s.last+1) (a:=a) (c:=c) (e:=e) (l:=l) (so:=so) (pa:=pa) hN hl (λb o hb nb=>by rw[<-l5,aj nb];show jf b o hb) (by rw[<-l5,af])
  (k3 _ _ h2 λ_ h=>sY h rfl) (k3 _ _ hc λ_ h=>sY h rfl) (k3 _ _ he λ_ h=>sY h rfl) (k3 _ _ qh λ_ h=>sY h rfl) ha (cV nc) (cV ne) (cV nl) d1 d2
 have hw:(Y.add (s.last+1) a c e l).wa (s.last+1)=a:=if_pos rfl;left;have:=q H3 (Y.add (s.last+1) a c e l) rfl R3 ?_ ?_
 .rw[hw] at this;show this
 .have fX:∀ {b:Nat},H1 b=none->H b=none:=λ{b} h=>by
   cases hh:H b with
   |none=>rfl
   |some o=>
    by_cases ho:Own Y s b
    .show oE (R1.alive (a:=b) ho) λo' Bu=>?_;rw[h] at Bu;show cz Bu
    .rw[M1.keep b o hh ho] at h;show fB h
  show ⟨λb hb=>?_,λb o hb nb=>?_,λb hb=>M1.live b (jf.none (d8 (l5▸hb)))⟩
  .rcases hb with hb|hb|⟨j,y,hy,hb⟩
   .show .inl (.inl hb)
   .show .inl (.inr (.inl hb))
   .by_cases e1:j=s.last+1
    .rw[e1] at hb;rcases hb with hb|hb|hb|hb
     .rw[hb,hw];show .inr (fX ha)
     .rw[hb,show (Y.add (s.last+1) a c e l).ca (s.last+1)=c from if_pos rfl];show .inr (fX (cV nc))
     .rw[hb,show (Y.add (s.last+1) a c e l).ea (s.last+1)=e from if_pos rfl];show .inr (fX (cV ne))
     .rw[hb,show (Y.add (s.last+1) a c e l).la (s.last+1)=l from if_pos rfl];show .inr (fX (cV nl))
    .have ML:s.m j=some y:=by
      have hy:(if j=s.last+1 then some _ else s.m j)=some y:=hy;rwa [if_neg e1] at hy
     show .inl ?_;show .inr (.inr ⟨j,y,ML,?_⟩);rwa [show (Y.add (s.last+1) a c e l).wa j=Y.wa j from if_neg e1,show (Y.add (s.last+1) a c e l).ca j=Y.ca j from if_neg e1,show (Y.add (s.last+1) a c e l).ea j=Y.ea j from if_neg e1,show (Y.add (s.last+1) a c e l).la j=Y.la j from if_neg e1] at hb
  .have:=jf _ _ (M1.keep b o hb nb);rw[<-l5,aj (λz:b=Y.dp=>nb (.inr (.inl z)))];show this
 .intro j y hy;have hj:j≠s.last+1:=λz=>hN (z▸R.mem hy);show ⟨if_neg hj,if_neg hj,if_neg hj⟩
theorem He(bO:hd=false)(R:Rp H Y s)(hx:s.m k=some x)(q:x.sort=0->Q (.ref (Y.wa k)) H)(e:E H):br Fn (n+2) hd 9 [.ref Y.tp,.int k] H Q E:=by
 clear n hd H Y s k x Q E _ bO R hx q e;show w_call rfl rfl ?_;unfold EA;left;show iZ R hx ?_;left;show bP (λh=>?_) λh=>?_
 .left;all_goals show gZ bO e
 .left;show q (by simpa using h)
theorem En(R:Rp H Y s)(hx:s.m k=some x)(q:∀ H' s',s' = { s.setW k { x with ut:=s.clock+1 } with clock:=s.clock+1 }->Rp H' Y s'->Mv (Own Y s) (Own Y s') H H'->Q .none H'):br Fn (n+1) hd 10 [.ref Y.tp,.int k] H Q E:=by
 clear n hd H Y s k x Q E _ R hx q;show w_call rfl rfl ?_;unfold zy;left;show bX R.tr (lb rfl) ?_;rw[show (tl Y s).set 2 (.int (s.clock+1))=tl Y { s with clock:=s.clock+1 } from rfl];have R1:=R.setT (s':={ s with clock:=s.clock+1 }) rfl rfl rfl rfl;have M1:Mv (Own Y s) (Own Y { s with clock:=s.clock+1 }) H (upd H Y.tp (.inst 1 (tl Y { s with clock:=s.clock+1 }))):=Mv.upd (.inl rfl);generalize upd H Y.tp (.inst 1 (tl Y { s with clock:=s.clock+1 }))=H1 at R1 M1;have l6:({ s with clock:=s.clock+1 }:S).m k=some x:=hx;left;show bX (R1.wn k x l6) (lb rfl) ?_;have R2:=R1.setW (x':={ x with ut:=s.clock+1 }) l6 rfl;left;show q _ _ rfl R2 (M1.trans ?_);have:=Mv.upd (O:=Own Y ({ s with clock:=s.clock+1 }:S)) (H:=H1) (o:=.inst 0 (wl Y { s with clock:=s.clock+1 } k { x with ut:=s.clock+1 })) (a:=Y.wa k) (.inr (.inr ⟨k,x,hx,.inl rfl⟩));rw[show Own Y { s.setW k { x with ut:=s.clock+1 } with clock:=s.clock+1 }=Own Y ({ s with clock:=s.clock+1 }:S) from Own.eqW (s:={ s with clock:=s.clock+1 }) l6];show this
end
structure Tr (s:S) (d:Int->Nat) (P K:Int):Prop where
 w:WF0 s d
 st:∀ k x c y,s.m k=some x->c∈x.ch->s.m c=some y->y.sort=x.sort->k=P/\c=K
 l2:∀ k x,s.m k=some x->x.sort≠0->k≠P->2<=x.ch.length
structure AxW (a:Int) (g:Int->Int) (x:W) (j:Int):Prop where
 lf:x.sort=0->lst a<=g j
 al:x.sort≠0->Mine.al x.sort=a->aI (x.ch.map g)=g j
 ac:x.sort≠0->Mine.al x.sort≠a->∀ c∈x.ch,g c=g j
theorem AxL.of{s:S}{a:Int}{g:Int->Int}{j:Int}(h:∀ x,s.m j=some x->AxW a g x j):AxL s a g j:=⟨λx hx=>(h x hx).lf,λx hx=>(h x hx).al,λx hx=>(h x hx).ac⟩
theorem AxL.w{s:S}{a:Int}{g:Int->Int}{j:Int}{x:W}(h:AxL s a g j)(hx:s.m j=some x):AxW a g x j:=⟨h.lf x hx,h.al x hx,h.ac x hx⟩
noncomputable def mE(s:S):List Int:=s.ks.filter λj=>match s.m j with
 |some x=>decide (x.sort=0)
 |none=>false
section
variable {s s':S} {d:Int->Nat} {k P G:Int} {x y:W}
theorem eI(dom:∀ k,k∈s.ks↔∃ x,s.m k=some x){j:Int}:j∈mE s↔∃ x,s.m j=some x/\x.sort=0:=by
 unfold mE;rw[bV,dom j];constructor
 .rintro ⟨⟨x,hx⟩,h⟩;rw[hx] at h;show ⟨x,hx,of_decide_eq_true h⟩
 .rintro ⟨x,hx,h⟩;show ⟨⟨x,hx⟩,?_⟩;rw[hx];show decide_eq_true h
theorem fv(h:s.ks.Nodup):(mE s).Nodup:=h.filter _
theorem mZ(w:WF0 s d):∀ j,j∈lg (aA s) s.root↔j∈mE s:=λj=>by
 rw[fH w.rk,eI w.dom];show bj w.root λxr dZ _=>?_;constructor
 .rintro ⟨h1,h2⟩;show oE (w.pre_at _ ⟨xr,dZ⟩ h1) λx hx=>?_;show ⟨x,hx,(w.lf j x hx).mpr (by rw[<-aF hx];show h2)⟩
 .rintro ⟨x,hx,h⟩;show ⟨w.all ⟨x,hx⟩,by rw[aF hx];show (w.lf j x hx).mp h⟩
theorem oo(w:WF0 s d):(lg (aA s) s.root).length=(mE s).length:=iU (w.fo.lvs_nodup _) (fv w.knd) (mZ w)
theorem WF0.par_root(w:WF0 s d)(hx:s.m k=some x):x.par=0↔k=s.root:=by
 constructor
 .intro h;by_cases e:k=s.root
  .show e
  .show bj (w.top k x hx e) λy hy _=>?_;rw[h] at hy;have:=w.key 0 y hy;show li 0x1001ffb738405af280419902003 rfl this
 .rintro rfl;show bj w.root λxr dZ hp=>?_;rw[hx] at dZ;cases dZ;show hp
theorem WF0.kid_ne(w:WF0 s d)(hx:s.m k=some x){c:Int}(hc:c∈x.ch):c≠k:=λe=>by
 show bp (w.kid k x c hx hc) λy _ _ h=>?_;rw[e] at h;show li 0x7fed41a408110 rfl h
theorem WF0.kid_par(w:WF0 s d)(hx:s.m k=some x){c:Int}(hc:c∈x.ch)(hy:s.m c=some y):y.par=k:=by
 show bp (w.kid k x c hx hc) λz hz hp _=>?_;rw[hy] at hz;cases hz;show hp
theorem qE{l1 l2:List Int}{a b:Int}(h:(l1++a::l2).Nodup)(hb:b∉l1++a::l2):(l1++b::l2).Nodup:=by
 show mf (aL.mp h) λh1 h2 h3=>?_;show oA (aQ.mp h2) λh4 h5=>?_;show aL.mpr ⟨h1,aQ.mpr ⟨λm=>hb (by simp[m]),h5⟩,λu hu v hv e=>?_⟩;rcases ag.mp hv with hv|hv
 .show hb (by rw[<-hv,<-e];simp[hu])
 .show h3 u hu v (.tail _ hv) e
theorem vC{l1 l2:List Int}{a b c:Int}(h:c∈l1++a::l2):c=a\/c∈l1++b::l2:=by
 rcases ak.mp h with h|h
 .show .inr (by simp[h])
 .rcases ag.mp h with h|h
  .show .inl h
  .show .inr (by simp[h])
theorem m9{l1 l2:List Int}{a c:Int}(nd:(l1++a::l2).Nodup)(h:c∈l1\/c∈l2):c≠a:=λe=>by
 show mf (aL.mp nd) λh1 h2 h3=>?_;rcases h with h|h
 .show h3 c h a (.head _) e
 .show (aQ.mp h2).1 (e▸h)
theorem mem_mid{l1 l2:List Int}{a c:Int}(h:c∈l1++a::l2):c=a\/(c∈l1\/c∈l2):=by
 rcases ak.mp h with h|h
 .show .inr (.inl h)
 .rcases ag.mp h with h|h
  .show .inl h
  .show .inr (.inr h)
theorem cY{l1 l2:List Int}{a c:Int}(h:c∈l1\/c∈l2):c∈l1++a::l2:=by
 rcases h with h|h
 .show aM _ h
 .show bG _ (.tail _ h)
structure oG (s s':S) (k P:Int) (x y:W):Prop where
 hx:s.m k=some x
 hP:P∉s.ks
 hP0:0<P
 hmP:s'.m P=some y
 ys:y.sort=1\/y.sort=2
 yp:y.par=x.par
 yc:y.ch=[k]
 hmk:s'.m k=some { x with par:=P }
 hG:∀ xG,x.par≠0->s.m x.par=some xG->xG.sort≠y.sort/\∃ l1 l2,xG.ch=l1++k::l2/\s'.m x.par=some { xG with ch:=l1++P::l2 }
 hr:s'.root=if x.par=0 then P else s.root
 ho:∀ j,j≠P->j≠k->(j≠x.par\/x.par=0)->s'.m j=s.m j
 hks:s'.ks=s.ks++[P]
 hla:s.last<=s'.last/\P<=s'.last
theorem oG.inv(h:oG s s' k P x y)(w:WF0 s d):∀ j z,s'.m j=some z->(P=j/\y=z)\/(k=j/\{ x with par:=P }=z)\/(x.par=j/\x.par≠0/\∃ xG l1 l2,s.m x.par=some xG/\xG.sort≠y.sort/\xG.ch=l1++k::l2/\s'.m x.par=some { xG with ch:=l1++P::l2 }/\{ xG with ch:=l1++P::l2 }=z)\/(j≠P/\j≠k/\(j≠x.par\/x.par=0)/\s'.m j=s.m j/\s.m j=some z):=by
 clear s s' d k P x y _ h w;obtain ⟨hx,hP,hP0,hmP,ys,yp,yc,hmk,hG,hr,ho,hks,hla⟩:=h;have oR:∀ j z,s.m j=some z->j≠P:=λj z hz e=>hP (e▸(w.dom j).mpr ⟨z,hz⟩);have yD:k≠P:=oR k x hx;have JC:∀ xG,x.par≠0->s.m x.par=some xG->d k<d x.par/\x.par≠P/\x.par≠k/\k∈xG.ch:=λxG h0 de=>by
  show bj (w.top k x hx λe=>h0 ((w.par_root hx).mpr e)) λz hz hc=>?_;rw[de] at hz;cases hz;show bp (w.kid x.par xG k de hc) λ_ _ _ h=>?_;show ⟨h,oR _ _ de,λe=>by rw[e] at h;show li 0x7fed41a408110 rfl h,hc⟩
 have Qw:x.par≠0->∃ xG,s.m x.par=some xG:=λh0=>by
  show bj (w.top k x hx λe=>h0 ((w.par_root hx).mpr e)) λz hz hc=>?_;show ⟨z,hz⟩
 intro j z hz;by_cases e1:j=P
 .clear hP hP0 hmk hG hr ho hks hla oR yD JC;subst e1;rw[hmP] at hz;cases hz;show .inl ⟨rfl,rfl⟩
 .by_cases e2:j=k
  .clear hx yc;subst e2;rw[hmk] at hz;cases hz;show .inr (.inl ⟨rfl,rfl⟩)
  .by_cases e3:j=x.par/\x.par≠0
   .show oE (Qw e3.2) λxG de=>?_;show bU (hG xG e3.2 de) λhs l1 l2 hc hm=>?_;have cC:=hz;rw[e3.1,hm] at cC;clear hz;cases cC;show .inr (.inr (.inl ⟨e3.1.symm,e3.2,xG,l1,l2,de,hs,hc,hm,rfl⟩))
   .have Nh:j≠x.par\/x.par=0:=li 0x40004400400044004404040407fedd99d002de0806ed7bd002ce0802002 rfl e3;have hh:=ho j e1 e2 Nh;show .inr (.inr (.inr ⟨e1,e2,Nh,hh,by rw[<-hh];show hz⟩))
theorem oG.ex(h:oG s s' k P x y)(w:WF0 s d):∀ j z,s.m j=some z->∃ z',s'.m j=some z'/\z'.sort=z.sort/\(j≠k->z'.par=z.par):=by
 clear s s' d k P x y _ h w;obtain ⟨hx,hP,hP0,hmP,ys,yp,yc,hmk,hG,hr,ho,hks,hla⟩:=h;have oR:∀ j z,s.m j=some z->j≠P:=λj z hz e=>hP (e▸(w.dom j).mpr ⟨z,hz⟩);have yD:k≠P:=oR k x hx;have JC:∀ xG,x.par≠0->s.m x.par=some xG->d k<d x.par/\x.par≠P/\x.par≠k/\k∈xG.ch:=λxG h0 de=>by
  show bj (w.top k x hx λe=>h0 ((w.par_root hx).mpr e)) λz hz hc=>?_;rw[de] at hz;cases hz;show bp (w.kid x.par xG k de hc) λ_ _ _ h=>?_;show ⟨h,oR _ _ de,λe=>by rw[e] at h;show li 0x7fed41a408110 rfl h,hc⟩
 have Qw:x.par≠0->∃ xG,s.m x.par=some xG:=λh0=>by
  show bj (w.top k x hx λe=>h0 ((w.par_root hx).mpr e)) λz hz hc=>?_;show ⟨z,hz⟩
 intro j z hz;by_cases e2:j=k
 .clear yc hG ho yD JC;subst e2;rw[hx] at hz;cases hz;show ⟨_,hmk,rfl,λh=>absurd rfl h⟩
 .by_cases e3:j=x.par/\x.par≠0
  .show oA e3 λe3 h0=>?_;rw[e3] at hz;show bU (hG z h0 hz) λhs l1 l2 hc hm=>?_;show ⟨{ z with ch:=l1++P::l2 },by rw[e3];show hm,rfl,λ_=>rfl⟩
  .show ⟨z,by rw[ho j (oR j z hz) e2 (li 0x40004400400044004404040407fedd99d002de0806ed7bd002ce0802002 rfl e3)];show hz,rfl,λ_=>rfl⟩
theorem Fv(T:Tr s d 0 0)(h:oG s s' k P x y)(hlen:s.ks.length<1000):Tr s' (λj=>if j=P then 2*d k+1 else 2*d j) P k:=by
 clear s s' d k P x y _ T h hlen;have inv:=h.inv T.w;have ex:=h.ex T.w;obtain ⟨hx,hP,hP0,hmP,ys,yp,yc,hmk,hG,hr,ho,hks,hla⟩:=h;have w:=T.w;have oR:∀ j z,s.m j=some z->j≠P:=λj z hz e=>hP (e▸(w.dom j).mpr ⟨z,hz⟩);have yD:k≠P:=oR k x hx;have YW:∀ z,s.m 0=some z->False:=λz hz=>by have:=w.key 0 z hz;show li 0x7fed41af280419902001 rfl this
 have JC:∀ xG,x.par≠0->s.m x.par=some xG->d k<d x.par/\x.par≠P/\x.par≠k/\k∈xG.ch:=λxG h0 de=>by
  show bj (w.top k x hx λe=>h0 ((w.par_root hx).mpr e)) λz hz hc=>?_;rw[de] at hz;cases hz;show bp (w.kid x.par xG k de hc) λ_ _ _ h=>?_;show ⟨h,oR _ _ de,λe=>by rw[e] at h;show li 0x7fed41a408110 rfl h,hc⟩
 have Qw:x.par≠0->∃ xG,s.m x.par=some xG:=λh0=>by
  show bj (w.top k x hx λe=>h0 ((w.par_root hx).mpr e)) λz hz hc=>?_;show ⟨z,hz⟩
 have dP:(if P=P then 2*d k+1 else 2*d P)=2*d k+1:=if_pos rfl;have dn:∀ j,j≠P->(if j=P then 2*d k+1 else 2*d j)=2*d j:=λj h=>if_neg h;show ⟨⟨?_,λj z hz=>?_,λj z hz=>?_,λj z hz hs=>?_,λj z hz=>?_,λj z c hz hc=>?_,λj z hz hj=>?_,λj=>?_,?_,?_⟩,λj z c zc hz hc vq hs=>?_,λj z hz hs hj=>?_⟩
 .by_cases h0:x.par=0
  .rw[hr,if_pos h0];show ⟨y,hmP,by rw[yp,h0]⟩
  .rw[hr,if_neg h0];show bj w.root λxr dZ hp=>?_;show bp (ex _ _ dZ) λz hz _ yK=>?_;show ⟨z,hz,by rw[yK λe=>h0 ((w.par_root hx).mpr e.symm),hp]⟩
 .rcases inv j z hz with ⟨rfl,rfl⟩|⟨rfl,rfl⟩|⟨rfl,h0,xG,l1,l2,de,_⟩|⟨_,_,_,_,hz⟩
  .show ⟨hP0,hla.2⟩
  .have:=w.key _ _ hx;show li 0x1100110100ffb76ebca083660c835e5001b30641af282099410004 rfl hla this
  .have:=w.key _ _ de;show li 0x1100110100ffb76ebca083660c835e5001b30641af282099410004 rfl hla this
  .have:=w.key _ _ hz;show li 0x1100110100ffb76ebca083660c835e5001b30641af282099410004 rfl hla this
 .rcases inv j z hz with ⟨rfl,rfl⟩|⟨rfl,rfl⟩|⟨rfl,h0,xG,l1,l2,de,hs,hc,_,rfl⟩|⟨_,_,_,_,hz⟩
  .rw[yc];constructor
   .intro h;show (li 0x4400443fedda833a001b33a3019d08001 rfl ys h).elim
   .intro h;cases h
  .show w.lf k x hx
  .have:=w.lf _ _ de;rw[hc] at this;constructor
   .intro h;have:=this.mp h;simp at this
   .intro h;simp at h
  .show w.lf _ _ hz
 .rcases inv j z hz with ⟨rfl,rfl⟩|⟨rfl,rfl⟩|⟨rfl,h0,xG,l1,l2,de,ip,hc,_,rfl⟩|⟨_,_,_,_,hz⟩
  .show ys
  .show w.srt k x hx hs
  .show w.srt _ xG de hs
  .show w.srt _ _ hz hs
 .rcases inv j z hz with ⟨rfl,rfl⟩|⟨rfl,rfl⟩|⟨rfl,h0,xG,l1,l2,de,hs,hc,_,rfl⟩|⟨_,_,_,_,hz⟩
  .rw[yc];show J9
  .show w.nd k x hx
  .have:=w.nd _ _ de;rw[hc] at this;show qE this λm=>?_;rw[<-hc] at m;show bj (w.kid _ _ _ de m) λz hz _=>?_;show oR _ _ hz rfl
  .show w.nd _ _ hz
 .change ∃ y',s'.m c=some y'/\y'.par=j/\(if c=P then 2*d k+1 else 2*d c)<(if j=P then 2*d k+1 else 2*d j)
  clear hP hP0 hG hr ho hks hla;rcases inv j z hz with ⟨rfl,rfl⟩|⟨rfl,rfl⟩|⟨rfl,h0,xG,l1,l2,de,hs,JO,_,rfl⟩|⟨n1,n2,n3,_,hz⟩
  .rw[yc] at hc;rw[aa.mp hc,dP,dn k yD];show ⟨_,hmk,rfl,li 0x7fe9c08708147840a310 rfl⟩
  .show bp (w.kid _ _ c hx hc) λQ5 tB hp hd=>?_;show bp (ex c _ tB) λz' cC _ yK=>?_;rw[dn c (oR _ _ tB),dn k yD];show ⟨z',cC,by rw[yK (w.kid_ne hx hc)];show hp,li 0x12ffb74e1068f08147a418120 rfl hd⟩
  .show gM (JC xG h0 de) λg1 g2 g3 g4=>?_;rw[dn _ g2];have dA:=w.nd _ _ de;rw[JO] at dA;clear inv hmk yD JC hz g2;rcases mem_mid hc with rfl|hc
   .rw[dP];show ⟨y,hmP,yp,li 0x4bfedd3841a3c08708147a418120 rfl g1⟩
   .have JT:=m9 dA hc;have FJ:c∈xG.ch:=by rw[JO];show cY hc
    show bp (w.kid _ _ c de FJ) λQ5 tB hp hd=>?_;show bp (ex c _ tB) λz' cC _ yK=>?_;rw[dn c (oR _ _ tB)];show ⟨z',cC,by rw[yK JT];show hp,li 0x12ffb74e1068f08147a418120 rfl hd⟩
  .show bp (w.kid _ _ c hz hc) λQ5 tB hp hd=>?_;show bp (ex c _ tB) λz' cC _ yK=>?_;have JT:c≠k:=λe=>by
    rw[e,hx] at tB;clear yK;cases tB;rcases n3 with n3|n3
    .show n3 hp.symm
    .rw[n3] at hp;rw[<-hp] at hz;show YW _ hz
   rw[dn c (oR _ _ tB),dn j n1];show ⟨z',cC,by rw[yK JT];show hp,li 0x12ffb74e1068f08147a418120 rfl hd⟩
 .rcases inv j z hz with ⟨rfl,rfl⟩|⟨rfl,rfl⟩|⟨rfl,h0,xG,l1,l2,de,hs,JO,_,rfl⟩|⟨n1,n2,n3,_,hz⟩
  .have h0:x.par≠0:=λe=>hj (by rw[hr,if_pos e]);show oE (Qw h0) λxG de=>?_;show bU (hG xG h0 de) λhs l1 l2 hc hm=>?_;show ⟨_,by rw[yp];show hm,by simp⟩
  .show ⟨y,hmP,by rw[yc];simp⟩
  .rw[hr,if_neg h0] at hj;show bj (w.top _ _ de hj) λy0 ij i9=>?_;show gM (JC xG h0 de) λg1 g2 g3 g4=>?_;show bp (w.kid _ _ _ ij i9) λ_ _ _ bO=>?_;have n1:xG.par≠k:=λe=>by rw[e] at bO;show li 0x47fedda8348107a418120 rfl g1 bO
   have n2:xG.par≠x.par:=λe=>by rw[e] at bO;show li 0x7fed41a408110 rfl bO
   show ⟨y0,by rw[ho _ (oR _ _ ij) n1 (.inl n2)];show ij,i9⟩
  .have jj:j≠s.root:=by
    by_cases h0:x.par=0
    .rw[<-(w.par_root hx).mp h0];show n2
    .rw[hr,if_neg h0] at hj;show hj
   show bj (w.top _ _ hz jj) λy0 ij i9=>?_;by_cases e1:z.par=k
   .rw[e1] at ij ⊢;rw[hx] at ij;cases ij;show ⟨_,hmk,i9⟩
   .by_cases e2:z.par=x.par/\x.par≠0
    .show oA e2 λe2 h0=>?_;rw[e2] at ij ⊢;show bU (hG y0 h0 ij) λhs l1 l2 hc hm=>?_;show ⟨_,hm,?_⟩;rw[hc] at i9;show (vC i9).resolve_left n2
    .show ⟨y0,by rw[ho _ (oR _ _ ij) e1 (li 0x40004400400044004404040407fedd99d002de0806ed7bd002ce0802002 rfl e2)];show ij,i9⟩
 .rw[hks,ak,aa,w.dom j];constructor
  .clear oR dP dn;rintro (⟨z,hz⟩|rfl)
   .show bj (ex j z hz) λz' cC _=>?_;show ⟨z',cC⟩
   .show ⟨y,hmP⟩
  .rintro ⟨z,hz⟩;rcases inv j z hz with ⟨rfl,rfl⟩|⟨rfl,rfl⟩|⟨rfl,h0,xG,l1,l2,de,_⟩|⟨n1,n2,n3,_,hz⟩
   .show .inr rfl
   .show .inl ⟨x,hx⟩
   .show .inl ⟨xG,de⟩
   .show .inl ⟨z,hz⟩
 .rw[hks];show aL.mpr ⟨w.knd,J9,λu hu v hv e=>?_⟩;rw[aa.mp hv] at e;show hP (e▸hu)
 .rw[hks,aB];simp;show li 0x11ffb743c03a510110 rfl hlen
 .have Le:∀ j z c zc,s.m j=some z->c∈z.ch->s.m c=some zc->zc.sort≠z.sort:=λj z c zc h1 h2 h3 h4=>by
   have:=(T.st j z c zc h1 h2 h3 h4).1;lia
  rcases inv j z hz with ⟨rfl,rfl⟩|⟨rfl,rfl⟩|⟨rfl,h0,xG,l1,l2,de,WY,JO,_,rfl⟩|⟨n1,n2,n3,_,hz⟩
  .rw[yc] at hc;show ⟨rfl,aa.mp hc⟩
  .show bj (w.kid _ _ c hx hc) λQ5 tB _=>?_;show bp (ex c _ tB) λz' cC xD _=>?_;rw[cC] at vq;clear cC;cases vq;show absurd (xD.symm.trans hs) (Le k x c _ hx hc tB)
  .clear hz;rcases mem_mid hc with rfl|hc
   .rw[hmP] at vq;cases vq;show absurd hs.symm WY
   .have FJ:c∈xG.ch:=by rw[JO];show cY hc
    show bj (w.kid _ _ c de FJ) λQ5 tB _=>?_;show bp (ex c _ tB) λz' cC xD _=>?_;rw[cC] at vq;clear cC;cases vq;show absurd (xD.symm.trans hs) (Le _ xG c _ de FJ tB)
  .show bj (w.kid _ _ c hz hc) λQ5 tB _=>?_;show bp (ex c _ tB) λz' cC xD _=>?_;rw[cC] at vq;clear cC;cases vq;show absurd (xD.symm.trans hs) (Le _ _ c _ hz hc tB)
 .have U':∀ j z,s.m j=some z->z.sort≠0->2<=z.ch.length:=λj z h1 h2=>T.l2 j z h1 h2 λe=>by
   lia
  rcases inv j z hz with ⟨rfl,rfl⟩|⟨rfl,rfl⟩|⟨rfl,h0,xG,l1,l2,de,WY,JO,_,rfl⟩|⟨n1,n2,n3,_,hz⟩
  .show absurd rfl hj
  .show U' k x hx hs
  .have:=U' _ xG de hs;rw[JO] at this;simpa using this
  .show U' _ _ hz hs
end
section
variable {s s':S} {d:Int->Nat} {k P K G N c l:Int} {x y xc xl:W} {l1 l2:List Int}
theorem Tr.strict(T:Tr s d P K)(h:∀ x y,s.m P=some x->K∈x.ch->s.m K=some y->y.sort≠x.sort)(h2:∀ x,s.m P=some x->x.sort≠0->2<=x.ch.length):Tr s d 0 0 :=
 ⟨T.w,λk x c y h1 h3 h4 h5=>by
  (show oA (T.st k x c y h1 h3 h4 h5) λaG cE=>?_;clear T h2;subst aG;subst cE)
  show absurd h5 (h x y h1 h3 h4),λk x h1 h3 _=>by
  by_cases e:k=P
  .clear h
   subst e;show h2 x h1 h3
  .show T.l2 k x h1 h3 e⟩
theorem Tr.no(T:Tr s d 0 0){j:Int}{z zc:W}(h1:s.m j=some z)(h2:c∈z.ch)(h3:s.m c=some zc):zc.sort≠z.sort:=λh4=>by
 have q1:=(T.st j z c zc h1 h2 h3 h4).1;have q2:=T.w.key j z h1;show li 0x407fedda835e50403300419d00002 rfl q1 q2
theorem Tr.len2(T:Tr s d 0 0){j:Int}{z:W}(h1:s.m j=some z)(h2:z.sort≠0):2<=z.ch.length:=T.l2 j z h1 h2 λe=>by
 have:=T.w.key j z h1;show li 0x407fedda835e50403300419d00002 rfl e this
theorem AxW.congr{a:Int}{g g':Int->Int}{j:Int}(h:AxW a g x j)(e:g' j=g j)(ec:∀ c∈x.ch,g' c=g c):AxW a g' x j:=by
 show ⟨λhs=>by rw[e];show h.lf hs,λhs ha=>?_,λhs ha c hc=>?_⟩
 .rw[e,<-h.al hs ha];congr 1;show aX λc m=>ec c m
 .rw[e,ec c hc];show h.ac hs ha c hc
theorem Fq(w:WF0 s d)(h:oG s s' k P x y)(G:Gm s)(hg:∀ b j,j≠P->s'.g b j=s.g b j)(MA:∀ b,(b=0\/b=1)->s'.g b P=s.g b k):Gm s':=by
 clear s s' d k P x y _ w h G hg MA;have inv:=h.inv w;have oR:∀ j z,s.m j=some z->j≠P:=λj z hz e=>h.hP (e▸(w.dom j).mpr ⟨z,hz⟩);have yD:k≠P:=oR k x h.hx;show ⟨λb j hb ⟨z,hz⟩=>AxL.of λz' cC=>?_,λb hb=>?_⟩
 .clear hz;rcases inv j z' cC with ⟨rfl,rfl⟩|⟨rfl,rfl⟩|⟨rfl,h0,xG,l1,l2,de,hs,hc,hm,rfl⟩|⟨n1,n2,n3,_,hz⟩
  .have hyz:y.sort≠0:=by have:=h.ys;show li 0x1100110ffb77a001b33a3019d08001 rfl this
   show ⟨λhs=>absurd hs hyz,λ_ _=>?_,λ_ _ c hc=>?_⟩
   .rw[h.yc];change s'.g b k+0=_;rw[hg b k yD,MA b hb];show fQ _
   .rw[h.yc] at hc;rw[aa.mp hc,hg b k yD,MA b hb]
  .have hA:=(G.ax b k hb ⟨x,h.hx⟩).w h.hx;have:=hA.congr (g':=s'.g b) (hg b k yD) λc hc=>by
    show bj (w.kid k x c h.hx hc) λu hu _=>?_;show hg b c (oR c u hu)
   show ⟨this.lf,this.al,this.ac⟩
  .have hA:=(G.ax b _ hb ⟨xG,de⟩).w de;have dA:=w.nd _ _ de;rw[hc] at dA;have hch:∀ c,(c∈l1\/c∈l2)->s'.g b c=s.g b c:=λc iO=>by
    show bj (w.kid _ xG c de (by rw[hc];show cY iO)) λu hu _=>?_;show hg b c (oR c u hu)
   have jW:xG.sort≠0:=w.sort_of de (c:=k) (by rw[hc];show j4);show ⟨λhs=>absurd hs jW,λh1 h2=>?_,λh1 h2 c iO=>?_⟩
   .rw[hg b _ (oR _ _ de),<-hA.al h1 h2,hc];change aI ((l1++P::l2).map (s'.g b))=_;rw[aD,aD,aq,aq,bz,bz,bc,bc,MA b hb,aX λc m=>hch c (.inl m),aX λc m=>hch c (.inr m)]
   .rw[hg b _ (oR _ _ de)];clear h hg inv oR yD hm cC;rcases mem_mid iO with rfl|iO
    .rw[MA b hb];show hA.ac h1 h2 k (by rw[hc];simp)
    .rw[hch c iO];show hA.ac h1 h2 c (by rw[hc];show cY iO)
  .have hA:=(G.ax b j hb ⟨_,hz⟩).w hz;show hA.congr (hg b j n1) λc hc=>by
    show bj (w.kid j _ c hz hc) λu hu _=>?_;show hg b c (oR c u hu)
 .rw[h.hr];by_cases h0:x.par=0
  .rw[if_pos h0,MA b hb,(w.par_root h.hx).mp h0];show G.bd b hb
  .show bj w.root λxr dZ _=>?_;rw[if_neg h0,hg b _ (oR _ _ dZ)];show G.bd b hb
theorem Fs(w:WF0 s d)(h:oG s s' k P x y)(j:Int):(∃ z,s'.m j=some z/\z.sort=0)↔∃ z,s.m j=some z/\z.sort=0:=by
 clear s s' d k P x y j _ w h;constructor
 .rintro ⟨z,hz,hs⟩;rcases h.inv w j z hz with ⟨rfl,rfl⟩|⟨rfl,rfl⟩|⟨rfl,h0,xG,l1,l2,de,_,hc,hm,rfl⟩|⟨n1,n2,n3,_,hz⟩
  .have:=h.ys;show (li 0x40044007fedda8366746033a1019d00001 rfl hs this).elim
  .show ⟨x,h.hx,hs⟩
  .show ⟨xG,de,hs⟩
  .show ⟨z,hz,hs⟩
 .rintro ⟨z,hz,hs⟩;show bp (h.ex w j z hz) λz' cC e _=>?_;show ⟨z',cC,by rw[e];show hs⟩
structure uw (s s':S) (P N:Int) (x y:W) (l1 l2:List Int):Prop where
 hx:s.m P=some x
 hs:x.sort≠0
 hc:x.ch=l1++l2
 hmP:s'.m P=some { x with ch:=l1++N::l2 }
 hN:N∉s.ks
 hN0:0<N
 hmN:s'.m N=some y
 ys:y.sort=0
 yp:y.par=P
 yc:y.ch=[]
 ho:∀ j,j≠P->j≠N->s'.m j=s.m j
 hr:s'.root=s.root
 hks:s'.ks=s.ks++[N]
 hla:s.last<=s'.last/\N<=s'.last
theorem uw.inv(h:uw s s' P N x y l1 l2):∀ j z,s'.m j=some z->(P=j/\{ x with ch:=l1++N::l2 }=z)\/(N=j/\y=z)\/(j≠P/\j≠N/\s.m j=some z):=by
 intro j z hz;clear s s' P N x y l1 l2 j z _ h hz;by_cases e1:j=P
 .subst e1;rw[h.hmP] at hz;cases hz;show .inl ⟨rfl,rfl⟩
 .by_cases e2:j=N
  .subst e2;rw[h.hmN] at hz;cases hz;show .inr (.inl ⟨rfl,rfl⟩)
  .rw[h.ho j e1 e2] at hz;show .inr (.inr ⟨e1,e2,hz⟩)
theorem uw.ex(h:uw s s' P N x y l1 l2)(w:WF0 s d):∀ j z,s.m j=some z->∃ z',s'.m j=some z'/\z'.sort=z.sort/\z'.par=z.par:=λj z hz=>by
 by_cases e1:j=P
 .subst e1;rw[h.hx] at hz;cases hz;show ⟨_,h.hmP,rfl,rfl⟩
 .show ⟨z,by rw[h.ho j e1 λe=>h.hN (e▸(w.dom j).mpr ⟨z,hz⟩)];show hz,rfl,rfl⟩
theorem KG(T:Tr s d P K)(h:uw s s' P N x y l1 l2)(hlen:s.ks.length<1000):Tr s' (λj=>if j=N then 0 else d j) P K/\∀ k x,s'.m k=some x->x.sort≠0->2<=x.ch.length:=by
 clear s s' d P K N x y l1 l2 _ T h hlen;have w:=T.w;have EV:∀ j z,s.m j=some z->j≠N:=λj z hz e=>h.hN (e▸(w.dom j).mpr ⟨z,hz⟩);have JE:P≠N:=EV P x h.hx;have dN:(if N=N then 0 else d N)=0:=if_pos rfl;have dn:∀ j,j≠N->(if j=N then 0 else d j)=d j:=λj e=>if_neg e;have cV:x.ch≠[]:=λe=>h.hs ((w.lf P x h.hx).mpr e);show wJ (bR cV) λc0 t wF=>?_;show bp (w.kid P x c0 h.hx (by rw[wF];show .head _)) λ_ _ _ bO=>?_;have old:∀ c,c∈l1\/c∈l2->c∈x.ch:=λc hc=>by
  rw[h.hc];show ak.mpr hc
 have vz:∀ k x,s'.m k=some x->x.sort≠0->2<=x.ch.length:=λj z hz hs=>by
  rcases h.inv j z hz with ⟨rfl,rfl⟩|⟨rfl,rfl⟩|⟨n1,n2,hz⟩
  .have:1<=(l1++l2).length:=by rw[<-h.hc,wF];show Nat.succ_pos _
   change 2<=(l1++N::l2).length;simp at this ⊢;show li 0x47fedd18302106051e8c00c0a120 rfl this
  .show absurd h.ys hs
  .show T.l2 j z hz hs n1
 show ⟨⟨⟨?_,λj z hz=>?_,λj z hz=>?_,λj z hz hs=>?_,λj z hz=>?_,λj z c hz hc=>?_,λj z hz hj=>?_,λj=>?_,?_,?_⟩,λj z c zc hz hc vq hs=>?_,λj z hz hs _=>vz j z hz hs⟩,vz⟩
 .rw[h.hr];show bj w.root λxr dZ hp=>?_;show bp (h.ex w _ _ dZ) λz hz _ e=>?_;show ⟨z,hz,by rw[e,hp]⟩
 .have hla:=h.hla;rcases h.inv j z hz with ⟨rfl,rfl⟩|⟨rfl,rfl⟩|⟨n1,n2,hz⟩
  .have:=w.key _ _ h.hx;show li 0x1100110100ffb76ebca083660c835e5001b30641af282099410004 rfl hla this
  .show ⟨h.hN0,hla.2⟩
  .have:=w.key _ _ hz;show li 0x1100110100ffb76ebca083660c835e5001b30641af282099410004 rfl hla this
 .rcases h.inv j z hz with ⟨rfl,rfl⟩|⟨rfl,rfl⟩|⟨n1,n2,hz⟩
  .show ⟨λe=>absurd e h.hs,λe=>by simp at e⟩
  .show ⟨λ_=>h.yc,λ_=>h.ys⟩
  .show w.lf _ _ hz
 .rcases h.inv j z hz with ⟨rfl,rfl⟩|⟨rfl,rfl⟩|⟨n1,n2,hz⟩
  .show w.srt P x h.hx hs
  .show absurd h.ys hs
  .show w.srt _ _ hz hs
 .rcases h.inv j z hz with ⟨rfl,rfl⟩|⟨rfl,rfl⟩|⟨n1,n2,hz⟩
  .have:=w.nd _ _ h.hx;rw[h.hc] at this;show mf (aL.mp this) λa1 a2 a3=>?_;have Wd:∀ c,c∈l1\/c∈l2->c≠N:=λc hc=>by
    show bj (w.kid P x c h.hx (old c hc)) λu hu _=>?_;show EV c u hu
   show aL.mpr ⟨a1,aQ.mpr ⟨λm=>Wd N (.inr m) rfl,a2⟩,λu hu v hv e=>?_⟩;rcases ag.mp hv with hv|hv
   .show Wd u (.inl hu) (e.trans hv)
   .show a3 u hu v hv e
  .rw[h.yc];simp
  .show w.nd _ _ hz
 .change ∃ y',s'.m c=some y'/\y'.par=j/\(if c=N then 0 else d c)<(if j=N then 0 else d j)
  rcases h.inv j z hz with ⟨rfl,rfl⟩|⟨rfl,rfl⟩|⟨n1,n2,hz⟩
  .clear hz;rcases mem_mid hc with rfl|hc
   .rw[dN,dn P JE];show ⟨y,h.hmN,h.yp,li 0x11ffb748341a418120 rfl bO⟩
   .show bp (w.kid P x c h.hx (old c hc)) λu hu hp hd=>?_;show bp (h.ex w _ _ hu) λz' cC _ e=>?_;rw[dn c (EV _ _ hu),dn P JE];show ⟨z',cC,by rw[e,hp],hd⟩
  .rw[h.yc] at hc;show iF hc
  .show bp (w.kid j z c hz hc) λu hu hp hd=>?_;show bp (h.ex w _ _ hu) λz' cC _ e=>?_;rw[dn c (EV _ _ hu),dn j n2];show ⟨z',cC,by rw[e,hp],hd⟩
 .rw[h.hr] at hj;have go:∀ u,s.m j=some u->u.par=z.par->∃ y,s'.m z.par=some y/\j∈y.ch:=λu hu hp=>by
   show bj (w.top j u hu hj) λy0 ij i9=>?_;rw[hp] at ij;by_cases e:z.par=P
   .rw[e] at ij ⊢;rw[h.hx] at ij;cases ij;show ⟨_,h.hmP,?_⟩;rw[h.hc] at i9;show cY (ak.mp i9)
   .show ⟨y0,by rw[h.ho _ e (EV _ _ ij)];show ij,i9⟩
  clear hj;rcases h.inv j z hz with ⟨rfl,rfl⟩|⟨rfl,rfl⟩|⟨n1,n2,hz⟩
  .show go x h.hx rfl
  .rw[h.yp];show ⟨_,h.hmP,by simp⟩
  .show go z hz rfl
 .rw[h.hks,ak,aa,w.dom j];constructor
  .clear EV JE dN dn;rintro (⟨z,hz⟩|rfl)
   .show bj (h.ex w j z hz) λz' cC _=>?_;show ⟨z',cC⟩
   .show ⟨y,h.hmN⟩
  .rintro ⟨z,hz⟩;rcases h.inv j z hz with ⟨rfl,rfl⟩|⟨rfl,rfl⟩|⟨n1,n2,hz⟩
   .show .inl ⟨x,h.hx⟩
   .show .inr rfl
   .show .inl ⟨z,hz⟩
 .rw[h.hks];show aL.mpr ⟨w.knd,J9,λu hu v hv e=>?_⟩;rw[aa.mp hv] at e;show h.hN (e▸hu)
 .rw[h.hks,aB];simp;show li 0x11ffb743c03a510110 rfl hlen
 .rcases h.inv j z hz with ⟨rfl,rfl⟩|⟨rfl,rfl⟩|⟨n1,n2,hz⟩
  .clear hz;rcases mem_mid hc with rfl|hc
   .rw[h.hmN] at vq;cases vq;show absurd (hs.symm.trans h.ys) h.hs
   .show bp (w.kid P x c h.hx (old c hc)) λu hu hp hd=>?_;show bp (h.ex w _ _ hu) λz' cC e _=>?_;rw[cC] at vq;clear cC;cases vq;show T.st P x c u h.hx (old c hc) hu (e.symm.trans hs)
  .rw[h.yc] at hc;show iF hc
  .show bp (w.kid j z c hz hc) λu hu hp hd=>?_;show bp (h.ex w _ _ hu) λz' cC e _=>?_;rw[cC] at vq;clear cC;cases vq;show T.st j z c u hz hc hu (e.symm.trans hs)
theorem KC(w:WF0 s d)(h:uw s s' P N x y l1 l2)(G:Gm s){a:Int}(ha:al x.sort=a)(hg:∀ b j,j≠N->s'.g b j=s.g b j)(Ak:∀ b,b=0\/b=1->lst b<=s'.g b N)(Qx:∀ b,(b=0\/b=1)->b≠a->s'.g b N=s.g b P) :
  ∀ b j,(b=0\/b=1)->(∃ z,s'.m j=some z)->b≠a\/j≠P->AxL s' b (s'.g b) j:=by
 clear s s' d P N x y l1 l2 a _ w h G ha hg Ak Qx;have EV:∀ j z,s.m j=some z->j≠N:=λj z hz e=>h.hN (e▸(w.dom j).mpr ⟨z,hz⟩);intro b j hb _ cV;show AxL.of λz hz=>?_;rcases h.inv j z hz with ⟨rfl,rfl⟩|⟨rfl,rfl⟩|⟨n1,n2,hz⟩
 .have EY:b≠a:=cV.resolve_right λe=>e rfl;have hA:=(G.ax b P hb ⟨x,h.hx⟩).w h.hx;show ⟨λhs=>absurd hs h.hs,λ_ e=>absurd (ha.symm.trans e).symm EY,λh1 h2 c hc=>?_⟩;rw[hg b P (EV _ _ h.hx)];clear Ak hz;rcases mem_mid hc with rfl|hc
  .show Qx b hb EY
  .have ig:c∈x.ch:=by rw[h.hc];show ak.mpr hc
   show bj (w.kid P x c h.hx ig) λu hu _=>?_;rw[hg b c (EV _ _ hu)];show hA.ac h1 h2 c ig
 .show ⟨λ_=>Ak b hb,λe=>absurd h.ys e,λe=>absurd h.ys e⟩
 .show ((G.ax b j hb ⟨z,hz⟩).w hz).congr (hg b j n2) λc hc=>by
   show bj (w.kid j z c hz hc) λu hu _=>?_;show hg b c (EV _ _ hu)
theorem KD(w:WF0 s d)(h:uw s s' P N x y l1 l2)(j:Int):(∃ z,s'.m j=some z/\z.sort=0)↔j=N\/∃ z,s.m j=some z/\z.sort=0:=by
 clear s s' d P N x y l1 l2 j _ w h;constructor
 .rintro ⟨z,hz,hs⟩;rcases h.inv j z hz with ⟨rfl,rfl⟩|⟨rfl,rfl⟩|⟨n1,n2,hz⟩
  .show absurd hs h.hs
  .show .inl rfl
  .show .inr ⟨z,hz,hs⟩
 .rintro (rfl|⟨z,hz,hs⟩)
  .show ⟨y,h.hmN,h.ys⟩
  .show bp (h.ex w j z hz) λz' cC e _=>?_;show ⟨z',cC,by rw[e];show hs⟩
structure jZ (s s':S) (P c:Int) (x xc:W) (l1 l2:List Int):Prop where
 hx:s.m P=some x
 hch:x.ch=l1++c::l2
 hc:s.m c=some xc
 hs:xc.sort=x.sort
 hmP:s'.m P=some { x with ch:=l1++(xc.ch++l2) }
 hmc:s'.m c=none
 hmi:∀ i∈xc.ch,∀ z,s.m i=some z->s'.m i=some { z with par:=P }
 ho:∀ j,j≠P->j≠c->j∉xc.ch->s'.m j=s.m j
 hr:s'.root=s.root
 hks:∀ j,j∈s'.ks↔j∈s.ks/\j≠c
 hkn:s'.ks.Nodup
 hkl:s'.ks.length<=1000
 hla:s'.last=s.last
theorem jZ.inv(h:jZ s s' P c x xc l1 l2)(w:WF0 s d):∀ j z,s'.m j=some z->(P=j/\{ x with ch:=l1++(xc.ch++l2) }=z)\/(j∈xc.ch/\∃ u,s.m j=some u/\{ u with par:=P }=z)\/(j≠P/\j≠c/\j∉xc.ch/\s.m j=some z):=by
 intro j z hz;clear s s' d P c x xc l1 l2 j z _ h w hz;by_cases e1:j=P
 .subst e1;rw[h.hmP] at hz;cases hz;show .inl ⟨rfl,rfl⟩
 .by_cases e2:j∈xc.ch
  .show bj (w.kid c xc j h.hc e2) λu hu _=>?_;rw[h.hmi j e2 u hu] at hz;cases hz;show .inr (.inl ⟨e2,u,hu,rfl⟩)
  .by_cases e3:j=c
   .rw[e3,h.hmc] at hz;show cz hz
   .rw[h.ho j e1 e3 e2] at hz;show .inr (.inr ⟨e1,e3,e2,hz⟩)
theorem jZ.ex(h:jZ s s' P c x xc l1 l2)(w:WF0 s d):∀ j z,s.m j=some z->j≠c->∃ z',s'.m j=some z'/\z'.sort=z.sort/\(j∉xc.ch->z'.par=z.par)/\(j∈xc.ch->z'.par=P):=by
 intro j z hz F6;clear s s' d P c x xc l1 l2 j z _ h w hz F6;have ZF:P∉xc.ch:=λm=>by
  show bp (w.kid c xc P h.hc m) λ_ _ _ h1=>?_;show bp (w.kid P x c h.hx (by rw[h.hch];show j4)) λ_ _ _ h2=>?_;show li 0x47fedda8348107a418120 rfl h1 h2
 by_cases e1:j=P
 .subst e1;rw[h.hx] at hz;cases hz;show ⟨_,h.hmP,rfl,λ_=>rfl,λe=>absurd e ZF⟩
 .by_cases e2:j∈xc.ch
  .show ⟨_,h.hmi j e2 z hz,rfl,λe=>absurd e2 e,λ_=>rfl⟩
  .show ⟨z,by rw[h.ho j e1 F6 e2];show hz,rfl,λ_=>rfl,λe=>absurd e e2⟩
theorem Dr(T:Tr s d P c)(h2:∀ k x,s.m k=some x->x.sort≠0->2<=x.ch.length)(h:jZ s s' P c x xc l1 l2):Tr s' d 0 0:=by
 clear s s' d P c x xc l1 l2 _ T h2 h;have w:=T.w;have inv:=h.inv w;have ex:=h.ex w;have ig:c∈x.ch:=by rw[h.hch];show j4
 have dA:=w.nd P x h.hx;rw[h.hch] at dA;have jW:x.sort≠0:=w.sort_of h.hx ig;have FP:xc.sort≠0:=by rw[h.hs];show jW
 obtain ⟨Wx,_⟩:d c<d P/\True:=by
  show bp (w.kid P x c h.hx ig) λ_ _ _ h1=>?_;show ⟨h1,trivial⟩
 have Ie:∀ i∈xc.ch,i≠c/\i≠P/\d i<d c:=λi m=>by
  show bp (w.kid c xc i h.hc m) λ_ _ _ h1=>?_;show ⟨λe=>by rw[e] at h1;show li 0x7fed41a408110 rfl h1,λe=>by rw[e] at h1;show li 0x47fedda8348107a418120 rfl Wx h1,h1⟩
 have Ul:∀ j z i,s.m j=some z->i∈z.ch->i∈xc.ch->j=c:=λj z i hz m1 m2=>by
  show bp (w.kid j z i hz m1) λu hu hp _=>?_;show hp.symm.trans (w.kid_par h.hc m2 hu)
 have QM:∀ j z,s.m j=some z->c∈z.ch->j=P:=λj z hz m=>by
  show bp (w.kid j z c hz m) λu hu hp _=>?_;show hp.symm.trans (w.kid_par h.hx ig hu)
 have old:∀ i,i∈l1\/i∈l2->i∈x.ch/\i≠c/\i∉xc.ch:=λi hi=>by
  have wI:i∈x.ch:=by rw[h.hch];show cY hi
  show ⟨wI,m9 dA hi,λm=>?_⟩;have e:=Ul P x i h.hx wI m;show w.kid_ne h.hx ig e.symm
 have Ph:∀ i,i∈l1++(xc.ch++l2)->i∈xc.ch\/(i∈l1\/i∈l2):=λi hi=>by
  rcases ak.mp hi with hi|hi
  .show .inr (.inl hi)
  .rcases ak.mp hi with hi|hi
   .show .inl hi
   .show .inr (.inr hi)
 show ⟨⟨?_,λj z hz=>?_,λj z hz=>?_,λj z hz hs=>?_,λj z hz=>?_,λj z i hz hi=>?_,λj z hz hj=>?_,λj=>?_,h.hkn,h.hkl⟩,λj z i zi hz hi sA hs=>?_,λj z hz hs _=>?_⟩
 .rw[h.hr];show bj w.root λxr dZ hp=>?_;have hrc:s.root≠c:=λe=>by
   rw[e] at dZ;have h1:=w.kid_par h.hx ig dZ;rw[hp] at h1;have:=w.key P x h.hx;show li 0x443fedda835e50403300419c02002 rfl h1 this
  have hri:s.root∉xc.ch:=λm=>by
   have h1:=w.kid_par h.hc m dZ;rw[hp] at h1;have:=w.key c xc h.hc;show li 0x443fedda835e50403300419c02002 rfl h1 this
  show oS (ex _ _ dZ hrc) λz hz _ e _=>?_;show ⟨z,hz,by rw[e hri,hp]⟩
 .rw[h.hla];rcases inv j z hz with ⟨rfl,rfl⟩|⟨_,u,hu,_⟩|⟨_,_,_,hz⟩
  .show w.key _ _ h.hx
  .show w.key _ _ hu
  .show w.key _ _ hz
 .rcases inv j z hz with ⟨rfl,rfl⟩|⟨_,u,hu,rfl⟩|⟨_,_,_,hz⟩
  .have:xc.ch≠[]:=λe=>FP ((w.lf c xc h.hc).mpr e);show ⟨λe=>absurd e jW,λe=>by simp[this] at e⟩
  .show w.lf j u hu
  .show w.lf _ _ hz
 .rcases inv j z hz with ⟨rfl,rfl⟩|⟨_,u,hu,rfl⟩|⟨_,_,_,hz⟩
  .show w.srt P x h.hx hs
  .show w.srt j u hu hs
  .show w.srt _ _ hz hs
 .rcases inv j z hz with ⟨rfl,rfl⟩|⟨_,u,hu,rfl⟩|⟨_,_,_,hz⟩
  .show mf (aL.mp dA) λa1 a2 a3=>?_;show oA (aQ.mp a2) λa4 a5=>?_;show aL.mpr ⟨a1,aL.mpr ⟨w.nd c xc h.hc,a5,λu hu v hv e=>?_⟩,λu hu v hv e=>?_⟩
   .show (old v (.inr hv)).2.2 (e▸hu)
   .rcases ak.mp hv with hv|hv
    .show (old u (.inl hu)).2.2 (e▸hv)
    .show a3 u hu v (.tail _ hv) e
  .show w.nd j u hu
  .show w.nd _ _ hz
 .rcases inv j z hz with ⟨rfl,rfl⟩|⟨hj,u,hu,rfl⟩|⟨n1,n2,n3,hz⟩
  .rcases Ph i hi with hi|hi
   .show bp (w.kid c xc i h.hc hi) λu hu hp hd=>?_;show oS (ex i u hu (Ie i hi).1) λz' cC _ _ e=>?_;show ⟨z',cC,e hi,li 0x111ffb76e906174810ba418130 rfl Wx hd⟩
   .show mf (old i hi) λo1 o2 o3=>?_;show bp (w.kid P x i h.hx o1) λu hu hp hd=>?_;show oS (ex i u hu o2) λz' cC _ e _=>?_;show ⟨z',cC,by rw[e o3,hp],hd⟩
  .show bp (w.kid j u i hu hi) λv hv hp hd=>?_;have FZ:i≠c:=λe=>(Ie j hj).2.1 (QM j u hu (e▸hi));have qX:i∉xc.ch:=λm=>(Ie j hj).1 (Ul j u i hu hi m);show oS (ex i v hv FZ) λz' cC _ e _=>?_;show ⟨z',cC,by rw[e qX,hp],hd⟩
  .show bp (w.kid j z i hz hi) λv hv hp hd=>?_;have FZ:i≠c:=λe=>n1 (QM j z hz (e▸hi));have qX:i∉xc.ch:=λm=>n2 (Ul j z i hz hi m);show oS (ex i v hv FZ) λz' cC _ e _=>?_;show ⟨z',cC,by rw[e qX,hp],hd⟩
 .rw[h.hr] at hj;have go:∀ u,s.m j=some u->j≠c->j∉xc.ch->u.par=z.par->∃ y,s'.m z.par=some y/\j∈y.ch:=λu hu F6 ZY hp=>by
   show bj (w.top j u hu hj) λy0 ij i9=>?_;rw[hp] at ij;have Uk:z.par≠c:=λe=>by
    rw[e,h.hc] at ij;cases ij;show ZY i9
   by_cases e:z.par=P
   .rw[e] at ij ⊢;rw[h.hx] at ij;cases ij;show ⟨_,h.hmP,?_⟩;rw[h.hch] at i9;rcases mem_mid i9 with e|e
    .show absurd e F6
    .change j∈l1++(xc.ch++l2)
     rcases e with e|e
     .show aM _ e
     .show bG _ (bG _ e)
   .by_cases e2:z.par∈xc.ch
    .show ⟨_,h.hmi _ e2 y0 ij,i9⟩
    .show ⟨y0,by rw[h.ho _ e Uk e2];show ij,i9⟩
  clear hj;rcases inv j z hz with ⟨rfl,rfl⟩|⟨jj,u,hu,rfl⟩|⟨n1,n2,n3,hz⟩
  .show go x h.hx (λe=>?_) (λm=>?_) rfl
   .show w.kid_ne h.hx ig e.symm
   .show (Ie _ m).2.1 rfl
  .show ⟨_,h.hmP,by
    change j∈l1++(xc.ch++l2)
    show bG _ (aM _ jj)⟩
  .show go z hz n2 n3 rfl
 .rw[h.hks,w.dom j];constructor
  .rintro ⟨⟨z,hz⟩,F6⟩;show bj (ex j z hz F6) λz' cC _=>?_;show ⟨z',cC⟩
  .rintro ⟨z,hz⟩;rcases inv j z hz with ⟨rfl,rfl⟩|⟨jj,u,hu,rfl⟩|⟨n1,n2,n3,hz⟩
   .show ⟨⟨x,h.hx⟩,λe=>w.kid_ne h.hx ig e.symm⟩
   .show ⟨⟨u,hu⟩,(Ie j jj).1⟩
   .show ⟨⟨z,hz⟩,n2⟩
 .rcases inv j z hz with ⟨rfl,rfl⟩|⟨jj,u,hu,rfl⟩|⟨n1,n2,n3,hz⟩
  .rcases Ph i hi with hi|hi
   .show bp (w.kid c xc i h.hc hi) λu hu hp hd=>?_;show bp (ex i u hu (Ie i hi).1) λz' cC e _=>?_;rw[cC] at sA;clear cC;cases sA;have:=(T.st c xc i u h.hc hi hu (by rw[h.hs,<-e];show hs)).1;show absurd this (w.kid_ne h.hx ig)
   .show mf (old i hi) λo1 o2 o3=>?_;show bp (w.kid P x i h.hx o1) λu hu hp hd=>?_;show bp (ex i u hu o2) λz' cC e _=>?_;rw[cC] at sA;clear cC;cases sA;show absurd (T.st P x i u h.hx o1 hu (by rw[<-e];show hs)).2 o2
  .show bp (w.kid j u i hu hi) λv hv hp hd=>?_;have FZ:i≠c:=λe=>(Ie j jj).2.1 (QM j u hu (e▸hi));show bp (ex i v hv FZ) λz' cC e _=>?_;rw[cC] at sA;clear cC;cases sA;show absurd (T.st j u i v hu hi hv (by rw[<-e];show hs)).1 (Ie j jj).2.1
  .show bp (w.kid j z i hz hi) λv hv hp hd=>?_;have FZ:i≠c:=λe=>n1 (QM j z hz (e▸hi));show bp (ex i v hv FZ) λz' cC e _=>?_;rw[cC] at sA;clear cC;cases sA;show absurd (T.st j z i v hz hi hv (by rw[<-e];show hs)).1 n1
 .rcases inv j z hz with ⟨rfl,rfl⟩|⟨jj,u,hu,rfl⟩|⟨n1,n2,n3,hz⟩
  .have:=h2 c xc h.hc FP;change 2<=(l1++(xc.ch++l2)).length;simp;show li 0x11ffb7460c01408347a00a330 rfl this
  .show h2 j u hu hs
  .show h2 j z hz hs
theorem Dp(w:WF0 s d)(h:jZ s s' P c x xc l1 l2)(G:Gm s)(hg:s'.g=s.g):Gm s':=by
 clear s s' d P c x xc l1 l2 _ w h G hg;have ig:c∈x.ch:=by rw[h.hch];show j4
 have jW:x.sort≠0:=w.sort_of h.hx ig;show ⟨λb j hb _=>AxL.of λz hz=>?_,λb hb=>by rw[h.hr,hg];show G.bd b hb⟩;rw[hg];rcases h.inv w j z hz with ⟨rfl,rfl⟩|⟨jj,u,hu,rfl⟩|⟨n1,n2,n3,hz⟩
 .have hA:=(G.ax b P hb ⟨x,h.hx⟩).w h.hx;have hB:=(G.ax b c hb ⟨xc,h.hc⟩).w h.hc;show ⟨λe=>absurd e jW,λh1 h2=>?_,λh1 h2 i hi=>?_⟩
  .rw[<-hA.al h1 h2,h.hch];have dY:=hB.al (by rw[h.hs];show jW) (by rw[h.hs];show h2);change aI ((l1++(xc.ch++l2)).map _)=_;rw[aD,aD,aD,aq,bz,bz,bz,bc,dY]
  .have iO:=hA.ac h1 h2 c ig;have hi:i∈l1++(xc.ch++l2):=hi;rcases ak.mp hi with hi|hi
   .show hA.ac h1 h2 i (by rw[h.hch];show cY (.inl hi))
   .rcases ak.mp hi with hi|hi
    .rw[hB.ac (by rw[h.hs];show jW) (by rw[h.hs];show h2) i hi];show iO
    .show hA.ac h1 h2 i (by rw[h.hch];show cY (.inr hi))
 .have hA:=(G.ax b j hb ⟨u,hu⟩).w hu;show ⟨hA.lf,hA.al,hA.ac⟩
 .show (G.ax b j hb ⟨z,hz⟩).w hz
theorem Dq(w:WF0 s d)(h:jZ s s' P c x xc l1 l2)(j:Int):(∃ z,s'.m j=some z/\z.sort=0)↔∃ z,s.m j=some z/\z.sort=0:=by
 clear s s' d P c x xc l1 l2 j _ w h;have ig:c∈x.ch:=by rw[h.hch];show j4
 have jW:x.sort≠0:=w.sort_of h.hx ig;constructor
 .rintro ⟨z,hz,hs⟩;rcases h.inv w j z hz with ⟨rfl,rfl⟩|⟨jj,u,hu,rfl⟩|⟨n1,n2,n3,hz⟩
  .show absurd hs jW
  .show ⟨u,hu,hs⟩
  .show ⟨z,hz,hs⟩
 .rintro ⟨z,hz,hs⟩
  show bp (h.ex w j z hz λe=>by
   rw[e,h.hc] at hz;cases hz
   show jW (by rw[<-h.hs];show hs)) λz' cC e _=>?_
  show ⟨z',cC,by rw[e];show hs⟩
end
section
variable {s s':S} {d:Int->Nat} {k P K G N c l:Int} {x y xc xl:W} {l1 l2:List Int}
structure rg (s s':S) (P k:Int) (x:W) (l1 l2:List Int):Prop where
 hx:s.m P=some x
 hch:x.ch=l1++k::l2
 hmP:s'.m P=some { x with ch:=l1++l2 }
 hgone:∀ j∈pre (aA s) k,s'.m j=none
 ho:∀ j,j≠P->j∉pre (aA s) k->s'.m j=s.m j
 hr:s'.root=s.root
 hks:∀ j,j∈s'.ks↔j∈s.ks/\j∉pre (aA s) k
 hkn:s'.ks.Nodup
 hkl:s'.ks.length<=1000
 hla:s'.last=s.last
theorem rg.inv(h:rg s s' P k x l1 l2):∀ j z,s'.m j=some z->j∉pre (aA s) k/\((P=j/\{ x with ch:=l1++l2 }=z)\/(j≠P/\s.m j=some z)):=by
 intro j z hz;clear s s' k P x l1 l2 j z _ h hz;have hp:j∉pre (aA s) k:=λm=>by rw[h.hgone j m] at hz;show cz hz
 show ⟨hp,?_⟩;by_cases e1:j=P
 .subst e1;rw[h.hmP] at hz;cases hz;show .inl ⟨rfl,rfl⟩
 .rw[h.ho j e1 hp] at hz;show .inr ⟨e1,hz⟩
theorem rg.ex(h:rg s s' P k x l1 l2):∀ j z,s.m j=some z->j∉pre (aA s) k->∃ z',s'.m j=some z'/\z'.sort=z.sort/\z'.par=z.par:=λj z hz hp=>by
 by_cases e1:j=P
 .subst e1;rw[h.hx] at hz;cases hz;show ⟨_,h.hmP,rfl,rfl⟩
 .show ⟨z,by rw[h.ho j e1 hp];show hz,rfl,rfl⟩
theorem rg.facts(w:WF0 s d)(h:rg s s' P k x l1 l2):P∉pre (aA s) k/\s.root∉pre (aA s) k/\(∀ i,i∈l1\/i∈l2->i∈x.ch/\i∉pre (aA s) k)/\∀ j z i,j≠P->j∉pre (aA s) k->s.m j=some z->i∈z.ch->i∉pre (aA s) k:=by
 have MF:k∈x.ch:=by rw[h.hch];show j4
 have G9:k∈aA s P:=by rw[aF h.hx];show MF
 have hP:=cA w.rk G9;show bp (w.kid P x k h.hx MF) λxk OU Kd _=>?_;have dA:=w.nd P x h.hx;rw[h.hch] at dA;show ⟨hP,λm=>?_,λi hi=>?_,λj z i hj m6 hz hi m=>?_⟩
 .rcases kO w.rk k m with e|e
  .have q1:=(w.par_root OU).mpr e.symm;have q2:=w.key P x h.hx;show li 0x40443feddbb506bca1016604833a0019c10003 rfl Kd q1 q2
  .rcases kO w.rk s.root (w.all ⟨xk,OU⟩) with e'|e'
   .rw[e'] at e;show li 0x7fed41a408110 rfl e
   .show li 0x47fedda8348107a418120 rfl e e'
 .have wI:i∈x.ch:=by rw[h.hch];show cY hi
  show ⟨wI,λm=>?_⟩;show m9 dA hi (w.fo.edge (by rw[aF h.hx];show wI) hP m)
 .have e:=w.fo.edge (by rw[aF hz];show hi) m6 m;rw[e] at hi;have:=w.kid_par hz hi OU;show hj (this.symm.trans Kd)
theorem Ju(T:Tr s d 0 0)(h:rg s s' P k x l1 l2):Tr s' d P 0:=by
 clear s s' d k P x l1 l2 _ T h;have w:=T.w;show gM (h.facts w) λhP iP old oth=>?_;have MF:k∈x.ch:=by rw[h.hch];show j4
 have jW:=w.sort_of h.hx MF;have qh:=T.len2 h.hx jW;have cV:l1++l2≠[]:=λe=>by
  show oA (List.append_eq_nil_iff.mp e) λe1 e2=>?_;rw[h.hch,e1,e2] at qh;simp at qh
 show ⟨⟨?_,λj z hz=>?_,λj z hz=>?_,λj z hz hs=>?_,λj z hz=>?_,λj z i hz hi=>?_,λj z hz hj=>?_,λj=>?_,h.hkn,h.hkl⟩,λj z i zi hz hi sA hs=>?_,λj z hz hs hj=>?_⟩
 .rw[h.hr];show bj w.root λxr dZ hp=>?_;show bp (h.ex _ _ dZ iP) λz hz _ e=>?_;show ⟨z,hz,by rw[e,hp]⟩
 .rw[h.hla];(show oA (h.inv j z hz) λm6 aG=>?_;clear hz m6;obtain ⟨rfl,rfl⟩|⟨n1,hz⟩:=aG)
  .show w.key _ _ h.hx
  .show w.key _ _ hz
 ·(show oA (h.inv j z hz) λm6 aG=>?_;clear hz m6;obtain ⟨rfl,rfl⟩|⟨n1,hz⟩:=aG)
  .show ⟨λe=>absurd e jW,λe=>absurd e cV⟩
  .show w.lf _ _ hz
 ·(show oA (h.inv j z hz) λm6 aG=>?_;clear hz m6;obtain ⟨rfl,rfl⟩|⟨n1,hz⟩:=aG)
  .show w.srt P x h.hx hs
  .show w.srt _ _ hz hs
 ·(show oA (h.inv j z hz) λm6 aG=>?_;clear hz m6;obtain ⟨rfl,rfl⟩|⟨n1,hz⟩:=aG)
  .have:=w.nd P x h.hx;rw[h.hch] at this;show d4 (eL (fO _ _) _) this
  .show w.nd _ _ hz
 ·(show oA (h.inv j z hz) λm6 aG=>?_;clear hz;obtain ⟨rfl,rfl⟩|⟨n1,hz⟩:=aG)
  .show oA (old i (ak.mp hi)) λo1 o2=>?_;show bp (w.kid P x i h.hx o1) λu hu hp hd=>?_;show bp (h.ex i u hu o2) λz' cC _ e=>?_;show ⟨z',cC,by rw[e,hp],hd⟩
  .show bp (w.kid j z i hz hi) λu hu hp hd=>?_;show bp (h.ex i u hu (oth j z i n1 m6 hz hi)) λz' cC _ e=>?_;show ⟨z',cC,by rw[e,hp],hd⟩
 .rw[h.hr] at hj;show oA (h.inv j z hz) λm6 hh=>?_;have go:∀ u,s.m j=some u->u.par=z.par->∃ y,s'.m z.par=some y/\j∈y.ch:=λu hu hp=>by
   show bj (w.top j u hu hj) λy0 ij i9=>?_;rw[hp] at ij;have hq:z.par∉pre (aA s) k:=λm=>m6 (tL w.rk m (by rw[aF ij];show i9));by_cases e:z.par=P
   .rw[e] at ij ⊢;rw[h.hx] at ij;cases ij;show ⟨_,h.hmP,?_⟩;rw[h.hch] at i9;show ak.mpr ((mem_mid i9).resolve_left λe=>m6 (e▸bS w.rk k))
   .show ⟨y0,by rw[h.ho _ e hq];show ij,i9⟩
  clear hz hj m6;rcases hh with ⟨rfl,rfl⟩|⟨n1,hz⟩
  .show go x h.hx rfl
  .show go z hz rfl
 .rw[h.hks,w.dom j];constructor
  .rintro ⟨⟨z,hz⟩,hp⟩;show bj (h.ex j z hz hp) λz' cC _=>?_;show ⟨z',cC⟩
  .rintro ⟨z,hz⟩;(show oA (h.inv j z hz) λm6 aG=>?_;clear hz;obtain ⟨rfl,rfl⟩|⟨n1,hz⟩:=aG)
   .show ⟨⟨x,h.hx⟩,m6⟩
   .show ⟨⟨z,hz⟩,m6⟩
 ·(show oA (h.inv j z hz) λm6 aG=>?_;clear hz;obtain ⟨rfl,rfl⟩|⟨n1,hz⟩:=aG)
  .show oA (old i (ak.mp hi)) λo1 o2=>?_;show bp (w.kid P x i h.hx o1) λu hu hp hd=>?_;show bp (h.ex i u hu o2) λz' cC e _=>?_;rw[cC] at sA;clear cC;cases sA;show absurd (e.symm.trans hs) (T.no (j:=P) (z:=x) h.hx o1 hu)
  .show bp (w.kid j z i hz hi) λu hu hp hd=>?_;show bp (h.ex i u hu (oth j z i n1 m6 hz hi)) λz' cC e _=>?_;rw[cC] at sA;clear cC;cases sA;show absurd (e.symm.trans hs) (T.no hz hi hu)
 ·(show oA (h.inv j z hz) λm6 aG=>?_;clear hz m6;obtain ⟨rfl,rfl⟩|⟨n1,hz⟩:=aG)
  .show absurd rfl hj
  .show T.len2 hz hs
theorem Js(w:WF0 s d)(h:rg s s' P k x l1 l2)(G:Gm s){a:Int}(ha:al x.sort=a)(hg:s'.g=s.g) :
  ∀ b j,(b=0\/b=1)->(∃ z,s'.m j=some z)->b≠a\/j≠P->AxL s' b (s'.g b) j:=by
 have MF:k∈x.ch:=by rw[h.hch];show j4
 have jW:=w.sort_of h.hx MF;intro b j hb _ cV;rw[hg];show AxL.of λz hz=>?_;(show oA (h.inv j z hz) λm6 aG=>?_;clear hz m6;obtain ⟨rfl,rfl⟩|⟨n1,hz⟩:=aG)
 .have EY:b≠a:=cV.resolve_right λe=>e rfl;have hA:=(G.ax b P hb ⟨x,h.hx⟩).w h.hx;show ⟨λhs=>absurd hs jW,λ_ e=>absurd (ha.symm.trans e).symm EY,λh1 h2 c hc=>?_⟩;show hA.ac h1 h2 c (by rw[h.hch];show cY (ak.mp hc))
 .show (G.ax b j hb ⟨z,hz⟩).w hz
theorem Jt(w:WF0 s d)(h:rg s s' P k x l1 l2)(j:Int):(∃ z,s'.m j=some z/\z.sort=0)↔(∃ z,s.m j=some z/\z.sort=0)/\j∉pre (aA s) k:=by
 clear s s' d k P x l1 l2 j _ w h;constructor
 .rintro ⟨z,hz,hs⟩;(show oA (h.inv j z hz) λm6 aG=>?_;clear hz;obtain ⟨rfl,rfl⟩|⟨n1,hz⟩:=aG)
  .show ⟨⟨x,h.hx,hs⟩,m6⟩
  .show ⟨⟨z,hz,hs⟩,m6⟩
 .rintro ⟨⟨z,hz,hs⟩,hp⟩;show bp (h.ex j z hz hp) λz' cC e _=>?_;show ⟨z',cC,by rw[e];show hs⟩
structure jY (s s':S) (P l:Int) (x xl:W):Prop where
 hx:s.m P=some x
 hch:x.ch=[l]
 hl:s.m l=some xl
 hmP:s'.m P=none
 hml:s'.m l=some { xl with par:=x.par }
 hG:∀ xG,x.par≠0->s.m x.par=some xG->∃ l1 l2,xG.ch=l1++P::l2/\s'.m x.par=some { xG with ch:=l1++l::l2 }
 ho:∀ j,j≠P->j≠l->(j≠x.par\/x.par=0)->s'.m j=s.m j
 hr:s'.root=if x.par=0 then l else s.root
 hks:∀ j,j∈s'.ks↔j∈s.ks/\j≠P
 hkn:s'.ks.Nodup
 hkl:s'.ks.length<=1000
 hla:s'.last=s.last
theorem jY.up(w:WF0 s d)(h:jY s s' P l x xl):d l<d P/\xl.par=P/\(x.par≠0->∃ xG,s.m x.par=some xG/\P∈xG.ch/\d P<d x.par):=by
 clear s s' d P l x xl _ w h;show bp (w.kid P x l h.hx (by rw[h.hch];show .head _)) λu hu hp hd=>?_;rw[h.hl] at hu;cases hu;show ⟨hd,hp,λh0=>?_⟩;show bj (w.top P x h.hx λe=>h0 ((w.par_root h.hx).mpr e)) λz hz hc=>?_;show bp (w.kid _ z P hz hc) λ_ _ _ hd2=>?_;show ⟨z,hz,hc,hd2⟩
theorem jY.inv(w:WF0 s d)(h:jY s s' P l x xl):∀ j z,s'.m j=some z->(l=j/\{ xl with par:=x.par }=z)\/(x.par=j/\x.par≠0/\∃ xG l1 l2,s.m x.par=some xG/\xG.ch=l1++P::l2/\s'.m x.par=some { xG with ch:=l1++l::l2 }/\{ xG with ch:=l1++l::l2 }=z)\/(j≠P/\j≠l/\(j≠x.par\/x.par=0)/\s.m j=some z):=by
 intro j z hz;clear s s' d P l x xl j z _ w h hz;show mf (h.up w) λFV QI tw=>?_;by_cases e1:j=l
 .clear FV;subst e1;rw[h.hml] at hz;cases hz;show .inl ⟨rfl,rfl⟩
 .by_cases e2:j=P
  .rw[e2,h.hmP] at hz;show cz hz
  .by_cases e3:j=x.par/\x.par≠0
   .show bj (tw e3.2) λxG de _=>?_;show jQ (h.hG xG e3.2 de) λl1 l2 hc hm=>?_;have cC:=hz;rw[e3.1,hm] at cC;clear hz;cases cC;show .inr (.inl ⟨e3.1.symm,e3.2,xG,l1,l2,de,hc,hm,rfl⟩)
   .have Nh:j≠x.par\/x.par=0:=li 0x40004400400044004404040407fedd99d002de0806ed7bd002ce0802002 rfl e3;rw[h.ho j e2 e1 Nh] at hz;show .inr (.inr ⟨e2,e1,Nh,hz⟩)
theorem jY.ex(w:WF0 s d)(h:jY s s' P l x xl):∀ j z,s.m j=some z->j≠P->∃ z',s'.m j=some z'/\z'.sort=z.sort/\(j≠l->z'.par=z.par):=λj z hz Au=>by
 by_cases e1:j=l
 .subst e1;rw[h.hl] at hz;cases hz;show ⟨_,h.hml,rfl,λe=>absurd rfl e⟩
 .by_cases e3:j=x.par/\x.par≠0
  .show oA e3 λe3 h0=>?_;rw[e3] at hz;show jQ (h.hG z h0 hz) λl1 l2 hc hm=>?_;show ⟨{ z with ch:=l1++l::l2 },by rw[e3];show hm,rfl,λ_=>rfl⟩
  .show ⟨z,by rw[h.ho j Au e1 (li 0x40004400400044004404040407fedd99d002de0806ed7bd002ce0802002 rfl e3)];show hz,rfl,λ_=>rfl⟩
theorem GI(T:Tr s d P 0)(h:jY s s' P l x xl):Tr s' d x.par l/\∀ k x,s'.m k=some x->x.sort≠0->2<=x.ch.length:=by
 clear s s' d P l x xl _ T h;have w:=T.w;show mf (h.up w) λFV QI tw=>?_;have inv:=h.inv w;have ex:=h.ex w;have qi:l∈x.ch:=by rw[h.hch];show .head _
 have Ke:l≠P:=w.kid_ne h.hx qi;have no:∀ j z i zi,s.m j=some z->i∈z.ch->s.m i=some zi->zi.sort≠z.sort:=λj z i zi h1 h2 h3 h4=>by
  have q1:=(T.st j z i zi h1 h2 h3 h4).2;have q2:=w.key i zi h3;show li 0x407fedda835e50403300419d00002 rfl q1 q2
 have PE:∀ j z,s.m j=some z->P∈z.ch->j=x.par:=λj z hz m=>(w.kid_par hz m h.hx).symm;have GR:∀ j z,s.m j=some z->l∈z.ch->j=P:=λj z hz m=>(w.kid_par hz m h.hl).symm.trans QI;have vz:∀ k x,s'.m k=some x->x.sort≠0->2<=x.ch.length:=λj z hz hs=>by
  rcases inv j z hz with ⟨rfl,rfl⟩|⟨rfl,h0,xG,l1,l2,de,hc,hm,rfl⟩|⟨n1,n2,n3,hz⟩
  .show T.l2 l xl h.hl hs Ke
  .show bp (tw h0) λ_ _ _ hd=>?_;have:=T.l2 _ xG de hs λe=>by rw[e] at hd;show li 0x7fed41a408110 rfl hd
   rw[hc] at this;simpa using this
  .show T.l2 j z hz hs n1
 show ⟨⟨⟨?_,λj z hz=>?_,λj z hz=>?_,λj z hz hs=>?_,λj z hz=>?_,λj z i hz hi=>?_,λj z hz hj=>?_,λj=>?_,h.hkn,h.hkl⟩,λj z i zi hz hi sA hs=>?_,λj z hz hs _=>vz j z hz hs⟩,vz⟩
 .by_cases h0:x.par=0
  .rw[h.hr,if_pos h0];show ⟨_,h.hml,h0⟩
  .rw[h.hr,if_neg h0];show bj w.root λxr dZ hp=>?_;have n1:s.root≠P:=λe=>h0 ((w.par_root h.hx).mpr e.symm);have n2:s.root≠l:=λe=>by
    have q1:=(w.par_root h.hl).mpr e.symm;have q2:=w.key P x h.hx;show li 0x40443feddbb506bca1016604833a0019c10003 rfl QI q1 q2
   show bp (ex _ _ dZ n1) λz hz _ e=>?_;show ⟨z,hz,by rw[e n2,hp]⟩
 .rw[h.hla];rcases inv j z hz with ⟨rfl,rfl⟩|⟨rfl,h0,xG,l1,l2,de,_⟩|⟨n1,n2,n3,hz⟩
  .show w.key _ _ h.hl
  .show w.key _ _ de
  .show w.key _ _ hz
 .rcases inv j z hz with ⟨rfl,rfl⟩|⟨rfl,h0,xG,l1,l2,de,hc,hm,rfl⟩|⟨n1,n2,n3,hz⟩
  .show w.lf l xl h.hl
  .have:xG.sort≠0:=w.sort_of de (c:=P) (by rw[hc];show j4);show ⟨λe=>absurd e this,λe=>by simp at e⟩
  .show w.lf _ _ hz
 .rcases inv j z hz with ⟨rfl,rfl⟩|⟨rfl,h0,xG,l1,l2,de,hc,hm,rfl⟩|⟨n1,n2,n3,hz⟩
  .show w.srt l xl h.hl hs
  .show w.srt _ xG de hs
  .show w.srt _ _ hz hs
 .rcases inv j z hz with ⟨rfl,rfl⟩|⟨rfl,h0,xG,l1,l2,de,hc,hm,rfl⟩|⟨n1,n2,n3,hz⟩
  .show w.nd l xl h.hl
  .have:=w.nd _ _ de;rw[hc] at this;show qE this λm=>?_;rw[<-hc] at m;have e:=GR _ _ de m;show bp (tw h0) λ_ _ _ hd=>?_;rw[e] at hd;show li 0x7fed41a408110 rfl hd
  .show w.nd _ _ hz
 .clear qi Ke;rcases inv j z hz with ⟨rfl,rfl⟩|⟨rfl,h0,xG,l1,l2,de,hc,hm,rfl⟩|⟨n1,n2,n3,hz⟩
  .show bp (w.kid l xl i h.hl hi) λu hu hp hd=>?_;have NZ:i≠P:=λe=>by rw[e] at hd;show li 0x47fedda8348107a418120 rfl FV hd
   show bp (ex i u hu NZ) λz' cC _ e=>?_;show ⟨z',cC,by rw[e (w.kid_ne h.hl hi),hp],hd⟩
  .show bp (tw h0) λ_ _ _ FU=>?_;have dA:=w.nd _ _ de;rw[hc] at dA;clear inv hm hz;rcases mem_mid hi with rfl|hi
   .show ⟨_,h.hml,rfl,li 0x111ffb76e906174810ba418130 rfl FU FV⟩
   .have wI:i∈xG.ch:=by rw[hc];show cY hi
    show bp (w.kid _ xG i de wI) λu hu hp hd=>?_;show bp (ex i u hu (m9 dA hi)) λz' cC _ e=>?_;have F5:i≠l:=λe=>by
     have e2:=GR _ _ de (e▸wI);rw[e2] at FU;show li 0x7fed41a408110 rfl FU
    show ⟨z',cC,by rw[e F5,hp],hd⟩
  .show bp (w.kid j z i hz hi) λu hu hp hd=>?_;have NZ:i≠P:=λe=>by
    have e2:=PE j z hz (e▸hi);rcases n3 with n3|n3
    .show n3 e2
    .rw[n3] at e2;have:=w.key j z hz;show li 0x407fedda835e50403300419d00002 rfl e2 this
   have F5:i≠l:=λe=>n1 (GR j z hz (e▸hi));show bp (ex i u hu NZ) λz' cC _ e=>?_;show ⟨z',cC,by rw[e F5,hp],hd⟩
 .rcases inv j z hz with ⟨rfl,rfl⟩|⟨rfl,h0,xG,l1,l2,de,hc,hm,rfl⟩|⟨n1,n2,n3,hz⟩
  .have h0:x.par≠0:=λe=>hj (by rw[h.hr,if_pos e]);show bj (tw h0) λxG de _=>?_;show jQ (h.hG xG h0 de) λl1 l2 hc hm=>?_;show ⟨_,hm,by simp⟩
  .rw[h.hr,if_neg h0] at hj;show bj (w.top _ _ de hj) λy0 ij i9=>?_;show bp (w.kid _ _ _ ij i9) λ_ _ _ bO=>?_;show bp (tw h0) λ_ _ _ FU=>?_;have e1:xG.par≠P:=λe=>by rw[e] at bO;show li 0x47fedda8348107a418120 rfl bO FU
   have e2:xG.par≠l:=λe=>by rw[e] at bO;show li 0x447feddbb50690a0f4810ba418130 rfl FV bO FU
   have e3:xG.par≠x.par:=λe=>by rw[e] at bO;show li 0x7fed41a408110 rfl bO
   show ⟨y0,by rw[h.ho _ e1 e2 (.inl e3)];show ij,i9⟩
  .have jj:j≠s.root:=by
    by_cases h0:x.par=0
    .rw[<-(w.par_root h.hx).mp h0];show n1
    .rw[h.hr,if_neg h0] at hj;show hj
   show bj (w.top _ _ hz jj) λy0 ij i9=>?_;have e1:z.par≠P:=λe=>by
    rw[e,h.hx] at ij;cases ij;rw[h.hch] at i9;show n2 (aa.mp i9)
   by_cases e2:z.par=l
   .rw[e2] at ij ⊢;rw[h.hl] at ij;cases ij;show ⟨_,h.hml,i9⟩
   .by_cases e3:z.par=x.par/\x.par≠0
    .show oA e3 λe3 h0=>?_;rw[e3] at ij ⊢;show jQ (h.hG y0 h0 ij) λl1 l2 hc hm=>?_;show ⟨_,hm,?_⟩;rw[hc] at i9;show (vC i9).resolve_left n1
    .show ⟨y0,by rw[h.ho _ e1 e2 (li 0x40004400400044004404040407fedd99d002de0806ed7bd002ce0802002 rfl e3)];show ij,i9⟩
 .rw[h.hks,w.dom j];constructor
  .rintro ⟨⟨z,hz⟩,hp⟩;show bj (ex j z hz hp) λz' cC _=>?_;show ⟨z',cC⟩
  .rintro ⟨z,hz⟩;rcases inv j z hz with ⟨rfl,rfl⟩|⟨rfl,h0,xG,l1,l2,de,hc,hm,rfl⟩|⟨n1,n2,n3,hz⟩
   .show ⟨⟨xl,h.hl⟩,Ke⟩
   .show bp (tw h0) λ_ _ _ FU=>?_;show ⟨⟨xG,de⟩,λe=>by rw[e] at FU;show li 0x7fed41a408110 rfl FU⟩
   .show ⟨⟨z,hz⟩,n1⟩
 .clear GR;rcases inv j z hz with ⟨rfl,rfl⟩|⟨rfl,h0,xG,l1,l2,de,hc,hm,rfl⟩|⟨n1,n2,n3,hz⟩
  .show bp (w.kid l xl i h.hl hi) λu hu hp hd=>?_;show bp (ex i u hu λe=>by rw[e] at hd;show li 0x47fedda8348107a418120 rfl FV hd) λz' cC e _=>?_;rw[cC] at sA;clear cC;cases sA;show absurd (e.symm.trans hs) (no l xl i u h.hl hi hu)
  .have dA:=w.nd _ _ de;rw[hc] at dA;clear h FV hm hz;rcases mem_mid hi with rfl|hi
   .show ⟨rfl,rfl⟩
   .have wI:i∈xG.ch:=by rw[hc];show cY hi
    show bp (w.kid _ xG i de wI) λu hu hp hd=>?_;show bp (ex i u hu (m9 dA hi)) λz' cC e _=>?_;rw[cC] at sA;clear cC;cases sA;show absurd (e.symm.trans hs) (no _ xG i u de wI hu)
  .show bp (w.kid j z i hz hi) λu hu hp hd=>?_;have NZ:i≠P:=λe=>by
    have e2:=PE j z hz (e▸hi);rcases n3 with n3|n3
    .show n3 e2
    .rw[n3] at e2;have:=w.key j z hz;show li 0x407fedda835e50403300419d00002 rfl e2 this
   show bp (ex i u hu NZ) λz' cC e _=>?_;rw[cC] at sA;clear cC;cases sA;show absurd (e.symm.trans hs) (no j z i u hz hi hu)
theorem GG(w:WF0 s d)(h:jY s s' P l x xl)(G:Gm s)(hg:s'.g=s.g):Gm s':=by
 clear s s' d P l x xl _ w h G hg;have qi:l∈x.ch:=by rw[h.hch];show .head _
 have jW:=w.sort_of h.hx qi;have Tz:∀ b,(b=0\/b=1)->s.g b l=s.g b P:=λb hb=>by
  have hA:=(G.ax b P hb ⟨x,h.hx⟩).w h.hx;by_cases e:al x.sort=b
  .have:=hA.al jW e;rw[h.hch] at this;simp[aI] at this;show li 0x101110ffb7382019c10002 rfl this
  .show hA.ac jW e l qi
 show ⟨λb j hb _=>AxL.of λz hz=>?_,λb hb=>?_⟩
 .rw[hg];clear qi;rcases h.inv w j z hz with ⟨rfl,rfl⟩|⟨rfl,h0,xG,l1,l2,de,hc,hm,rfl⟩|⟨n1,n2,n3,hz⟩
  .have hA:=(G.ax b l hb ⟨xl,h.hl⟩).w h.hl;show ⟨hA.lf,hA.al,hA.ac⟩
  .have hA:=(G.ax b _ hb ⟨xG,de⟩).w de;have Za:xG.sort≠0:=w.sort_of de (c:=P) (by rw[hc];show j4);show ⟨λe=>absurd e Za,λh1 h2=>?_,λh1 h2 i hi=>?_⟩
   .rw[<-hA.al h1 h2,hc];change aI ((l1++l::l2).map _)=_;rw[aD,aD,aq,aq,bz,bz,bc,bc,Tz b hb]
   .clear h hm hz;rcases mem_mid hi with rfl|hi
    .rw[Tz b hb];show hA.ac h1 h2 P (by rw[hc];simp)
    .show hA.ac h1 h2 i (by rw[hc];show cY hi)
  .show (G.ax b j hb ⟨z,hz⟩).w hz
 .rw[h.hr,hg];by_cases h0:x.par=0
  .rw[if_pos h0,Tz b hb,(w.par_root h.hx).mp h0];show G.bd b hb
  .rw[if_neg h0];show G.bd b hb
theorem GH(w:WF0 s d)(h:jY s s' P l x xl)(j:Int):(∃ z,s'.m j=some z/\z.sort=0)↔∃ z,s.m j=some z/\z.sort=0:=by
 clear s s' d P l x xl j _ w h;have qi:l∈x.ch:=by rw[h.hch];show .head _
 have jW:=w.sort_of h.hx qi;constructor
 .rintro ⟨z,hz,hs⟩;rcases h.inv w j z hz with ⟨rfl,rfl⟩|⟨rfl,h0,xG,l1,l2,de,hc,hm,rfl⟩|⟨n1,n2,n3,hz⟩
  .show ⟨xl,h.hl,hs⟩
  .show ⟨xG,de,hs⟩
  .show ⟨z,hz,hs⟩
 .rintro ⟨z,hz,hs⟩
  show bp (h.ex w j z hz λe=>by
   rw[e,h.hx] at hz;cases hz
   show jW hs) λz' cC e _=>?_
  show ⟨z',cC,by rw[e];show hs⟩
end
section
variable {n:Nat} {hd:Bool} {H H':MH} {Y:Ly} {s s':S} {d:Int->Nat} {k P K:Int} {x y:W} {Q:PQ} {E:MH->Prop}
theorem n9{a b:Int}:∀ {l:List Int},a∈l->∃ l1 l2,l=l1++a::l2/\l.set (idxOf a l) b=l1++b::l2/\m4 a l=l1++l2/\idxOf a l=l1.length
 |y::r,h=>by
  unfold idxOf m4
  by_cases e:y=a
  .rw[if_pos e,if_pos e,e];show ⟨[],r,rfl,rfl,rfl,rfl⟩
  .rw[if_neg e,if_neg e]
   show jn (n9 (b:=b) ((ag.mp h).resolve_left λz=>e z.symm)) λl1 l2 h1 h2 h3 h4=>?_
   show ⟨y::l1,l2,by rw[dW,<-h1],by rw[List.set_cons_succ,h2];rfl,by rw[h3];rfl,by rw[h4];rfl⟩
theorem qP{old new:Int}{xo xn:W}(R:Rp H Y s)(ho:s.m old=some xo)(hn:s.m new=some xn)(cV:xo.par≠0->new≠xo.par)(hG:xo.par≠0->∃ xG,s.m xo.par=some xG/\old∈xG.ch/\xG.ch.length<=1000)(hon:old≠new)
  (q:∀ H' s',Rp H' Y s'->Mv (Own Y s) (Own Y s') H H'->s'.m new=some { xn with par:=xo.par }->(∀ xG,xo.par≠0->s.m xo.par=some xG->∃ l1 l2,xG.ch=l1++old::l2/\s'.m xo.par=some { xG with ch:=l1++new::l2 })->
   (∀ j,j≠new->(j≠xo.par\/xo.par=0)->s'.m j=s.m j)->s'.root=(if xo.par=0 then new else s.root)->s'.ks=s.ks->s'.g=s.g->s'.p=s.p->s'.last=s.last->s'.sel=s.sel->Q .none H'):br Fn (n+1) hd 17 [.ref Y.tp,.int old,.int new] H Q E:=by
 clear n hd H Y s Q E old new xo xn _ R ho hn cV hG hon q;show w_call rfl rfl ?_;unfold jC;left;show bX (R.wn new xn hn) (lb rfl) ?_;have R1:=R.setW (x':={ xn with par:=xo.par }) hn rfl;have M1:Mv (Own Y s) (Own Y (s.setW new { xn with par:=xo.par })) H (upd H (Y.wa new) (.inst 0 (wl Y s new { xn with par:=xo.par }))):=by
  rw[Own.eqW hn];show Mv.upd (.inr (.inr ⟨new,xn,hn,.inl rfl⟩))
 rw[show (wl Y s new xn).set 2 (.int xo.par)=wl Y s new { xn with par:=xo.par } from rfl];generalize I7:upd H (Y.wa new) (.inst 0 (wl Y s new { xn with par:=xo.par }))=H1 at R1 M1;generalize cH:s.setW new { xn with par:=xo.par }=s1 at *
 have CB:s1.m new=some { xn with par:=xo.par }:=by rw[<-cH];show S.setW_self _ _ _
 have Kk:∀ j,j≠new->s1.m j=s.m j:=λj hj=>by rw[<-cH];show S.setW_ne _ _ hj
 have f1:s1.root=s.root/\s1.ks=s.ks/\s1.g=s.g/\s1.p=s.p/\s1.last=s.last/\s1.sel=s.sel:=by rw[<-cH];show ⟨rfl,rfl,rfl,rfl,rfl,rfl⟩
 left;show bP (λh=>?_) λh=>?_
 .have h0:xo.par=0:=of_decide_eq_true h;left;show bX R1.tr (lb rfl) ?_;have R2:=R1.setT (s':={ s1 with root:=new }) rfl rfl rfl rfl;left;show q _ { s1 with root:=new } R2 (M1.trans (Mv.upd (.inl rfl))) CB (λxG h=>absurd h0 h) (λj hj _=>Kk j hj) (by rw[if_pos h0]) f1.2.1 f1.2.2.1 f1.2.2.2.1 f1.2.2.2.2.1 f1.2.2.2.2.2
 .have h0:xo.par≠0:=of_decide_eq_false h;show bp (hG h0) λxG de hc hl=>?_;have CM:s1.m xo.par=some xG:=by rw[Kk _ (cV h0).symm];show de
  show jn (n9 (b:=new) hc) λl1 l2 e1 e2 e3 e4=>?_;have vh:idxOf old xG.ch<xG.ch.length:=(eV hc).2;left;show pE (R1.cn _ xG CM) (li 0x11ffb742403a110110 rfl hl) hc ?_;show qK (R1.cn _ xG CM) (li 137325748240 rfl) (by rw[J];show li 0x11ffb730303a418120 rfl vh) (by rw[J];show li 0x11ffb742403a110110 rfl hl) ?_;rw[dz,<-nG,e2];have R2:=R1.setC (l:=l1++new::l2) CM;have M2:Mv (Own Y s1) (Own Y (s1.setW xo.par { xG with ch:=l1++new::l2 })) H1 (upd H1 (Y.ca xo.par) (.list ((l1++new::l2).map .int))):=by
   rw[Own.eqW CM];show Mv.upd (.inr (.inr ⟨_,xG,CM,.inr (.inl rfl)⟩))
  left;show q _ _ R2 (M1.trans M2) ?_ (λXO _ rb=>?_) (λj hj ZX=>?_) (by rw[if_neg h0];show f1.1) f1.2.1 f1.2.2.1 f1.2.2.2.1 f1.2.2.2.2.1 f1.2.2.2.2.2
  .rw[S.setW_ne _ _ (cV h0)];show CB
  .rw[de] at rb;cases rb;show ⟨l1,l2,e1,S.setW_self _ _ _⟩
  .rw[S.setW_ne _ _ (ZX.resolve_right h0)];show Kk j hj
noncomputable def S.dels(s:S)(D:List Int):S:={ s with m:=λj=>if j∈D then none else s.m j,ks:=s.ks.filter λj=>decide (j∉D) }
theorem S.dels_nil(s:S):s.dels []=s:=by
 unfold S.dels;have:s.ks.filter (λj=>decide (j∉([]:List Int)))=s.ks:=lR.mpr λj _=>rfl;rw[this];show rfl
theorem S.dels_snoc(s:S)(D:List Int)(c:Int):(s.dels D).del c=s.dels (D++[c]):=by
 unfold S.dels S.del;congr 1
 .funext j;by_cases e:j=c
  .simp[e]
  .by_cases e2:j∈D<;>simp[e,e2]
 .rw[yn];show zT λj _=>?_;by_cases e:j=c<;>by_cases e2:j∈D<;>simp[e,e2]
theorem S.dels_m{D:List Int}{j:Int}(h:j∉D):(s.dels D).m j=s.m j:=if_neg h
theorem AW(R:Rp H Y s)(C:Cl s d)(dA:(pre (aA s) k).Nodup)(hk:∃ x,s.m k=some x)(q:∀ H',Rp H' Y (s.dels (pre (aA s) k))->Mv (Own Y s) (Own Y (s.dels (pre (aA s) k))) H H'->Q .none H'):br Fn (n+2) hd 18 [.ref Y.tp,.int k] H Q E:=by
 clear n hd H Y s d k Q E _ R C dA hk q;show w_call rfl rfl ?_;unfold uW;left;show sS R C hk λr H1 X1 Bw hr=>?_;have Ku:¬ Own Y s r:=R.fresh Bw;have R1:=R.ext X1;left;rw[cK hr];generalize hL:pre (aA s) k=L at *
 have Mq:∀ j∈L,∃ x,s.m j=some x:=λj hj=>C.pre_at k hk (hL▸hj);show cJ (λi ρ H4=>ρ 0=some (.ref Y.tp)/\H4 r=some (.list (L.map .int))/\Rp H4 Y (s.dels (L.take i))/\Mv (Own Y s) (Own Y (s.dels (L.take i))) H H4) _ ?_ ?_ ⟨rfl,hr,by rw[cX,S.dels_nil];show R1,by rw[cX,S.dels_nil];show Mv.ext X1⟩
 .rintro i it ρ H4 hit ⟨e0,jP,R4,M4⟩;show ⟨λb m=>by rw[aa.mp m,jP,hr],λK hK th=>?_⟩;rw[au] at hit;cases hz:L[i]? with
  |none=>rw[hz] at hit;show cz hit
  |some j=>
   rw[hz] at hit;cases hit;show oE (ao.mp hz) λhi hg=>?_;show oE (Mq j (aw hz)) λx hx=>?_;have qp:L.take (i+1)=L.take i++[j]:=by rw[az hi,hg]
   have TG:j∉L.take i:=λm=>by
    have h1:(L.take i++L.drop i).Nodup:=by rw[bN];show dA
    show (aL.mp h1).2.2 j m j (by rw[aW hi,hg];show .head _) rfl
   have UN:(s.dels (L.take i)).m j=some x:=by rw[S.dels_m TG];show hx
   change wSs _ _ _ (upd ρ 2 (.int j)) _ _ _;have R5:=R4.del j;have M5:=Mv.del R4 j (o:=.dict (o8 (dl Y (s.dels (L.take i)).ks) j));rw[S.dels_snoc,<-qp] at R5 M5;left;show tM R4.dc (R4.dget UN) R4.dlen ?_;left;show hK _ _ ⟨e0,?_,R5,M4.trans M5⟩;rw[aj λz=>Ku (.inr (.inl z))];show jP
 .rintro ρ H4 ⟨e0,jP,R4,M4⟩;show ⟨λb m=>by rw[aa.mp m,jP,hr],?_⟩;rw[J,bC] at R4 M4;left;show q H4 R4 M4
theorem B6{p:Nat}{l:List Int}(R:Rp H Y s)(hp:H p=some (.list (l.map .int)))(cV:l≠[])(hx:∀ j∈l,∃ x,s.m j=some x)(q:∀ j∈l,Q (.int j) H):br Fn (n+1) hd 38 [.ref Y.tp,.ref p] H Q E:=by
 clear n hd H Y s Q E p l _ R hp cV hx q;(show wJ (bR cV) λa t aG=>?_;clear cV;subst aG);show w_call rfl rfl ?_;unfold lU;left;show cW hp (aY _) (by decide) (by rfl) ?_;left;rw[cK hp];show cJ (λi ρ H1=>ρ 0=some (.ref Y.tp)/\H1=H/\∃ j∈a::t,ρ 2=some (.int j)) _ ?_ ?_ ⟨rfl,rfl,a,.head _,rfl⟩
 .clear hp q;rintro i it ρ H1 hit ⟨e0,eH,j,hj,e2⟩;subst eH;show ⟨λb m=>rfl,λK hK th=>?_⟩;rw[au] at hit;cases hz:(a::t)[i]? with
  |none=>rw[hz] at hit;show cz hit
  |some c=>
   rw[hz] at hit;cases hit;have hc:=aw hz;show oE (hx c hc) λxc vo=>?_;show oE (hx j hj) λxj hxj=>?_;change wSs _ _ _ (upd ρ 3 (.int c)) _ _ _;left;show bP (λh=>?_) λh=>?_
   .left;show hK _ _ ⟨e0,rfl,c,hc,rfl⟩
   .left;show hK _ _ ⟨e0,rfl,j,hj,e2⟩
 .clear R;rintro ρ H1 ⟨e0,eH,j,hj,e2⟩;subst eH;show ⟨λb m=>rfl,?_⟩;left;show q j hj
end
section
variable {n:Nat} {hd:Bool} {H H':MH} {Y:Ly} {s s':S} {d:Int->Nat} {k P K:Int} {x y:W} {Q:PQ} {E:MH->Prop}
noncomputable def same(s:S)(x:W)(c:Int):Bool:=match s.m c with
 |some y=>decide (y.sort=x.sort)
 |none=>false
theorem n8{c:Int}(h:s.m c=some y):same s x c=decide (y.sort=x.sort):=by unfold same;rw[h]
noncomputable def jD(s:S)(x:W)(l:List Int):List Int:=l.filter (same s x)
noncomputable def jF(s:S)(x:W)(l:List Int):List Int:=l.flatMap λc=>if same s x c then aA s c else [c]
theorem KI(w:WF0 s d)(hx:s.m P=some x):∀ l:List Int,(jF s x l).length<=(l.flatMap (pre (aA s))).length:=λl=>by
 unfold jF;induction l with
 |nil=>show aT _
 |cons c r ih=>
  rw[aE,aE,aB,aB];have:(if same s x c then aA s c else [c]).length<=(pre (aA s) c).length:=by
   rw[eE w.rk,aH];split
   .have:=qx w.rk (aA s c);show li 0x47fedd18108303a018120 rfl this
   .show lb rfl
  show li 0x111ffb76e8c00c3e002174070ba018140 rfl ih this
noncomputable def S.pars(s:S)(L:List Int)(P:Int):S:={ s with m:=λj=>if j∈L then (s.m j).map (λx=>{ x with par:=P }) else s.m j }
theorem S.pars_nil(s:S)(P:Int):s.pars [] P=s:=by
 unfold S.pars;show rfl
theorem S.pars_snoc(s:S)(L:List Int)(P c:Int)(h:(s.pars L P).m c=some y):(s.pars L P).setW c { y with par:=P }=s.pars (L++[c]) P:=by
 clear y s L P c _ h;unfold S.setW;have h':(if c∈L then (s.m c).map (λx=>{ x with par:=P }) else s.m c)=some y:=h;unfold S.pars;congr 1;funext j;by_cases e:j=c
 .clear h;subst e;rw[if_pos rfl,if_pos (j4)];by_cases e2:j∈L
  .rw[if_pos e2] at h';cases hz:s.m j with
   |none=>rw[hz] at h';show cz h'
   |some z=>rw[hz] at h';cases h';rfl
  .rw[if_neg e2] at h';rw[h'];rfl
 .rw[if_neg e];by_cases e2:j∈L<;>simp[e,e2]
theorem AY(R:Rp H Y s)(w:WF0 s d)(hx:s.m P=some x)
  (q:∀ H' Y' s',(Y'.tp=Y.tp/\Y'.wa=Y.wa)->Rp H' Y' s'->Mv (Own Y s) (Own Y' s') H H'->s'.m P=some { x with ch:=jF s x x.ch }->(∀ j∈jD s x x.ch,s'.m j=none)->(∀ j∈jF s x x.ch,∀ z,s.m j=some z->s'.m j=some { z with par:=P })->
   (∀ j,j≠P->j∉jD s x x.ch->j∉jF s x x.ch->s'.m j=s.m j)->s'.root=s.root->s'.g=s.g->s'.p=s.p->s'.ks=(s.dels (jD s x x.ch)).ks->s'.last=s.last->s'.sel=s.sel->Q .none H'):br Fn (n+1) hd 36 [.ref Y.tp,.int P] H Q E:=by
 clear n hd H Y s d P x Q E _ R w hx q;have C:=w.cl;have Wg:=C.len P x hx;rw[eE C.rk,aF hx,aH] at Wg;have hex:∀ c∈x.ch,∃ y,s.m c=some y:=λc hc=>C.kid P x c hx hc;have ZW:∀ c∈x.ch,∀ i∈aA s c,i∉x.ch/\i≠P/\∃ z,s.m i=some z:=λc hc i hi=>by
  show oE (hex c hc) λy hy=>?_;rw[aF hy] at hi;show bp (w.kid c y i hy hi) λz hz hp hd=>?_;show bp (w.kid P x c hx hc) λ_ _ _ hd2=>?_;show ⟨λm=>?_,λe=>by rw[e] at hd;show li 0x47fedda8348107a418120 rfl hd hd2,z,hz⟩;have:=w.kid_par hx m hz;rw[hp] at this;show w.kid_ne hx hc this
 have Sk:∀ l,(∀ c∈l,c∈x.ch)->P∉jD s x l:=λl hl m=>w.kid_ne hx (hl P (bV.mp m).1) rfl;have Z6:∀ l,(∀ c∈l,c∈x.ch)->∀ i∈jF s x l,i≠P/\i∉jD s x x.ch/\∃ z,s.m i=some z:=λl hl i hi=>by
  show bj (cG.mp hi) λc hc hi=>?_;have ig:=hl c hc;by_cases e:same s x c=true
  .rw[if_pos e] at hi;show mf (ZW c ig i hi) λg1 g2 g3=>?_;show ⟨g2,λm=>g1 (bV.mp m).1,g3⟩
  .rw[if_neg e] at hi;rw[aa.mp hi];show ⟨w.kid_ne hx ig,λm=>e (bV.mp m).2,hex c ig⟩
 show w_call rfl rfl ?_;unfold uY;left;show ⟨cB _,λf hf=>?_⟩;clear f _ hf;have NJ:¬ Own Y s f:=R.fresh hf;have R0:=R.new (o:=.list []) hf;left;have JR:=R0.cn P x hx;rw[cK JR];have tk:∀ i,∀ c∈x.ch.take i,c∈x.ch:=λi c hc=>cj hc;have qH:∀ D a,Own Y (s.dels D) a->Own Y s a:=λD a h=>by
  rcases h with h|h|⟨j,y,hy,h⟩
  .show .inl h
  .show .inr (.inl h)
  .have hy:(if j∈D then none else s.m j)=some y:=hy;by_cases e:j∈D
   .rw[if_pos e] at hy;show cz hy
   .rw[if_neg e] at hy;show .inr (.inr ⟨j,y,hy,h⟩)
 show cJ (λi ρ H4=>ρ 0=some (.ref Y.tp)/\ρ 1=some (.int P)/\ρ 2=some (.ref (Y.wa P))/\ρ 3=some (.ref f)/\H4 f=some (.list ((jF s x (x.ch.take i)).map .int))/\Rp H4 Y (s.dels (jD s x (x.ch.take i)))/\Mv (Own Y s) (Own Y (s.dels (jD s x (x.ch.take i)))) H H4) _ ?_ ?_
  ⟨rfl,rfl,rfl,rfl,af _ _ _,by rw[cX];change Rp _ Y (s.dels []);rw[S.dels_nil];show R0,by rw[cX];change Mv _ (Own Y (s.dels [])) _ _;rw[S.dels_nil];show Mv.ext (Ext.new hf)⟩
 .rintro i it ρ H4 hit ⟨e0,e1,e2,e3,F1,R4,M4⟩;clear i it ρ H4 _ hit e0 e1 e2 e3 F1 R4 M4;have EW:(s.dels (jD s x (x.ch.take i))).m P=some x:=by rw[S.dels_m (Sk _ (tk i))];show hx
  have Ap:=R4.cn P x EW;show ⟨λb m=>by rw[aa.mp m,Ap,JR],λK hK th=>?_⟩;clear K _ hK th;rw[au] at hit;cases hz:x.ch[i]? with
  |none=>rw[hz] at hit;show cz hit
  |some c=>
   rw[hz] at hit;cases hit;show oE (ao.mp hz) λhi hg=>?_;have ig:=aw hz;show oE (hex c ig) λxc vo=>?_;have qp:x.ch.take (i+1)=x.ch.take i++[c]:=by rw[az hi,hg]
   have wF:c∉x.ch.take i:=λm=>by
    have h1:(x.ch.take i++x.ch.drop i).Nodup:=by rw[bN];show w.nd P x hx
    show (aL.mp h1).2.2 c m c (by rw[aW hi,hg];show .head _) rfl
   have S':c∉jD s x (x.ch.take i):=λm=>wF (bV.mp m).1;have FI:(s.dels (jD s x (x.ch.take i))).m c=some xc:=by rw[S.dels_m S'];show vo
   have FD:(jF s x (x.ch.take i)).length<=1000:=by
    have h1:=KI w hx (x.ch.take i);have h2:((x.ch.take i).flatMap (pre (aA s))).length<=(x.ch.flatMap (pre (aA s))).length:=by
     conv=>rhs;rw[<-bN i x.ch]
     rw[bg,aB];show li 0x7fe8c00c08120 rfl
    show li 0x4447feddbb742207a0085d0141e8458108130 rfl Wg h1 h2
   have UO:=C.chlen vo;have r9:same s x c=decide (xc.sort=x.sort):=n8 vo;change wSs _ _ _ (upd ρ 4 (.int c)) _ _ _;left;show bP (λh=>?_) λh=>?_
   .have Ai:jD s x (x.ch.take (i+1))=jD s x (x.ch.take i)++[c]:=by
     unfold jD;rw[qp,el,bw (by rw[r9];show h)];rfl
    have JB:jF s x (x.ch.take (i+1))=jF s x (x.ch.take i)++xc.ch:=by
     unfold jF;rw[qp,bg,aE,eY,if_pos (by rw[r9];show h),aF vo,bK]
    have T8:f≠Y.ca c:=λz=>NJ (.inr (.inr ⟨c,xc,vo,.inr (.inl z)⟩));left;show mX F1 (R4.cn c xc FI) T8 (by rw[J];show li 0x11ffb742403a110110 rfl FD) (by rw[J];show li 0x11ffb742403a110110 rfl UO) ?_;rw[<-aD,<-JB];have R5:=R4.out (a:=f) (o:=.list ((jF s x (x.ch.take (i+1))).map .int)) λz=>NJ (qH _ _ z);have M5:Mv (Own Y s) (Own Y (s.dels (jD s x (x.ch.take i)))) H (upd H4 f (.list ((jF s x (x.ch.take (i+1))).map .int))):=⟨M4.own,λa o ho n=>by rw[aj (λz:a=f=>by rw[z,hf] at ho;show cz ho)];show M4.keep a o ho n,λa h=>M4.live a (d8 h)⟩
    have F4:upd H4 f (.list ((jF s x (x.ch.take (i+1))).map .int)) f=some (.list ((jF s x (x.ch.take (i+1))).map .int)):=af _ _ _;generalize upd H4 f (.list ((jF s x (x.ch.take (i+1))).map .int))=H5 at R5 M5 F4;have R6:=R5.del c;have M6:=Mv.del R5 c (o:=.dict (o8 (dl Y (s.dels (jD s x (x.ch.take i))).ks) c));rw[S.dels_snoc,<-Ai] at R6 M6;left;show tM R5.dc (R5.dget FI) R5.dlen ?_;left;show hK _ _ ⟨e0,e1,e2,e3,?_,R6,M5.trans M6⟩;rw[aj λz=>NJ (.inr (.inl z))];show F4
   .have Ai:jD s x (x.ch.take (i+1))=jD s x (x.ch.take i):=by
     unfold jD;rw[qp,el,bk (by rw[r9,h];show λh=>ft h)];show bK _
    have JB:jF s x (x.ch.take (i+1))=jF s x (x.ch.take i)++[c]:=by
     unfold jF;rw[qp,bg,aE,eY,if_neg (by rw[r9,h];decide),bK]
    left;show iT F1 (by rw[J];show li 0x11ffb742403a110110 rfl FD) ?_;rw[show (jF s x (x.ch.take i)).map Val.int++[.int c]=(jF s x (x.ch.take (i+1))).map .int by rw[JB];simp];left;show hK _ _ ⟨e0,e1,e2,e3,af _ _ _,?_,?_⟩
    .rw[Ai];show R4.out λz=>NJ (qH _ _ z)
    .rw[Ai];show ⟨M4.own,λa o ho n=>by rw[aj (λz:a=f=>by rw[z,hf] at ho;show cz ho)];show M4.keep a o ho n,λa h=>M4.live a (d8 h)⟩
 .rintro ρ H4 ⟨e0,e1,e2,e3,F1,R4,M4⟩;clear ρ H4 _ e0 e1 e2 e3 F1 R4 M4;rw[J,bC] at F1 R4 M4;have EW:(s.dels (jD s x x.ch)).m P=some x:=by rw[S.dels_m (Sk _ λ_ h=>h)];show hx
  have Ap:=R4.cn P x EW;show ⟨λb m=>by rw[aa.mp m,Ap,JR],?_⟩;have hF:=Z6 x.ch λ_ h=>h;generalize hFF:jF s x x.ch=F at *
  generalize Z4:jD s x x.ch=D at *
  generalize cH:s.dels D=s1 at *
  have CB:∀ j,j∉D->s1.m j=s.m j:=λj hj=>by rw[<-cH];show S.dels_m hj
  left;rw[cK F1];have To:¬ Own Y s1 f:=λz=>NJ (by rw[<-cH] at z;show qH _ _ z);have qJ:∀ L a,Own Y (s1.pars L P) a↔Own Y s1 a:=λL a=>by
   unfold Own;have:∀ j,(∃ x,(s1.pars L P).m j=some x)↔∃ x,s1.m j=some x:=λj=>by
    change (∃ x,(if j∈L then (s1.m j).map _ else s1.m j)=some x)↔_;by_cases e:j∈L
    .rw[if_pos e];cases s1.m j<;>simp
    .rw[if_neg e]
   constructor
   .rintro (h|h|⟨j,y,hy,h⟩)
    .show .inl h
    .show .inr (.inl h)
    .show oE ((this j).mp ⟨y,hy⟩) λz hz=>?_;show .inr (.inr ⟨j,z,hz,h⟩)
   .rintro (h|h|⟨j,y,hy,h⟩)
    .show .inl h
    .show .inr (.inl h)
    .show oE ((this j).mpr ⟨y,hy⟩) λz hz=>?_;show .inr (.inr ⟨j,z,hz,h⟩)
  show cJ (λi ρ H5=>ρ 0=some (.ref Y.tp)/\ρ 1=some (.int P)/\ρ 2=some (.ref (Y.wa P))/\ρ 3=some (.ref f)/\H5 f=some (.list (F.map .int))/\Rp H5 Y (s1.pars (F.take i) P)/\Mv (Own Y s) (Own Y (s1.pars (F.take i) P)) H H5) _ ?_ ?_
   ⟨e0,e1,e2,e3,F1,by rw[cX,S.pars_nil];show R4,by rw[cX,S.pars_nil];show M4⟩
  .rintro i it ρ H5 hit ⟨b0,b1,b2,b3,F4,R5,M5⟩;clear i it ρ H5 _ hit b0 b1 b2 b3 F4 R5 M5;show ⟨λb m=>by rw[aa.mp m,F1,F4],λK hK th=>?_⟩;rw[au] at hit;cases hz:F[i]? with
   |none=>rw[hz] at hit;show cz hit
   |some c=>
    rw[hz] at hit;cases hit;show oE (ao.mp hz) λhi hg=>?_;have qp:F.take (i+1)=F.take i++[c]:=by rw[az hi,hg]
    show V7 (hF c (aw hz)) λh1 h2 z cC=>?_;have Mw:∃ y,(s1.pars (F.take i) P).m c=some y:=by
     change ∃ y,(if c∈F.take i then (s1.m c).map _ else s1.m c)=some y;rw[CB c h2,cC];by_cases e:c∈F.take i
     .rw[if_pos e];show ⟨_,rfl⟩
     .rw[if_neg e];show ⟨_,rfl⟩
    (show oE Mw λy hy=>?_;clear Mw);have R6:=R5.setW (x':={ y with par:=P }) hy rfl;rw[S.pars_snoc _ _ _ _ hy,<-qp] at R6;have wD:Own Y (s1.pars (F.take i) P) (Y.wa c):=.inr (.inr ⟨c,y,hy,.inl rfl⟩);change wSs _ _ _ (upd ρ 4 (.int c)) _ _ _;left;show bX (R5.wn c y hy) (lb rfl) ?_;left;show hK _ _ ⟨b0,b1,b2,b3,?_,R6,?_⟩
    .rw[aj (d9 (R5.wn c y hy) F4).symm];show F4
    .have e:Own Y (s1.pars (F.take (i+1)) P)=Own Y (s1.pars (F.take i) P):=funext λa=>propext ((qJ _ a).trans (qJ _ a).symm);rw[e];show M5.trans (Mv.upd wD)
  .rintro ρ H5 ⟨b0,b1,b2,b3,F4,R5,M5⟩;show ⟨λb m=>by rw[aa.mp m,F1,F4],?_⟩;rw[J,bC] at R5 M5;have Zj:P∉F:=λm=>(hF P m).1 rfl;have NA:(s1.pars F P).m P=some x:=by
    change (if P∈F then _ else s1.m P)=_;rw[if_neg Zj];show EW
   have Tp:¬ Own Y (s1.pars F P) f:=λz=>To ((qJ _ _).mp z);have R6:=R5.setCa NA F4 Tp;have M6:=Mv.setCa (l:=F) (c:=f) M5 NA hf (o:=.inst 0 (wl (Y.atC P f) (s1.pars F P) P { x with ch:=F }));have gK:(wl Y (s1.pars F P) P x).set 3 (.ref f)=wl (Y.atC P f) (s1.pars F P) P { x with ch:=F }:=by
    simp only[wl,Ly.atC_same];rfl
   left;show bX (R5.wn P x NA) (lb rfl) ?_;rw[gK];left;have vi:∀ j,j≠P->((s1.pars F P).setW P { x with ch:=F }).m j=if j∈F then (s1.m j).map (λx=>{ x with par:=P }) else s1.m j:=λj hj=>by rw[S.setW_ne _ _ hj];rfl
   show q _ (Y.atC P f) _ ⟨rfl,rfl⟩ R6 M6 (S.setW_self _ _ _) (λj hj=>?_) (λj hj z hz=>?_) (λj h1 h2 h3=>?_) ?_ ?_ ?_ ?_ ?_ ?_
   .have Au:j≠P:=λe=>by rw[<-Z4] at hj;show Sk _ (λ_ h=>h) (e▸hj)
    rw[vi j Au,<-cH];have:(s.dels D).m j=none:=if_pos hj;rw[this];simp
   .show mf (hF j hj) λg1 g2 _=>?_;rw[vi j g1,if_pos hj,CB j g2,hz];rfl
   .rw[vi j h1,if_neg h3,CB j h2]
   all_goals rw[<-cH];rfl
theorem Tr.eq(T:Tr s d P K)(hm:s'.m=s.m)(hr:s'.root=s.root)(hks:s'.ks=s.ks)(hla:s'.last=s.last):Tr s' d P K:=by
 have w:=T.w;show ⟨⟨?_,?_,?_,?_,?_,?_,?_,?_,?_,?_⟩,?_,?_⟩
 .rw[hm,hr];show w.root
 .rw[hm,hla];show w.key
 .rw[hm];show w.lf
 .rw[hm];show w.srt
 .rw[hm];show w.nd
 .rw[hm];show w.kid
 .rw[hm,hr];show w.top
 .rw[hm,hks];show w.dom
 .rw[hks];show w.knd
 .rw[hks];show w.len
 .rw[hm];show T.st
 .rw[hm];show T.l2
theorem Gm.eq(G:Gm s)(hm:s'.m=s.m)(hr:s'.root=s.root)(hg:s'.g=s.g):Gm s':=⟨λa k ha hk=>by
 rw[hm] at hk
 have h:=G.ax a k ha hk
 rw[hg]
 show ⟨λx hx=>h.lf x (hm▸hx),λx hx=>h.al x (hm▸hx),λx hx=>h.ac x (hm▸hx)⟩,λa ha=>by rw[hr,hg];show G.bd a ha⟩
theorem qO(R:Rp H Y s)(T:Tr s d P K)(h2:∀ k x,s.m k=some x->x.sort≠0->2<=x.ch.length)(G:Gm s)(hx:s.m P=some x)
  (q:∀ H' Y' s',(Y'.tp=Y.tp/\Y'.wa=Y.wa)->Rp H' Y' s'->Mv (Own Y s) (Own Y' s') H H'->Tr s' d 0 0->Gm s'->(∀ j,(∃ z,s'.m j=some z/\z.sort=0)↔∃ z,s.m j=some z/\z.sort=0)->s'.root=s.root->s'.g=s.g->s'.ks.length<=s.ks.length->s'.last=s.last->s'.sel=s.sel->Q .none H'):br Fn (n+1) hd 36 [.ref Y.tp,.int P] H Q E:=by
 have w:=T.w;show AY R w hx λH' Y' s' hY R' M' hP hD hF ho hr hg hp hks hla kF=>?_;have hex:∀ c∈x.ch,∃ y,s.m c=some y:=λc hc=>w.cl.kid P x c hx hc;have hkl:s'.ks.length<=s.ks.length:=by rw[hks];show bZ _ _
 by_cases hc:∃ c∈x.ch,same s x c=true
 ·(show bj hc λc ig FP=>?_;clear hc);show oE (hex c ig) λxc vo=>?_;rw[n8 vo] at FP;have FP:xc.sort=x.sort:=of_decide_eq_true FP;have Ws:c=K:=(T.st P x c xc hx ig vo FP).2;show jQ (n9 (b:=0) ig) λl1 l2 e1 _=>?_;have dA:=w.nd P x hx;rw[e1] at dA;have sv:∀ i,i∈l1\/i∈l2->same s x i=false:=λi hi=>by
   have wI:i∈x.ch:=by rw[e1];show cY hi
   show oE (hex i wI) λxi Xf=>?_;rw[n8 Xf];show decide_eq_false λe=>?_;have:=(T.st P x i xi hx wI Xf e).2;show m9 dA hi (this.trans Ws.symm)
  have Aq:∀ l:List Int,(∀ i∈l,same s x i=false)->l.filter (same s x)=[]/\(l.flatMap λc=>if same s x c then aA s c else [c])=l:=λl=>by
   induction l with
   |nil=>show λ_=>⟨rfl,rfl⟩
   |cons i r ih=>
    intro h;have hi:=h i (.head _);show oA (ih λj m=>h j (.tail _ m)) λg1 g2=>?_;show ⟨by rw[bk (by rw[hi];show λh=>ft h)];show g1,by rw[aE,g2,if_neg (by rw[hi];show λh=>ft h)];rfl⟩
  have Xb:same s x c=true:=by rw[n8 vo];show decide_eq_true FP
  have Sl:jD s x x.ch=[c]:=by
   unfold jD;rw[e1,el,bw Xb,(Aq l1 λi m=>sv i (.inl m)).1,(Aq l2 λi m=>sv i (.inr m)).1];rfl
  have Sn:jF s x x.ch=l1++(xc.ch++l2):=by
   unfold jF;rw[e1,bg,aE,(Aq l1 λi m=>sv i (.inl m)).2,(Aq l2 λi m=>sv i (.inr m)).2,if_pos Xb,aF vo]
  rw[Sl] at hD ho hks;rw[Sn] at hP hF ho;have M:jZ s s' P c x xc l1 l2:=by
   show ⟨hx,e1,vo,FP,hP,hD c (.head _),λi hi z hz=>hF i (by simp[hi]) z hz,λj h1 h3 h4=>?_,hr,λj=>?_,?_,?_,hla⟩
   .by_cases hj:j∈l1++(xc.ch++l2)
    .have jj:j∈l1\/j∈l2:=by
      rcases ak.mp hj with hj|hj
      .show .inl hj
      .rcases ak.mp hj with hj|hj
       .show absurd hj h4
       .show .inr hj
     have N':j∈x.ch:=by rw[e1];show cY jj
     show bp (w.kid P x j hx N') λu hu Oq _=>?_;rw[hF j hj u hu,hu];clear hu;induction u;simp at Oq ⊢;show Oq.symm
    .show ho j h1 (by simpa using h3) hj
   .rw[hks];change j∈s.ks.filter _↔_;rw[bV];simp
   .rw[hks];show w.knd.filter _
   .rw[hks];show aR (bZ _ _) w.len
  have T':Tr s d P c:=by rw[Ws];show T
  show q H' Y' s' hY R' M' (Dr T' h2 M) (Dp w M G hg) (Dq w M) hr hg hkl hla kF
 .have sv:∀ c∈x.ch,same s x c=false:=λc m=>by
   cases e:same s x c with
   |false=>rfl
   |true=>show absurd ⟨c,m,e⟩ hc
  have Aq:∀ l:List Int,(∀ i∈l,same s x i=false)->l.filter (same s x)=[]/\(l.flatMap λc=>if same s x c then aA s c else [c])=l:=λl=>by
   induction l with
   |nil=>show λ_=>⟨rfl,rfl⟩
   |cons i r ih=>
    intro h;have hi:=h i (.head _);show oA (ih λj m=>h j (.tail _ m)) λg1 g2=>?_;show ⟨by rw[bk (by rw[hi];show λh=>ft h)];show g1,by rw[aE,g2,if_neg (by rw[hi];show λh=>ft h)];rfl⟩
  show oA (Aq x.ch sv) λg1 g2=>?_;have Sl:jD s x x.ch=[]:=g1;have Sn:jF s x x.ch=x.ch:=g2;rw[Sl] at hD ho hks;rw[Sn] at hP hF ho;rw[S.dels_nil] at hks;have hm:s'.m=s.m:=by
   funext j;by_cases e1:j=P
   .rw[e1,hP,hx]
   .by_cases e2:j∈x.ch
    .show bp (w.kid P x j hx e2) λu hu Oq _=>?_;rw[hF j e2 u hu,hu];clear hu;induction u;simp at Oq ⊢;show Oq.symm
    .show ho j e1 (by simp) e2
  have T':=T.eq hm hr hks hla;show q H' Y' s' hY R' M' (T'.strict (λx' y' h1 h3 h4 h5=>?_) λx' h1 h3=>h2 P x' (hm▸h1) h3) (G.eq hm hr hg) (λj=>by rw[hm]) hr hg hkl hla kF;rw[hm] at h1 h4;rw[hx] at h1;cases h1;have:=sv K h3;rw[n8 h4] at this;show of_decide_eq_false this h5
end
section
variable {n:Nat} {hd:Bool} {H H':MH} {Y:Ly} {s s':S} {d:Int->Nat} {k P K:Int} {x y:W} {Q:PQ} {E:MH->Prop}
theorem tO(w:WF0 s d){z a:Int}(hz:0<=z):∀ k,(∃ x,s.m k=some x)->z<=dq s z a k:=by
 have C:=w.cl;show C.rk.ind λk ih ⟨x,hx⟩=>?_;rw[gL C hx];rw[aF hx] at ih;by_cases e:x.sort=0
 .rw[if_pos e];show aY _
 .rw[if_neg e];have cV:x.ch≠[]:=λz=>e ((C.lf k x hx).mpr z);show wJ (bR cV) λc t hc=>?_;have ig:c∈x.ch:=by rw[hc];show .head _
  have h1:=ih c ig (C.kid k x c hx ig);have hm:dq s z a c∈x.ch.map (dq s z a):=ay.mpr ⟨c,ig,rfl⟩;by_cases e2:al x.sort=a
  .rw[if_pos e2]
   have:=iR (λy m=>by
    (show bj (ay.mp m) λc' iO aG=>?_;subst aG)
    show (xI C hz c' (C.kid k x c' hx iO)).1) _ hm
   show li 0x111ffb76e50803284059410003 rfl h1 this
  .rw[if_neg e2];have:=IJ hm;show li 0x111ffb76e50803284059410003 rfl h1 this
theorem sG(w:WF0 s d){d':Int->Nat}(w':WF0 s' d'){z a:Int}:∀ k,(∃ x,s.m k=some x)->(∀ j∈pre (aA s) k,∀ x,s.m j=some x->∃ x',s'.m j=some x'/\x'.sort=x.sort/\x'.ch=x.ch)->dq s' z a k=dq s z a k:=by
 show w.rk.ind λk ih ⟨x,hx⟩ h=>?_;show bp (h k (bS w.rk k) x hx) λx' rb e1 e2=>?_;rw[gL w.cl hx,gL w'.cl rb,e1,e2];have:x.ch.map (dq s' z a)=x.ch.map (dq s z a):=aX λc hc=>by
  have JP:c∈aA s k:=by rw[aF hx];show hc
  show ih c JP (w.cl.kid k x c hx hc) λj hj=>h j (eW w.rk JP hj)
 rw[this]
theorem KN{P l:Int}{x xl:W}(w:WF0 s d)(h:jY s s' P l x xl)(G:Gm s){b:Int}(hb:b=0\/b=1):s.g b l=s.g b P:=by
 have qi:l∈x.ch:=by rw[h.hch];show .head _
 have jW:=w.sort_of h.hx qi;have hA:=(G.ax b P hb ⟨x,h.hx⟩).w h.hx;by_cases e:al x.sort=b
 .have:=hA.al jW e;rw[h.hch] at this;simp[aI] at this;show li 0x101110ffb7382019c10002 rfl this
 .show hA.ac jW e l qi
theorem AZ(R:Rp H Y s)(T:Tr s d P 0)(G:Gm s)(hx:s.m P=some x)(hs:x.sort≠0)
  (q:∀ H' Y' s',Y'.tp=Y.tp->Rp H' Y' s'->Mv (Own Y s) (Own Y' s') H H'->Tr s' d 0 0->Gm s'->(∀ j,(∃ z,s'.m j=some z/\z.sort=0)↔∃ z,s.m j=some z/\z.sort=0)->(∀ b,(b=0\/b=1)->s'.g b s'.root=s.g b s.root)->s'.ks.length<=s.ks.length->s'.last=s.last->s'.sel=s.sel->Q .none H'):br Fn (n+2) hd 37 [.ref Y.tp,.int P] H Q E:=by
 clear n hd H Y s d P x Q E _ R T G hx hs q;have w:=T.w;have gJ:=w.cl.chlen hx;show w_call rfl rfl ?_;unfold v5;left;show f_len (R.cn P x hx) (by rw[J];show li 0x11ffb742403a110110 rfl gJ) ?_;left;show bP (λh=>?_) λh=>?_
 .have hl:x.ch.length≠1:=λe=>by rw[J,e] at h;show absurd h (by decide)
  have cV:x.ch≠[]:=λz=>hs ((w.lf P x hx).mpr z);have qh:2<=x.ch.length:=by have:=fb.mpr cV;show li 0x101011ffb76e8028f48141c108110 rfl hl this
  left;show q H Y s rfl R Mv.refl (T.strict (λx' y' h1 h2 h3 h4=>?_) λx' h1 _=>by rw[hx] at h1;cases h1;show qh) G (λ_=>Bh) (λ_ _=>rfl) (aT _) rfl rfl;have:=w.key 0 y' h3;show li 0x7fed41af280419902001 rfl this
 .have hl:x.ch.length=1:=by
   have:¬ ((x.ch.map Val.int).length:Int)≠1:=by simpa using h
   rw[J] at this;show li 0x404443fedd4840eede840a010 rfl this
  obtain ⟨l,hch⟩:∃ l,x.ch=[l]:=by
   match hc:x.ch,hl with
   |[l],_=>show ⟨l,rfl⟩
  have qi:l∈x.ch:=by rw[hch];show .head _
  show bp (w.kid P x l hx qi) λxl Xg QI WL=>?_;have Ke:l≠P:=w.kid_ne hx qi;have tw:x.par≠0->∃ xG,s.m x.par=some xG/\P∈xG.ch/\d P<d x.par:=λh0=>by
   show bj (w.top P x hx λe=>h0 ((w.par_root hx).mpr e)) λz hz hc=>?_;show bp (w.kid _ z P hz hc) λ_ _ _ hd2=>?_;show ⟨z,hz,hc,hd2⟩
  have hlG:x.par≠0->l≠x.par:=λh0 e=>by
   show bp (tw h0) λ_ _ _ h1=>?_;rw[e] at WL;show li 0x47fedda8348107a418120 rfl WL h1
  have Wf:x.par≠0->P≠x.par:=λh0 e=>by
   show bp (tw h0) λ_ _ _ h1=>?_;rw[<-e] at h1;show li 0x7fed41a408110 rfl h1
  have Ce:=R.cn P x hx;rw[hch] at Ce;left;show cW Ce (aY _) (by decide) (by rfl) ?_;left
  show qP R hx Xg hlG (λh0=>by
   show bp (tw h0) λxG h1 h2 _=>?_
   show ⟨xG,h1,h2,w.cl.chlen h1⟩) Ke.symm λH1 s1 R1 M1 g1 g2 g3 g4 g5 g6 g7 g8 g9=>?_
  have Sw:s1.m P=some x:=by
   rw[g3 P Ke.symm (by by_cases h0:x.par=0;show .inr h0;show .inl (Wf h0))];show hx
  left;show ⟨cB _,λc hc=>?_⟩;have R2:=R1.new (o:=.list []) hc;have M2:Mv (Own Y s) (Own Y s1) H (upd H1 c (.list [])):=M1.trans (Mv.ext (Ext.new hc));have Ic:¬ Own Y s1 c:=R1.fresh hc;have NG:H c=none:=by
   cases hh:H c with
   |none=>rfl
   |some o=>
    by_cases ho:Own Y s c
    .have:∃ o',H1 c=some o':=by
      rcases ho with ho|ho|⟨j,z,hz,ho⟩
      .rw[ho];show ⟨_,R1.tr⟩
      .rw[ho];show ⟨_,R1.dc⟩
      .have hj:∃ z',s1.m j=some z':=(R1.dom j).mp (by rw[g5];show (R.dom j).mpr ⟨z,hz⟩);(show oE hj λz' cC=>?_;clear hj);show R1.alive (.inr (.inr ⟨j,z',cC,ho⟩))
     (show oE this λo' Bu=>?_;clear this);rw[hc] at Bu;show cz Bu
    .rw[M1.keep c o hh ho] at hc;show fB hc
  have nI:upd H1 c (.list []) c=some (.list (([]:List Int).map .int)):=af _ _ _;have R3:=R2.setCa Sw nI Ic;have M3:=Mv.setCa (l:=[]) (c:=c) M2 Sw NG (o:=.inst 0 (wl (Y.atC P c) s1 P { x with ch:=[] }));have gK:(wl Y s1 P x).set 3 (.ref c)=wl (Y.atC P c) s1 P { x with ch:=[] }:=by
   simp only[wl,Ly.atC_same];rfl
  left;show bX (R2.wn P x Sw) (lb rfl) ?_;rw[gK];revert M3;revert R3;generalize upd (upd H1 c (.list [])) (Y.wa P) (.inst 0 (wl (Y.atC P c) s1 P { x with ch:=[] }))=H3;revert H3;show gk ?_;intro H3 R3 M3;have JH:(Y.atC P c).tp=Y.tp:=rfl;generalize JI:Y.atC P c=Y2 at *
  generalize Iy:s1.setW P { x with ch:=[] }=s2 at *
  have Zi:s2.m P=some { x with ch:=[] }:=by rw[<-Iy];show S.setW_self _ _ _
  have Ud:∀ j,j≠P->s2.m j=s1.m j:=λj hj=>by rw[<-Iy];show S.setW_ne _ _ hj
  have f2:s2.root=s1.root/\s2.ks=s1.ks/\s2.g=s1.g/\s2.p=s1.p/\s2.last=s1.last/\s2.sel=s1.sel:=by rw[<-Iy];show ⟨rfl,rfl,rfl,rfl,rfl,rfl⟩
  (show kJ f2 λYs VO VP f24 Yt Yu=>?_;clear f2);have R4:=R3.del P;have M4:=M3.trans (Mv.del R3 P (o:=.dict (o8 (dl Y2 s2.ks) P)));rw[<-JH];left;show tM R3.dc (R3.dget Zi) R3.dlen ?_;revert M4;revert R4;generalize upd H3 Y2.dp (.dict (o8 (dl Y2 s2.ks) P))=H4;revert H4;show gk ?_;intro H4 R4 M4;have My:∀ j,j≠P->(s2.del P).m j=s1.m j:=λj hj=>by
   change (if j=P then none else s2.m j)=_;rw[if_neg hj,Ud j hj]
  have L:jY s (s2.del P) P l x xl:=by
   show ⟨hx,hch,Xg,if_pos rfl,by rw[My l Ke];show g1,λxG h0 de=>?_,λj h1 h2 h3=>?_,by rw[show (s2.del P).root=s2.root from rfl,Ys];show g4,λj=>?_,?_,?_,by rw[show (s2.del P).last=s2.last from rfl,Yt];show g8⟩
   .show jQ (g2 xG h0 de) λl1 l2 e1 e2=>?_;show ⟨l1,l2,e1,by rw[My _ (Wf h0).symm];show e2⟩
   .rw[My j h1];show g3 j h2 h3
   .change j∈s2.ks.filter _↔_;rw[VO,g5,bV];simp
   .show R4.nd
   .show R4.len
  show oA (GI T L) λT4 l24=>?_;have G4:Gm (s2.del P):=GG w L G (by rw[show (s2.del P).g=s2.g from rfl,VP];show g6);have As:(s2.del P).g=s.g:=by rw[show (s2.del P).g=s2.g from rfl,VP];show g6
  have O6:(s2.del P).ks.length<=s.ks.length:=by
   show aR (bZ _ _) ?_;rw[VO,g5];show aT _
  have qZ:∀ b,(b=0\/b=1)->(s2.del P).g b (s2.del P).root=s.g b s.root:=λb hb=>by
   rw[As,L.hr];by_cases h0:x.par=0
   .rw[if_pos h0,KN w L G hb,(w.par_root hx).mp h0]
   .rw[if_neg h0]
  have hl4:(s2.del P).m l=some { xl with par:=x.par }:=L.hml;have Oa:(s2.del P).last=s.last:=L.hla;have OH:(s2.del P).sel=s.sel:=by rw[show (s2.del P).sel=s2.sel from rfl,Yu];show g9
  have Gd:=GH w L;generalize s2.del P=s4 at *
  left;show bP (λh=>?_) λh=>?_
  .have h0:x.par≠0:=by simpa using h
   show bj (tw h0) λxG de _=>?_;show jQ (L.hG xG h0 de) λl1 l2 _ Z8=>?_;left;show qO R4 T4 l24 G4 Z8 λH5 Y5 s5 Zo R5 M5 T5 G5 Kf Uq ZU G8 TP Uw=>?_;left;show q H5 Y5 s5 (Zo.1.trans JH) R5 (M4.trans M5) T5 G5 (λj=>(Kf j).trans (Gd j)) (λb hb=>by rw[ZU,Uq];show qZ b hb) (aR G8 O6) (TP.trans Oa) (Uw.trans OH)
  .have h0:x.par=0:=by simpa using h
   rw[h0] at T4;left;show q H4 Y2 s4 JH R4 M4 (T4.strict (λx' y' h1 _ _ _=>?_) λx' h1 _=>?_) G4 Gd qZ O6 Oa OH
   .have:=T4.w.key 0 x' h1;show li 0x7fed41af280419902001 rfl this
   .have:=T4.w.key 0 x' h1;show li 0x1ffb740147af280419902011 rfl this
theorem Tr.weak(T:Tr s d 0 0)(P K:Int):Tr s d P K:=⟨T.w,λk x c y h1 h2 h3 h4=>absurd h4 (T.no h1 h2 h3),λk x h1 h2 _=>T.len2 h1 h2⟩
theorem rG{a:Int}(ha:a=0\/a=1):al (if a=0 then 2 else 1)=a/\((if a=0 then (2:Int) else 1)=1\/(if a=0 then (2:Int) else 1)=2):=by
 rcases ha with rfl|rfl
 .show ⟨rfl,.inr rfl⟩
 .show ⟨rfl,.inl rfl⟩
theorem vX{a:Int}(bO:hd=false)(ha:a=0\/a=1)(R:Rp H Y s)(T:Tr s d 0 0)(G:Gm s)(hx:s.m k=some x)(hl:s.ks.length<1000)
  (q:∀ H' Y' s' d' P y z,Y'.tp=Y.tp->Rp H' Y' s'->Mv (Own Y s) (Own Y' s') H H'->Tr s' d' P k->Gm s'->s'.m P=some y->al y.sort=a->k∈y.ch->s'.m k=some z->z.sort=x.sort->z.ch=x.ch->(∀ b,(b=0\/b=1)->s'.g b s'.root=s.g b s.root)->(∀ j,(∃ z,s'.m j=some z/\z.sort=0)↔∃ z,s.m j=some z/\z.sort=0)->
   (∀ j∈pre (aA s) k,∀ x,s.m j=some x->∃ x',s'.m j=some x'/\x'.sort=x.sort/\x'.ch=x.ch)->(∀ b,s'.g b k=s.g b k)->s'.ks.length<=s.ks.length+1->s'.sel=s.sel->Q (.int P) H'):br Fn (n+3) hd 34 [.ref Y.tp,.int k,.int a] H Q E:=by
 clear n hd H Y s d k x Q E a _ bO ha R T G hx hl q;have w:=T.w;have tw:x.par≠0->∃ xG,s.m x.par=some xG/\k∈xG.ch/\d k<d x.par:=λh0=>by
  show bj (w.top k x hx λe=>h0 ((w.par_root hx).mpr e)) λz hz hc=>?_;show bp (w.kid _ z k hz hc) λ_ _ _ hd2=>?_;show ⟨z,hz,hc,hd2⟩
 show w_call rfl rfl ?_;unfold qa;have fresh:(∀ xG,x.par≠0->s.m x.par=some xG->al xG.sort≠a)->wSs (br Fn (n+2)) hd (.cons (.asg (.one (.name 4)) (.mcall 1 7 (.var 0) (.cons (.call 13 (.cons (.var 2) .nil)) (.cons (.attr (.var 3) 0 2) .nil)))) (.cons (.asg (.tup [(.attr (.var 4) 0 6),(.attr (.var 4) 0 7),(.attr (.var 4) 0 4),(.attr (.var 4) 0 5)]) (.tup (.cons (.attr (.var 3) 0 6) (.cons (.attr (.var 3) 0 7) (.cons (.attr (.var 3) 0 4) (.cons (.attr (.var 3) 0 5) .nil)))))) (.cons (.expr (.call 17 (.cons (.var 0) (.cons (.var 1) (.cons (.attr (.var 4) 0 0) .nil))))) (.cons (.asg (.one (.attr (.var 3) 0 2)) (.attr (.var 4) 0 0)) (.cons (.asg (.one (.attr (.var 4) 0 3)) (.list (.cons (.var 1) .nil))) (.cons (.ret (.attr (.var 4) 0 0)) .nil))))))
   (upd (λi=>[Val.ref Y.tp,.int k,.int a][i]?) 3 (.ref (Y.wa k))) H (λr _ H=>Flo.rec (motive:=λ_=>Prop) (Q .none H) (λv=>Q v H) r) (λ_ H=>E H):=by
  intro Ir;have hN:s.last+1∉s.ks:=λm=>by
   show oE ((w.dom _).mp m) λz hz=>?_;have:=w.key _ z hz;show li 0x43fed41af280c084066c08402001 rfl this
  have Aw:k≠s.last+1:=λe=>hN (e▸(w.dom k).mpr ⟨x,hx⟩);show oA (rG ha) λkC WZ=>?_;generalize UA:(if a=0 then (2:Int) else 1)=so at kC WZ;left;show rH ?_;rw[UA];left;show vY R hN hl λH1 Y1 Wo R1 M1 yI=>?_;generalize Nx:s.last+1=N at *
  generalize cH:({ s.add N ⟨so,x.par,[],0,1,1,0,0⟩ with last:=N }:S)=s1 at *
  have Ak:s1.m N=some ⟨so,x.par,[],0,1,1,0,0⟩:=by rw[<-cH];show if_pos rfl
  have QL:∀ j,j≠N->s1.m j=s.m j:=λj hj=>by rw[<-cH];show if_neg hj
  have hk1:s1.m k=some x:=by rw[QL k Aw];show hx
  have f1:s1.root=s.root/\s1.ks=s.ks++[N]/\s1.last=N/\s1.sel=s.sel/\(∀ b j,j≠N->s1.g b j=s.g b j)/\∀ b j,j≠N->s1.p b j=s.p b j:=by
   rw[<-cH];show ⟨rfl,rfl,rfl,rfl,λb j hj=>(cI _ hj).trans (cI _ hj),λb j hj=>(cI _ hj).trans (cI _ hj)⟩
  (show kJ f1 λQg Yq Yr Qh Mo f16=>?_;clear f1);have hwk:Y.wa k=Y1.wa k:=(yI k x hx).1.symm;rw[hwk,<-Wo];left;show ⟨lb rfl,λb hb=>?_⟩;have X2:Ext H1 (upd H1 b (.tup [.int (s1.g 0 k),.int (s1.g 1 k),.int (s1.p 0 k),.int (s1.p 1 k)])):=Ext.new hb;have Wq:upd H1 b (.tup [.int (s1.g 0 k),.int (s1.g 1 k),.int (s1.p 0 k),.int (s1.p 1 k)]) b=some (.tup [.int (s1.g 0 k),.int (s1.g 1 k),.int (s1.p 0 k),.int (s1.p 1 k)]):=af _ _ _;generalize upd H1 b (.tup [.int (s1.g 0 k),.int (s1.g 1 k),.int (s1.p 0 k),.int (s1.p 1 k)])=H2 at X2 Wq;have R2:=R1.ext X2;have M2:=M1.trans (Mv.ext X2);show fY Wq bO rfl ?_;have Kp:∀ (g p:Int->Int->Int),Own Y1 { s1 with g:=g,p:=p } (Y1.wa N):=λg p=>.inr (.inr ⟨N,_,Ak,.inl rfl⟩);left;show bX (R2.wn N _ Ak) (lb rfl) ?_;have R3:=R2.geo (g':=bI s1.g 0 N (s1.g 0 k)) (p':=s1.p) Ak (λb j hj=>cI _ hj) (λ_ _ _=>rfl)
  rw[show (wl Y1 s1 N ⟨so,x.par,[],0,1,1,0,0⟩).set 6 (.int (s1.g 0 k))=wl Y1 { s1 with g:=bI s1.g 0 N (s1.g 0 k),p:=s1.p } N ⟨so,x.par,[],0,1,1,0,0⟩ by
   simp only[wl,bJ,dS s1.g (show (1:Int)≠0 by decide)];rfl]
  have M3:Mv (Own Y s) (Own Y1 s1) H (upd H2 (Y1.wa N) (.inst 0 (wl Y1 { s1 with g:=bI s1.g 0 N (s1.g 0 k),p:=s1.p } N ⟨so,x.par,[],0,1,1,0,0⟩))):=M2.trans (Mv.upd (Kp _ _));generalize upd H2 (Y1.wa N) (.inst 0 (wl Y1 { s1 with g:=bI s1.g 0 N (s1.g 0 k),p:=s1.p } N ⟨so,x.par,[],0,1,1,0,0⟩))=H3 at R3 M3;generalize WB:bI s1.g 0 N (s1.g 0 k)=g3 at R3;have Wb:({ s1 with g:=g3,p:=s1.p }:S).m N=some ⟨so,x.par,[],0,1,1,0,0⟩:=Ak;left;show bX (R3.wn N _ Wb) (lb rfl) ?_;have R4:=R3.geo (g':=bI g3 1 N (s1.g 1 k)) (p':=s1.p) Wb (λb j hj=>cI _ hj) (λ_ _ _=>rfl)
  rw[show (wl Y1 { s1 with g:=g3,p:=s1.p } N ⟨so,x.par,[],0,1,1,0,0⟩).set 7 (.int (s1.g 1 k))=wl Y1 { s1 with g:=bI g3 1 N (s1.g 1 k),p:=s1.p } N ⟨so,x.par,[],0,1,1,0,0⟩ by
   simp only[wl,bJ,dS g3 (show (0:Int)≠1 by decide)];rfl]
  have M4:Mv (Own Y s) (Own Y1 s1) H (upd H3 (Y1.wa N) (.inst 0 (wl Y1 { s1 with g:=bI g3 1 N (s1.g 1 k),p:=s1.p } N ⟨so,x.par,[],0,1,1,0,0⟩))):=M3.trans (Mv.upd (Kp _ _));revert M4;revert R4;generalize upd H3 (Y1.wa N) (.inst 0 (wl Y1 { s1 with g:=bI g3 1 N (s1.g 1 k),p:=s1.p } N ⟨so,x.par,[],0,1,1,0,0⟩))=H4;revert H4;show gk ?_;intro H4 R4 M4;generalize As:bI g3 1 N (s1.g 1 k)=g4 at R4;have R4:Rp H4 Y1 { s1 with g:=g4,p:=s1.p }:=R4;have EU:({ s1 with g:=g4,p:=s1.p }:S).m N=some ⟨so,x.par,[],0,1,1,0,0⟩:=Ak;left;show bX (R4.wn N _ EU) (lb rfl) ?_;have R5:=R4.geo (g':=g4) (p':=bI s1.p 0 N (s1.p 0 k)) EU (λ_ _ _=>rfl) (λb j hj=>cI _ hj)
  rw[show (wl Y1 { s1 with g:=g4,p:=s1.p } N ⟨so,x.par,[],0,1,1,0,0⟩).set 4 (.int (s1.p 0 k))=wl Y1 { s1 with g:=g4,p:=bI s1.p 0 N (s1.p 0 k) } N ⟨so,x.par,[],0,1,1,0,0⟩ by
   simp only[wl,bJ,dS s1.p (show (1:Int)≠0 by decide)];rfl]
  have M5:Mv (Own Y s) (Own Y1 s1) H (upd H4 (Y1.wa N) (.inst 0 (wl Y1 { s1 with g:=g4,p:=bI s1.p 0 N (s1.p 0 k) } N ⟨so,x.par,[],0,1,1,0,0⟩))):=M4.trans (Mv.upd (Kp _ _));generalize upd H4 (Y1.wa N) (.inst 0 (wl Y1 { s1 with g:=g4,p:=bI s1.p 0 N (s1.p 0 k) } N ⟨so,x.par,[],0,1,1,0,0⟩))=H5 at R5 M5;generalize hp5:bI s1.p 0 N (s1.p 0 k)=p5 at R5;have R5:Rp H5 Y1 { s1 with g:=g4,p:=p5 }:=R5;have Wc:({ s1 with g:=g4,p:=p5 }:S).m N=some ⟨so,x.par,[],0,1,1,0,0⟩:=Ak;left;show bX (R5.wn N _ Wc) (lb rfl) ?_;have R6:=R5.geo (g':=g4) (p':=bI p5 1 N (s1.p 1 k)) Wc (λ_ _ _=>rfl) (λb j hj=>cI _ hj)
  rw[show (wl Y1 { s1 with g:=g4,p:=p5 } N ⟨so,x.par,[],0,1,1,0,0⟩).set 5 (.int (s1.p 1 k))=wl Y1 { s1 with g:=g4,p:=bI p5 1 N (s1.p 1 k) } N ⟨so,x.par,[],0,1,1,0,0⟩ by
   simp only[wl,bJ,dS p5 (show (0:Int)≠1 by decide)];rfl]
  have M6:Mv (Own Y s) (Own Y1 s1) H (upd H5 (Y1.wa N) (.inst 0 (wl Y1 { s1 with g:=g4,p:=bI p5 1 N (s1.p 1 k) } N ⟨so,x.par,[],0,1,1,0,0⟩))):=M5.trans (Mv.upd (Kp _ _));revert M6;revert R6;generalize upd H5 (Y1.wa N) (.inst 0 (wl Y1 { s1 with g:=g4,p:=bI p5 1 N (s1.p 1 k) } N ⟨so,x.par,[],0,1,1,0,0⟩))=H6;revert H6;show gk ?_;intro H6 R6 M6;generalize hp6:bI p5 1 N (s1.p 1 k)=p6 at R6;have Im:∀ b j,j≠N->g4 b j=s.g b j:=λb j hj=>by rw[<-As,cI _ hj,<-WB,cI _ hj];show Mo b j hj
  have ZV:∀ b,(b=0\/b=1)->g4 b N=s.g b k:=λb hb=>by
   rcases hb with rfl|rfl
   .rw[<-As,dS _ (by decide),<-WB,bJ];show Mo 0 k Aw
   .rw[<-As,bJ];show Mo 1 k Aw
  generalize OC:({ s1 with g:=g4,p:=p6 }:S)=s6 at R6;have M6:Mv (Own Y s) (Own Y1 s6) H H6:=by rw[<-OC];show M6
  have Oe:s6.m=s1.m:=by rw[<-OC]
  have f6:s6.root=s1.root/\s6.ks=s1.ks/\s6.g=g4/\s6.last=s1.last/\s6.sel=s1.sel:=by rw[<-OC];show ⟨rfl,rfl,rfl,rfl,rfl⟩
  (show iV f6 λYz YA YB YC YD=>?_;clear f6);have O0:s6.m k=some x:=by rw[Oe];show hk1
  have Qy:s6.m N=some ⟨so,x.par,[],0,1,1,0,0⟩:=by rw[Oe];show Ak
  have Qv:x.par≠0->N≠x.par:=λh0 e=>by
   show bj (tw h0) λxG de _=>?_;show hN (by rw[e];show (w.dom _).mpr ⟨xG,de⟩)
  have W7:x.par≠0->k≠x.par:=λh0 e=>by
   show bp (tw h0) λ_ _ _ h1=>?_;rw[<-e] at h1;show li 0x7fed41a408110 rfl h1
  left
  show qP R6 O0 Qy Qv (λh0=>by
   show bp (tw h0) λxG h1 h2 _=>?_
   show ⟨xG,by rw[Oe,QL _ (Qv h0).symm];show h1,h2,w.cl.chlen h1⟩) Aw λH7 s7 R7 M7 e1 e2 e3 e4 e5 e6 e7 e8 e9=>?_
  have Su:s7.m N=some ⟨so,x.par,[],0,1,1,0,0⟩:=e1;have Cq:s7.m k=some x:=by
   rw[e3 k Aw (by by_cases h0:x.par=0;show .inr h0;show .inl (W7 h0))];show O0
  left;show bX (R7.wn k x Cq) (lb rfl) ?_;have R8:=R7.setW (x':={ x with par:=N }) Cq rfl;have M8:Mv (Own Y s) (Own Y1 (s7.setW k { x with par:=N })) H (upd H7 (Y1.wa k) (.inst 0 (wl Y1 s7 k { x with par:=N }))):=by
   rw[Own.eqW Cq];show (M6.trans M7).trans (Mv.upd (.inr (.inr ⟨k,x,Cq,.inl rfl⟩)))
  rw[show (wl Y1 s7 k x).set 2 (.int N)=wl Y1 s7 k { x with par:=N } from rfl];revert M8;revert R8;generalize upd H7 (Y1.wa k) (.inst 0 (wl Y1 s7 k { x with par:=N }))=H8;revert H8;show gk ?_;intro H8 R8 M8;generalize Uv:s7.setW k { x with par:=N }=s8 at *
  have Kb:s8.m k=some { x with par:=N }:=by rw[<-Uv];show S.setW_self _ _ _
  have Ue:∀ j,j≠k->s8.m j=s7.m j:=λj hj=>by rw[<-Uv];show S.setW_ne _ _ hj
  have f8:s8.root=s7.root/\s8.ks=s7.ks/\s8.g=s7.g/\s8.last=s7.last/\s8.sel=s7.sel:=by rw[<-Uv];show ⟨rfl,rfl,rfl,rfl,rfl⟩
  (show iV f8 λYE YF YG YH YI=>?_;clear f8);have Nz:s8.m N=some ⟨so,x.par,[],0,1,1,0,0⟩:=by rw[Ue N Aw.symm];show Su
  left;show ⟨lb rfl,λc hc=>?_⟩;have R9:=R8.new (o:=.list [.int k]) hc;have ZD:upd H8 c (.list [.int k]) c=some (.list (([k]:List Int).map .int)):=af _ _ _;have Ic:¬ Own Y1 s8 c:=R8.fresh hc;have NG:H c=none:=M8.live c hc;have k9:=R9.setCa Nz ZD Ic;have ps:=Mv.setCa (l:=[k]) (c:=c) (M8.trans (Mv.ext (Ext.new (o:=.list [.int k]) hc))) Nz NG (o:=.inst 0 (wl (Y1.atC N c) s8 N ⟨so,x.par,[k],0,1,1,0,0⟩));have gK:(wl Y1 s8 N ⟨so,x.par,[],0,1,1,0,0⟩).set 3 (.ref c)=wl (Y1.atC N c) s8 N ⟨so,x.par,[k],0,1,1,0,0⟩:=by
   simp only[wl,Ly.atC_same];rfl
  left;show bX (R9.wn N _ Nz) (lb rfl) ?_;rw[gK];have JD:(s8.setW N ⟨so,x.par,[k],0,1,1,0,0⟩).m N=some ⟨so,x.par,[k],0,1,1,0,0⟩:=S.setW_self _ _ _;have Ko:∀ j,j≠N->(s8.setW N ⟨so,x.par,[k],0,1,1,0,0⟩).m j=s8.m j:=λj hj=>S.setW_ne _ _ hj;have iP:s8.root=if x.par=0 then N else s.root:=by rw[YE,e4,Yz,Qg]
  have TL:s8.ks=s.ks++[N]:=by rw[YF,e5,YA,Yq]
  have WC:s8.g=g4:=by rw[YG,e6,YB]
  have Uz:s8.sel=s.sel:=by rw[YI,e9,YD,Qh]
  have kk:=w.key k x hx;have CH:oG s (s8.setW N ⟨so,x.par,[k],0,1,1,0,0⟩) k N x ⟨so,x.par,[k],0,1,1,0,0⟩:=by
   show ⟨hx,hN,li 0x44407feddb98120d794004cc11067058108003 rfl Nx kk,JD,WZ,rfl,rfl,by rw[Ko k Aw];show Kb,λxG h0 de=>⟨λe=>Ir xG h0 de (by rw[e];show kC),?_⟩,iP,λj h1 h2 h3=>?_,TL,?_⟩
   .show jQ (e2 xG h0 (by rw[Oe,QL _ (Qv h0).symm];show de)) λl1 l2 g1 g2=>?_;show ⟨l1,l2,g1,by rw[Ko _ (Qv h0).symm,Ue _ (W7 h0).symm];show g2⟩
   .rw[Ko j h1,Ue j h2,e3 j h1 h3,Oe,QL j h1]
   .change s.last<=s8.last/\N<=s8.last;show li 0x4404040400044040404007feddbb76edd794502ca28067102b386119c206ce08267058108006 rfl Nx Yr YC e8 YH
  have xw:∀ b j,j≠N->(s8.setW N ⟨so,x.par,[k],0,1,1,0,0⟩).g b j=s.g b j:=λb j hj=>by
   change s8.g b j=_;rw[WC];show Im b j hj
  have Il:∀ b,(b=0\/b=1)->(s8.setW N ⟨so,x.par,[k],0,1,1,0,0⟩).g b N=s.g b k:=λb hb=>by
   change s8.g b N=_;rw[WC];show ZV b hb
  have Y0:=Fv T CH hl;have XR:=Fq w CH G xw Il;have Cv:=Fs w CH;have P4:∀ j∈pre (aA s) k,∀ u,s.m j=some u->∃ x',(s8.setW N ⟨so,x.par,[k],0,1,1,0,0⟩).m j=some x'/\x'.sort=u.sort/\x'.ch=u.ch:=λj hj u hu=>by
   by_cases e:j=k
   .rw[e,hx] at hu;cases hu;show ⟨{ x with par:=N },by rw[e];show CH.hmk,rfl,rfl⟩
   .show ⟨u,?_,rfl,rfl⟩;rewrite [CH.ho j (λz=>hN (z▸(w.dom j).mpr ⟨u,hu⟩)) e ?_]
    .show hu
    .by_cases h0:x.par=0
     .show .inr h0
     .show .inl ?_;intro z;show bp (tw h0) λ_ _ _ h1=>?_;rcases kO w.rk k hj with h2|h2
      .show e h2
      .rw[z] at h2;show li 0x47fedda8348107a418120 rfl h1 h2
  have qZ:∀ b,(b=0\/b=1)->(s8.setW N ⟨so,x.par,[k],0,1,1,0,0⟩).g b (s8.setW N ⟨so,x.par,[k],0,1,1,0,0⟩).root=s.g b s.root:=λb hb=>by
   rw[CH.hr];by_cases h0:x.par=0
   .rw[if_pos h0,Il b hb,(w.par_root hx).mp h0]
   .rw[if_neg h0];show bj w.root λxr dZ _=>?_;show xw b _ λz=>hN (z▸(w.dom _).mpr ⟨xr,dZ⟩)
  have hkl:(s8.setW N ⟨so,x.par,[k],0,1,1,0,0⟩).ks.length<=s.ks.length+1:=by
   rw[CH.hks,aB];show aT _
  have K5:∀ b,(s8.setW N ⟨so,x.par,[k],0,1,1,0,0⟩).g b k=s.g b k:=λb=>xw b k Aw;have OF:(s8.setW N ⟨so,x.par,[k],0,1,1,0,0⟩).sel=s.sel:=Uz;have hmk:=CH.hmk;generalize s8.setW N ⟨so,x.par,[k],0,1,1,0,0⟩=s10 at *
  left;show f7 (k9.wn N _ JD) rfl ?_;show q _ (Y1.atC N c) s10 _ N _ _ (show Y1.tp=Y.tp from Wo) k9 ps Y0 XR JD kC (.head _) hmk rfl rfl qZ Cv P4 K5 hkl OF
 left;show bP (λh=>?_) λh=>?_
 .have h0:x.par≠0:=by simpa using h
  show bp (tw h0) λxG de hc _=>?_;left;show fL ?_;left;show bP (λh=>?_) λh=>?_
  .have kC:al xG.sort=a:=of_decide_eq_true h;left;show q H Y s d x.par xG x rfl R Mv.refl (T.weak _ _) G de kC hc hx rfl rfl (λ_ _=>rfl) (λ_=>Bh) (λj _ u hu=>⟨u,hu,rfl,rfl⟩) (λ_=>rfl) (li 0x7fe8c08408110 rfl) rfl
  .have kC:al xG.sort≠a:=of_decide_eq_false h;fail;fail;show fresh λXO _ OT=>by rw[de] at OT;cases OT;show kC
 .have h0:x.par=0:=by simpa using h
  fail;show fresh λXO h1 _=>absurd h0 h1
end
section
variable {n:Nat} {hd:Bool} {H H':MH} {Y:Ly} {s s':S} {d:Int->Nat} {k P K:Int} {x y:W} {Q:PQ} {E:MH->Prop}
theorem Ek{a:Int}{v:Val}(bO:hd=false)(ha:a=0\/a=1)(R:Rp H Y s)(w:WF0 s d)(hx:s.m k=some x)(hv:v=.none\/∃ z,v=.int z)
  (q:∀ H' r old new,Ext H H'->H' r=some (.tup [.int old,.int new])->old+new=s.g a k->dq s (lst a) a k<=old->lst a<=new->Q (.ref r) H') (e:∀ H',Ext H H'->E H'):br Fn (n+4) hd 33 [.ref Y.tp,.int k,v,.int a] H Q E:=by
 clear n hd H Y s d k x Q E a v _ bO ha R w hx hv q e;show w_call rfl rfl ?_;unfold lV;have tail:∀ (ρ:Sto) (new:Int),ρ 0=some (.ref Y.tp)->ρ 1=some (.int k)->ρ 3=some (.int a)->ρ 4=some (.int (s.g a k))->ρ 5=some (.int new)->
   wSs (br Fn (n+3)) hd (.cons (.asg (.one (.name 6)) (.bin .sub (.var 4) (.var 5))) (.cons (.ite (.orl (.cons (.cmp .lt (.var 6) (.call 19 (.cons (.var 0) (.cons (.var 1) (.cons (.var 3) .nil))))) (.cons (.cmp .lt (.var 5) (.mcall 1 11 (.var 0) (.cons (.var 3) .nil))) .nil))) (.cons .raise .nil) .nil) (.cons (.ret (.tup (.cons (.var 6) (.cons (.var 5) .nil)))) .nil)))
   ρ H (λr _ H=>Flo.rec (motive:=λ_=>Prop) (Q .none H) (λv=>Q v H) r) (λ_ H=>E H):=by
  intro ρ new e0 e1 e3 e4 e5;clear ρ new _ e0 e1 e3 e4 e5;left;show gB bO R w.cl ⟨x,hx⟩ λH1 X1=>?_;clear H1 _ X1;left;show bP (λh=>?_) λh=>?_
  .left;all_goals show gZ bO (e _ X1)
  have h1:dq s (lst a) a k<=s.g a k-new:=by show li 0x47fedcb8810009bb304c40802003 rfl (dF h)
  have R1:=R.ext X1;left;show lZ R1 ?_;left;show bP (λh=>?_) λh=>?_
  .left;all_goals show gZ bO (e _ X1)
  have h2:lst a<=new:=by show li 0x47fedca0016ecc0802002 rfl (dF h)
  left;show ⟨lb rfl,λr hr=>?_⟩;clear r _ hr;left;show q _ r _ _ (X1.upd (X1.none hr)) (af _ _ _) (li 0x11ff9c060058810002 rfl) h1 h2
 left;show iZ R hx ?_;left;show eK R hx ha ?_;left;rcases hv with rfl|⟨z,rfl⟩
 .show Jj ?_;show bY<|gO<|gD<|aO rfl<|cf<|wX (by decide) (by decide) ?_;fail;show tail _ _ rfl rfl rfl rfl rfl
 clear z _
 .show rq ?_;left;show bP (λh=>?_) λh=>?_
  .show gD (aO rfl (aO rfl (mJ ?_)));fail;show tail _ _ rfl rfl rfl rfl rfl
  .show gD (cf (aO rfl (mJ ?_)));fail;show tail _ _ rfl rfl rfl rfl rfl
theorem Hg{c:Nat}{z:W}(bO:hd=false)(R:Rp H Y s)(hx:s.m k=some x)(hc:H c=some (.tup [.int z.bu,.int z.st,.int z.pt,.int z.hs]))
  (q:∀ H',Rp H' Y (s.setW k { x with bu:=z.bu,st:=z.st,pt:=z.pt,hs:=z.hs })->Mv (Own Y s) (Own Y (s.setW k { x with bu:=z.bu,st:=z.st,pt:=z.pt,hs:=z.hs })) H H'->Q .none H'):br Fn (n+1) hd 6 [.ref (Y.wa k),.ref c] H Q E:=by
 clear n hd H Y s k x Q E c z _ bO R hx hc q;show w_call rfl rfl ?_;unfold EK;left;show fY hc bO rfl ?_;have wD:∀ {x':W},Own Y (s.setW k x')=Own Y s:=Own.eqW hx;left;show bX (R.wn k x hx) (lb rfl) ?_;have R1:=R.setW (x':={ x with bu:=z.bu }) hx rfl;have M1:Mv (Own Y s) (Own Y s) H (upd H (Y.wa k) (.inst 0 (wl Y s k { x with bu:=z.bu }))):=Mv.upd (.inr (.inr ⟨k,x,hx,.inl rfl⟩));rw[show (wl Y s k x).set 8 (.int z.bu)=wl Y s k { x with bu:=z.bu } from rfl];revert M1;revert R1;generalize upd H (Y.wa k) (.inst 0 (wl Y s k { x with bu:=z.bu }))=H1;revert H1;show gk ?_;intro H1 R1 M1;clear H1 _ R1 M1;have h1:(s.setW k { x with bu:=z.bu }).m k=some { x with bu:=z.bu }:=S.setW_self _ _ _;have two:∀ (u v:W),(s.setW k u).setW k v=s.setW k v:=λu v=>by
  clear u v _;unfold S.setW;congr 1;funext j;by_cases e:j=k<;>simp[e]
 left;show bX (R1.wn k _ h1) (lb rfl) ?_;have R2:=R1.setW (x':={ x with bu:=z.bu,st:=z.st }) h1 rfl;rw[two] at R2;have M2:Mv (Own Y s) (Own Y s) H1 (upd H1 (Y.wa k) (.inst 0 (wl Y (s.setW k { x with bu:=z.bu }) k { x with bu:=z.bu,st:=z.st }))):=Mv.upd (.inr (.inr ⟨k,x,hx,.inl rfl⟩));rw[show (wl Y (s.setW k { x with bu:=z.bu }) k { x with bu:=z.bu }).set 9 (.int z.st)=wl Y (s.setW k { x with bu:=z.bu }) k { x with bu:=z.bu,st:=z.st } from rfl];revert M2;revert R2;generalize upd H1 (Y.wa k) (.inst 0 (wl Y (s.setW k { x with bu:=z.bu }) k { x with bu:=z.bu,st:=z.st }))=H2;revert H2;show gk ?_;intro H2 R2 M2;clear H2 _ R2 M2;have h2:(s.setW k { x with bu:=z.bu,st:=z.st }).m k=some { x with bu:=z.bu,st:=z.st }:=S.setW_self _ _ _;left;show bX (R2.wn k _ h2) (lb rfl) ?_;have R3:=R2.setW (x':={ x with bu:=z.bu,st:=z.st,pt:=z.pt }) h2 rfl;rw[two] at R3;have M3:Mv (Own Y s) (Own Y s) H2 (upd H2 (Y.wa k) (.inst 0 (wl Y (s.setW k { x with bu:=z.bu,st:=z.st }) k { x with bu:=z.bu,st:=z.st,pt:=z.pt }))):=Mv.upd (.inr (.inr ⟨k,x,hx,.inl rfl⟩));rw[show (wl Y (s.setW k { x with bu:=z.bu,st:=z.st }) k { x with bu:=z.bu,st:=z.st }).set 10 (.int z.pt)=wl Y (s.setW k { x with bu:=z.bu,st:=z.st }) k { x with bu:=z.bu,st:=z.st,pt:=z.pt } from rfl];revert M3;revert R3;generalize upd H2 (Y.wa k) (.inst 0 (wl Y (s.setW k { x with bu:=z.bu,st:=z.st }) k { x with bu:=z.bu,st:=z.st,pt:=z.pt }))=H3;revert H3;show gk ?_;intro H3 R3 M3;clear H3 _ R3 M3;have h3:(s.setW k { x with bu:=z.bu,st:=z.st,pt:=z.pt }).m k=some { x with bu:=z.bu,st:=z.st,pt:=z.pt }:=S.setW_self _ _ _;left;show bX (R3.wn k _ h3) (lb rfl) ?_;have R4:=R3.setW (x':={ x with bu:=z.bu,st:=z.st,pt:=z.pt,hs:=z.hs }) h3 rfl;rw[two] at R4;left;show q _ R4 ?_;rw[wD];show M1.trans (M2.trans (M3.trans (Mv.upd (.inr (.inr ⟨k,x,hx,.inl rfl⟩)))))
structure Inv (s:S) (d:Int->Nat):Prop where
 tr:Tr s d 0 0
 gm:Gm s
 pl:Plp s s.p
 sel:∃ x,s.m s.sel=some x/\x.sort=0
theorem GF{N:Int}(h:∀ k,k∈s.ks↔∃ x,s.m k=some x)(h':∀ k,k∈s'.ks↔∃ x,s'.m k=some x)(hn:s.ks.Nodup)(Iq:s'.ks.Nodup)(hN:N∉s.ks)
  (e:∀ j,(∃ z,s'.m j=some z/\z.sort=0)↔j=N\/∃ z,s.m j=some z/\z.sort=0):(mE s').length=(mE s).length+1:=by
 have:(mE s').length=(N::mE s).length:=iU (fv Iq) (aQ.mpr ⟨λm=>hN (by
  show bj ((eI h).mp m) λx hx _=>?_
  show (h N).mpr ⟨x,hx⟩),fv hn⟩) λj=>by
  rw[eI h',e j,ag,eI h]
 rw[this,aH]
theorem Di(h:∀ k,k∈s.ks↔∃ x,s.m k=some x)(h':∀ k,k∈s'.ks↔∃ x,s'.m k=some x)(hn:s.ks.Nodup)(Iq:s'.ks.Nodup)
  (e:∀ j,(∃ z,s'.m j=some z/\z.sort=0)↔∃ z,s.m j=some z/\z.sort=0):(mE s').length=(mE s).length :=
 iU (fv Iq) (fv hn) λj=>by rw[eI h',e j,eI h]
theorem Plp.p{p':Int->Int->Int}(h:Plp s p'):Plp { s with p:=p' } p':=⟨h.1,h.2.1,λj hj=>by
 have:=h.2.2 j hj
 show ⟨this.al,this.ac⟩⟩
theorem qs(l1 l2:List Int)(N:Int)(f:Int->Int):aI ((l1++N::l2).map f)=f N+aI ((l1++l2).map f):=by
 rw[aD,aD,aq,bz,bz,bc];show li 0x11ff9f0600800160c01010003 rfl
theorem El{a:Int}{v:Val}{bb:Bool}(bO:hd=false)(ha:a=0\/a=1)(R:Rp H Y s)(I:Inv s d)(hx:s.m k=some x)(hv:v=.none\/∃ z,v=.int z)(hl:s.ks.length<900)
  (q:∀ H' Y' s' d' r,Y'.tp=Y.tp->Rp H' Y' s'->Mv (Own Y s) (Own Y' s') H H'->Inv s' d'->(∀ b,(b=0\/b=1)->s'.g b s'.root=s.g b s.root)->(mE s').length=(mE s).length+1->s'.ks.length<=s.ks.length+2->Q (.int r) H') (e:∀ H',Ext H H'->E H') :
  br Fn (n+5) hd 35 [.ref Y.tp,.int k,v,.int a,.bool bb] H Q E:=by
 clear n hd H Y s d k x Q E a v bb _ bO ha R I hx hv hl q e;obtain ⟨T,G,PL,kF⟩:=I;have w:=T.w;show w_call rfl rfl ?_;unfold yB;left;show Ek bO ha R w hx hv (λH1 r old new X1 hr dY hold tu=>?_) e;clear H1 r old new _ X1 hr dY hold tu;have R1:=R.ext X1;show fY hr bO rfl ?_;left;show vX bO ha R1 T G hx (li 0x11ffb74a203a560110 rfl hl) λH2 Y2 s2 d2 P y z JH R2 M2 T2 G2 hP kC qg tn xD vq qZ Cv Gl K5 hkl QR=>?_;clear H2 Y2 s2 d2 P y z _ JH R2 M2 T2 G2 hP kC qg tn xD vq qZ Cv Gl K5 hkl QR;have w2:=T2.w;have vp:=w2.sort_of hP qg;have yD:k≠P:=w2.kid_ne hP qg;have hex2:∃ u,s2.m k=some u:=⟨z,tn⟩
 rw[<-JH];left;show sQ R2 w2.cl hex2 λlv H3 X3 Ki Bt=>?_;clear lv H3 _ X3 Ki Bt;have R3:=R2.ext X3;show wJ (bR (Dm w2.rk k)) λm0 tl0 TY=>?_;clear m0 tl0 _ TY;obtain ⟨xm,OV⟩:∃ xm,s2.m m0=some xm:=by
  have:m0∈lg (aA s2) k:=by rw[TY];show .head _
  show w2.pre_at k hex2 ((fH w2.rk k).mp this).1
 fail;show cW (i:=0) (v:=.int m0) Bt (aY _) (by decide) (by rw[TY];rfl) ?_;left;have hN:s2.last+1∉s2.ks:=λm=>by
  show oE ((w2.dom _).mp m) λu hu=>?_;clear u _ hu;have:=w2.key _ u hu;show li 0x43fed41af280c084066c08402001 rfl this
 have M3:Mv (Own Y s) (Own Y2 s2) H H3:=(Mv.ext X1).trans (M2.trans (Mv.ext X3));show vY R3 hN (li 0x447feddba5103d18108107a560120 rfl hl hkl) λH4 Y4 NC R4 M4 yI=>?_;clear H4 Y4 _ NC R4 M4 yI;have M4:=M3.trans M4;have kP:=w2.key P y hP;generalize Nx:s2.last+1=N at *
 generalize xC:({ s2.add N ⟨0,P,[],0,1,1,0,0⟩ with last:=N }:S)=s4 at *
 have EU:s4.m N=some ⟨0,P,[],0,1,1,0,0⟩:=by rw[<-xC];show if_pos rfl
 have Iv:∀ j,j≠N->s4.m j=s2.m j:=λj hj=>by rw[<-xC];show if_neg hj
 have f4:s4.root=s2.root/\s4.ks=s2.ks++[N]/\s4.last=N/\s4.sel=s2.sel/\∀ b j,j≠N->s4.g b j=s2.g b j:=by
  rw[<-xC];show ⟨rfl,rfl,rfl,rfl,λb j hj=>(cI _ hj).trans (cI _ hj)⟩
 (show iV f4 λQj HZ Qk RW RX=>?_;clear f4);have nN:∀ j u,s2.m j=some u->j≠N:=λj u hu e=>hN (e▸(w2.dom j).mpr ⟨u,hu⟩);have UP:s4.m m0=some xm:=by rw[Iv _ (nN _ _ OV)];show OV
 have Ka:s4.m k=some z:=by rw[Iv _ (nN _ _ tn)];show tn
 have hwm:Y2.wa m0=Y4.wa m0:=(yI m0 xm OV).1.symm;rw[hwm,<-NC];left;show ⟨by simp[lim],λb hb=>?_⟩;have X5:Ext H4 (upd H4 b (.tup [.int (s4.g 0 m0),.int (s4.g 1 m0)])):=Ext.new hb;have SR:upd H4 b (.tup [.int (s4.g 0 m0),.int (s4.g 1 m0)]) b=some (.tup [.int (s4.g 0 m0),.int (s4.g 1 m0)]):=af _ _ _;revert SR;revert X5;generalize upd H4 b (.tup [.int (s4.g 0 m0),.int (s4.g 1 m0)])=H5;revert H5;show gk ?_;intro H5 X5 SR;have R5:=R4.ext X5;have M5:=M4.trans (Mv.ext X5);show fY SR bO rfl ?_;have Kp:∀ (g p:Int->Int->Int),Own Y4 { s4 with g:=g,p:=p } (Y4.wa N):=λg p=>.inr (.inr ⟨N,_,EU,.inl rfl⟩);left;show bX (R5.wn N _ EU) (lb rfl) ?_;have R6:=R5.geo (g':=bI s4.g 0 N (s4.g 0 m0)) (p':=s4.p) EU (λb j hj=>cI _ hj) (λ_ _ _=>rfl)
 rw[show (wl Y4 s4 N ⟨0,P,[],0,1,1,0,0⟩).set 6 (.int (s4.g 0 m0))=wl Y4 { s4 with g:=bI s4.g 0 N (s4.g 0 m0),p:=s4.p } N ⟨0,P,[],0,1,1,0,0⟩ by
  simp only[wl,bJ,dS s4.g (show (1:Int)≠0 by decide)];rfl]
 have M6:Mv (Own Y s) (Own Y4 s4) H (upd H5 (Y4.wa N) (.inst 0 (wl Y4 { s4 with g:=bI s4.g 0 N (s4.g 0 m0),p:=s4.p } N ⟨0,P,[],0,1,1,0,0⟩))):=M5.trans (Mv.upd (Kp _ _));revert M6;revert R6;generalize upd H5 (Y4.wa N) (.inst 0 (wl Y4 { s4 with g:=bI s4.g 0 N (s4.g 0 m0),p:=s4.p } N ⟨0,P,[],0,1,1,0,0⟩))=H6;revert H6;show gk ?_;intro H6 R6 M6;revert R6;generalize Tv:bI s4.g 0 N (s4.g 0 m0)=g6;revert g6 Tv;show gk ?_;intro g6 Tv R6;have Qy:({ s4 with g:=g6,p:=s4.p }:S).m N=some ⟨0,P,[],0,1,1,0,0⟩:=EU;left;show bX (R6.wn N _ Qy) (lb rfl) ?_;have R7:=R6.geo (g':=bI g6 1 N (s4.g 1 m0)) (p':=s4.p) Qy (λb j hj=>cI _ hj) (λ_ _ _=>rfl)
 rw[show (wl Y4 { s4 with g:=g6,p:=s4.p } N ⟨0,P,[],0,1,1,0,0⟩).set 7 (.int (s4.g 1 m0))=wl Y4 { s4 with g:=bI g6 1 N (s4.g 1 m0),p:=s4.p } N ⟨0,P,[],0,1,1,0,0⟩ by
  simp only[wl,bJ,dS g6 (show (0:Int)≠1 by decide)];rfl]
 have M7:Mv (Own Y s) (Own Y4 s4) H (upd H6 (Y4.wa N) (.inst 0 (wl Y4 { s4 with g:=bI g6 1 N (s4.g 1 m0),p:=s4.p } N ⟨0,P,[],0,1,1,0,0⟩))):=M6.trans (Mv.upd (Kp _ _));revert M7;revert R7;generalize upd H6 (Y4.wa N) (.inst 0 (wl Y4 { s4 with g:=bI g6 1 N (s4.g 1 m0),p:=s4.p } N ⟨0,P,[],0,1,1,0,0⟩))=H7;revert H7;show gk ?_;intro H7 R7 M7;revert R7;generalize Tw:bI g6 1 N (s4.g 1 m0)=g7;revert g7 Tw;show gk ?_;intro g7 Tw R7;have R7:Rp H7 Y4 { s4 with g:=g7 }:=R7;have NO:∀ b j,j≠N->g7 b j=s2.g b j:=λb j hj=>by rw[<-Tw,cI _ hj,<-Tv,cI _ hj];show RX b j hj
 have Su:({ s4 with g:=g7 }:S).m N=some ⟨0,P,[],0,1,1,0,0⟩:=EU;have Ah:(1-a)=0\/(1-a)=1:=li 0x1100110101001011010100110100101ffb76674388021ce8310043b33a1019d00001 rfl ha;left;show kS R7 Su ha λH8 R8 M8=>?_;have M8:Mv (Own Y s) (Own Y4 s4) H H8:=M7.trans M8;have Kb:({ s4 with g:=bI g7 a N new }:S).m k=some z:=Ka;have Nz:({ s4 with g:=bI g7 a N new }:S).m N=some ⟨0,P,[],0,1,1,0,0⟩:=EU;left;show eK R8 Kb Ah ?_;left;show kS R8 Nz Ah λH9 R9 M9=>?_;have M9:Mv (Own Y s) (Own Y4 s4) H H9:=M8.trans M9;have Aw:k≠N:=nN _ _ tn;have JE:P≠N:=nN _ _ hP;have R9:Rp H9 Y4 { s4 with g:=bI (bI g7 a N new) (1-a) N (bI g7 a N new (1-a) k) }:=R9;rw[show bI g7 a N new (1-a) k=s2.g (1-a) k by rw[cI _ Aw];show NO _ _ Aw] at R9;revert R9;generalize Ik:bI (bI g7 a N new) (1-a) N (s2.g (1-a) k)=g9;revert g9 Ik;show gk ?_;intro g9 Ik R9;have NQ:∀ b j,j≠N->g9 b j=s2.g b j:=λb j hj=>by rw[<-Ik,cI _ hj,cI _ hj];show NO b j hj
 have K4:g9 a N=new:=by rw[<-Ik,dS _ (by show li 0x4080040bfeddf8802101b33a1c4010e7418802101 rfl Ah),bJ]
 have NP:g9 (1-a) N=s2.g (1-a) k:=by rw[<-Ik,bJ]
 have R9:Rp H9 Y4 { s4 with g:=g9 }:=R9;revert R9;generalize OD:({ s4 with g:=g9 }:S)=s9;revert s9 OD;show gk ?_;intro s9 OD R9;have TZ:s9.m=s4.m:=by rw[<-OD]
 have M9:Mv (Own Y s) (Own Y4 s9) H H9:=by rw[<-OD];show M9
 have f9:s9.root=s4.root/\s9.ks=s4.ks/\s9.g=g9/\s9.last=s4.last/\s9.sel=s4.sel:=by rw[<-OD];show ⟨rfl,rfl,rfl,rfl,rfl⟩
 (show iV f9 λYJ YK YL YM YN=>?_;clear f9);have Zf:s9.m N=some ⟨0,P,[],0,1,1,0,0⟩:=by rw[TZ];show EU
 have UQ:s9.m m0=some xm:=by rw[TZ];show UP
 left;show vZ R9 UQ λc hc=>?_;have k9:=R9.new (o:=.tup [.int xm.bu,.int xm.st,.int xm.pt,.int xm.hs]) hc;have ps:=M9.trans (Mv.ext (Ext.new (o:=.tup [.int xm.bu,.int xm.st,.int xm.pt,.int xm.hs]) hc));fail;show Hg bO k9 Zf (af _ _ _) λuu qW rn=>?_;have rn:=ps.trans rn;generalize hyN:(⟨0,P,[],xm.bu,xm.st,xm.pt,xm.hs,0⟩:W)=yN at *
 have qW:Rp uu Y4 (s9.setW N yN):=qW;have rn:Mv (Own Y s) (Own Y4 (s9.setW N yN)) H uu:=rn;have Kz:yN.sort=0/\yN.par=P/\yN.ch=[]:=by rw[<-hyN];show ⟨rfl,rfl,rfl⟩
 generalize Kx:s9.setW N yN=vQ at *
 have FG:vQ.m N=some yN:=by rw[<-Kx];show S.setW_self _ _ _
 have CC:∀ j,j≠N->vQ.m j=s2.m j:=λj hj=>by rw[<-Kx,S.setW_ne _ _ hj,TZ];show Iv j hj
 have Qg:vQ.root=s2.root/\vQ.ks=s2.ks++[N]/\vQ.g=g9/\vQ.last=N/\vQ.sel=s2.sel:=by
  rw[<-Kx];show ⟨YJ.trans Qj,YK.trans HZ,YL,YM.trans Qk,YN.trans RW⟩
 (show iV Qg λRK RL RM RN RO=>?_;clear Qg);have OW:vQ.m m0=some xm:=by rw[CC _ (nN _ _ OV)];show OV
 left;show f_list (qW.en m0 xm OW) (by decide) λc2 nI=>?_;have wB:=qW.new (o:=.list []) nI;have T3:¬ Own Y4 vQ c2:=qW.fresh nI;have SX:H c2=none:=rn.live c2 nI;have EP:=wB.setEa FG (af uu c2 (.list [])) T3;have Je:=Mv.setEa (c:=c2) (rn.trans (Mv.ext (Ext.new (o:=.list []) nI))) FG SX (o:=.inst 0 (wl (Y4.atE N c2) vQ N yN));have gK:(wl Y4 vQ N yN).set 14 (.ref c2)=wl (Y4.atE N c2) vQ N yN:=by
  simp only[wl,show (Y4.atE N c2).ea N=c2 from if_pos rfl];rfl
 left;show bX (wB.wn N _ FG) (lb rfl) ?_;rw[gK];have An:(Y4.atE N c2).tp=Y4.tp:=rfl;revert Je;revert EP;generalize upd (upd uu c2 (.list [])) (Y4.wa N) (.inst 0 (wl (Y4.atE N c2) vQ N yN))=uv;revert uv;show gk ?_;intro uv EP Je;have OP:Y4.wa N=(Y4.atE N c2).wa N:=rfl;rw[<-An,OP];revert An;revert Je;revert EP;generalize JI:Y4.atE N c2=Fm;revert Fm JI;show gk ?_;intro Fm JI EP Je An;have Al:vQ.m P=some y:=by rw[CC P JE];show hP
 have KA:=w2.cl.chlen hP;show oA (eV qg) λ_ vh=>?_;have tail:∀ (i:Nat) (ρ:Sto),i<=y.ch.length->ρ 0=some (.ref Fm.tp)->ρ 1=some (.int k)->ρ 3=some (.int a)->ρ 5=some (.int old)->ρ 7=some (.int P)->ρ 9=some (.ref (Fm.wa N))->
   wSs (br Fn (n+4)) hd (.cons (.expr (.call 23 (.cons (.var 0) (.cons (.var 1) (.cons (.var 3) (.cons (.var 5) .nil)))))) (.cons (.expr (.call 36 (.cons (.var 0) (.cons (.var 7) .nil)))) (.cons (.expr (.call 24 (.cons (.var 0) .nil))) (.cons (.ret (.attr (.var 9) 0 0)) .nil))))
   ρ (upd uv (Fm.ca P) (.list ((y.ch.map .int).take i++.int N::(y.ch.map .int).drop i))) (λr _ H=>Flo.rec (motive:=λ_=>Prop) (Q .none H) (λv=>Q v H) r) (λ_ H=>E H):=by
  intro i ρ hi b0 b1 b3 b5 b7 b9;rw[show (y.ch.map Val.int).take i++.int N::(y.ch.map Val.int).drop i=(y.ch.take i++N::y.ch.drop i).map .int by simp];have hch:y.ch=y.ch.take i++y.ch.drop i:=(bN i y.ch).symm;revert hch;generalize y.ch.take i=l1;revert l1;show gk ?_;intro l1 hch;revert hch;generalize y.ch.drop i=l2;revert l2;show gk ?_;intro l2 hch;have Mk:=EP.setC (l:=l1++N::l2) Al;have Mi:Mv (Own Y s) (Own Fm (vQ.setW P { y with ch:=l1++N::l2 })) H (upd uv (Fm.ca P) (.list ((l1++N::l2).map .int))):=by
   rw[Own.eqW Al];show Je.trans (Mv.upd (.inr (.inr ⟨P,y,Al,.inr (.inl rfl)⟩)))
  revert Mi;revert Mk;generalize upd uv (Fm.ca P) (.list ((l1++N::l2).map .int))=HQ;revert HQ;show gk ?_;intro HQ Mk Mi;generalize vm:vQ.setW P { y with ch:=l1++N::l2 }=jR at *
  have vc:jR.m P=some { y with ch:=l1++N::l2 }:=by rw[<-vm];show S.setW_self _ _ _
  have Gi:∀ j,j≠P->jR.m j=vQ.m j:=λj hj=>by rw[<-vm];show S.setW_ne _ _ hj
  have Qh:jR.root=s2.root/\jR.ks=s2.ks++[N]/\jR.g=g9/\jR.last=N/\jR.sel=s2.sel:=by
   rw[<-vm];show ⟨RK,RL,RM,RN,RO⟩
  (show iV Qh λJx Nj C7 RP RQ=>?_;clear Qh);have IH:uw s2 jR P N y yN l1 l2:=by
   show ⟨hP,vp,hch,vc,hN,li 0x40447feddb98220ce1302105af282019802003 rfl kP Nx,by rw[Gi N JE.symm];show FG,Kz.1,Kz.2.1,Kz.2.2,λj h1 h2=>by rw[Gi j h1,CC j h2],Jx,Nj,?_⟩;rw[RP];show li 0x400407fedd794102ca08067058108002 rfl Nx
  show oA (KG T2 IH (li 0x447feddba5103d18108107a560120 rfl hl hkl)) λVq V0=>?_;have J5:=Vq.w;have G0:jR.m k=some z:=by rw[Gi k yD,CC k Aw];show tn
  have Cz:0<=lst a:=by unfold lst;split<;>decide
  have NT:=G2.le w2 ha hex2;have Gf:=tO w (a:=a) Cz k ⟨x,hx⟩;have K6:=K5 a;have Ak:∀ b,b=0\/b=1->lst b<=jR.g b N:=λb hb=>by
   rw[C7];by_cases e:b=a
   .rw[e,K4];show tu
   .have e2:b=1-a:=li 0x10110101010011001101010010110101010100101101010100101101010011001101010010110010110011001011001ffb76edcf8802105bb3800483667420b3a005b33a1019d00002 rfl ha hb e;rw[e2,NP];have h1:=G2.ls w2 Ah hex2;have h2:=tO w2 (z:=lst (1-a)) (a:=1-a) (by unfold lst;split<;>decide) k hex2;show li 0x111ffb76e50413280099410003 rfl h1 h2
  have Qx:∀ b,(b=0\/b=1)->b≠a->jR.g b N=s2.g b P:=λb hb e=>by
   rw[C7];have e2:b=1-a:=li 0x40440404040044004404040040440404040400404404040400404404040044004404040040440040440044004044007feddbb73e2008416f000b667420b3a005b33a1019d00002 rfl ha hb e;rw[e2,NP];show (G2.ax (1-a) P Ah ⟨y,hP⟩).ac y hP vp (by rw[kC];show li 0x4080040bfeddf8802101b33a1c4010e7418802101 rfl Ah) k qg
  have Cn:∀ b j,j≠N->jR.g b j=s2.g b j:=λb j hj=>by rw[C7];show NQ b j hj
  have JM:=KC w2 IH G2 kC Cn Ak Qx;have Cr:k∈aA jR P:=by
   rw[aF vc];have:k∈l1++l2:=by rw[<-hch];show qg
   show cY (ak.mp this)
  have vd:P∉pre (aA jR) k:=cA J5.rk Cr;have Oc:dq jR (lst a) a k=dq s (lst a) a k:=by
   rewrite [sG w2 J5 k hex2 λj hj u hu=>?_,sG w w2 k ⟨x,hx⟩ Gl]
   .rfl
   have Au:j≠P:=λe=>cA w2.rk (by rw[aF hP];show qg) (e▸hj);show ⟨u,by rw[Gi j Au,CC j (nN j u hu)];show hu,rfl,rfl⟩
  have SP:∀ j∈pre (aA jR) k,AxL jR a (jR.g a) j/\jR.g a j<=100000:=λj hj=>by
   show oE (J5.pre_at k ⟨z,G0⟩ hj) λu hu=>?_;show ⟨JM a j ha ⟨u,hu⟩ (.inr λe=>vd (e▸hj)),?_⟩;by_cases e:j=N
   .rw[e,C7,K4];show li 0x4404404407feddbb76eddb95582ce105650c235e5542b28a4194420ca00367098010006 rfl dY hold Cz NT Gf K6
   .rw[Cn a j e];have F':∃ u',s2.m j=some u':=by
     rcases IH.inv j u hu with ⟨e1,_⟩|⟨e1,_⟩|⟨_,_,h⟩
     .show absurd (e1▸hj) vd
     .show absurd e1.symm e
     .show ⟨u,h⟩
    have:=(G2.le w2 ha F').2;show li 0x11ffb72ab019550001 rfl this
  left;show mm bO Mk J5 ha ⟨z,G0⟩ (by rw[Oc];show hold) (li 0x440404407feddbb76edcaac06708235e554232884194320ca08367098010005 rfl dY tu Cz NT K6) SP λXU xh Ru Mj Vn=>?_;have KW:Mid jR a P jR.g jR.g []:=⟨λj hj Au=>JM a j ha hj (.inr Au),λ_ _ _=>rfl,λ_ _=>rfl⟩
  have KY:=KW.step J5 ⟨z,G0,J5.kid_par vc (by rw[<-aF vc];show Cr) G0⟩ Vn;have OX:({ y with ch:=l1++N::l2 }:W).sort≠0:=vp;have Io:k∈({ y with ch:=l1++N::l2 }:W).ch:=by rw[<-aF vc];show Cr
  obtain ⟨XS,Gp⟩:=KY.gm J5 ha (λb j hb EY hj=>JM b j hb hj (.inl EY)) (λb hb=>by
   have hr:=G2.bd b hb
   rw[Jx,Cn b s2.root λe=>hN (by
    show bj w2.root λxr dZ _=>?_
    rw[<-e];show (w2.dom _).mpr ⟨xr,dZ⟩)]
   show hr) vc OX kC (λc hc=>by
    rw[eu] at hc
    rw[aa.mp hc];show Io) (by
   have JL:∀ c∈({ y with ch:=l1++N::l2 }:W).ch,c≠k->xh a c=jR.g a c:=λc hc JT=>Vn.1 a c (.inr (J5.apart vc Io hc JT))
   change aI ((l1++N::l2).map (xh a))=_
   rw[qs,<-hch,nj qg (xh a),Vn.2.1,JL N (by change N∈l1++N::l2;simp) Aw.symm]
   have Az:(kQ k y.ch).map (xh a)=(kQ k y.ch).map (s2.g a):=aX λc hc=>by
    show oA (nh (w2.nd P y hP) qg hc) λh1 h2=>?_
    show bj (w2.kid P y c hP h1) λu hu _=>?_
    have SW:c∈l1++N::l2:=by
     have:c∈l1++l2:=by rw[<-hch];show h1
     show cY (ak.mp this)
    rw[JL c SW h2,Cn a c (nN c u hu)]
   rw[Az,C7,K4,NQ a P JE]
   have h1:=(G2.ax a P ha ⟨y,hP⟩).al y hP vp kC
   rw[nj qg (s2.g a)] at h1
   show li 0x10110011100110ffb76edce2b06010001671580406ce10367098010006 rfl dY K6 h1)
  have Y3:Tr { jR with g:=xh } _ P k:=Vq.eq rfl rfl rfl rfl;have Mj:Mv (Own Y s) (Own Fm { jR with g:=xh }) H XU:=Mi.trans Mj;have Sx:({ jR with g:=xh }:S).m P=some { y with ch:=l1++N::l2 }:=vc;have TM:∀ k x,({ jR with g:=xh }:S).m k=some x->x.sort≠0->2<=x.ch.length:=V0;have Cw:∀ j,(∃ z,({ jR with g:=xh }:S).m j=some z/\z.sort=0)↔j=N\/∃ z,s2.m j=some z/\z.sort=0:=λj=>KD (s':=jR) w2 IH j;have Mo:({ jR with g:=xh }:S).root=jR.root/\({ jR with g:=xh }:S).ks=jR.ks/\({ jR with g:=xh }:S).sel=jR.sel/\({ jR with g:=xh }:S).g=xh:=⟨rfl,rfl,rfl,rfl⟩
  generalize ({ jR with g:=xh }:S)=s15 at *
  (show gM Mo λRS RT RU RV=>?_;clear Mo);left;show qO Ru Y3 TM XS Sx λH16 Y8 GS JG XY Rq Q8 XT Cy Uo Tu K8 WJ OG=>?_;have Rq:=Mj.trans Rq;have Ny:∃ u,GS.m N=some u:=by
   show bj ((Cy N).mpr ((Cw N).mpr (.inl rfl))) λu hu _=>?_;show ⟨u,hu⟩
  rw[<-JG.1] at b0;rw[<-JG.2] at b9;left;show iY bO XY Q8.w λXW Ri XZ XX z17=>?_;(show oE Ny λu hu=>?_;clear Ny);have za3:({ GS with p:=Ri }:S).m N=some u:=hu;left;show q XW Y8 { GS with p:=Ri } _ N ((JG.1.trans An).trans (NC.trans JH)) XZ (Rq.trans XX) ⟨Q8.eq rfl rfl rfl rfl,XT.p Ri,z17.p,?_⟩ (λb hb=>?_) ?_ ?_
  .change ∃ x,GS.m GS.sel=some x/\x.sort=0;rw[OG,RU,RQ,QR];show (Cy _).mpr ((Cw _).mpr (.inr ((Cv _).mpr kF)))
  .change GS.g b GS.root=_;rw[Tu,Uo,RV,RS,Gp b,Jx,<-qZ b hb]
   show Cn b _ λe=>hN (by
    show bj w2.root λxr dZ _=>?_
    rw[<-e];show (w2.dom _).mpr ⟨xr,dZ⟩)
  .have h1:(mE s2).length=(mE s).length:=Di w.dom w2.dom w.knd w2.knd Cv;have h2:(mE ({ GS with p:=Ri }:S)).length=(mE s2).length+1:=GF w2.dom Q8.w.dom w2.knd Q8.w.knd hN λj=>(Cy j).trans (Cw j);show li 0x1010111010ffb76eac084185d5810810ba818130 rfl h1 h2
  .change GS.ks.length<=_;rw[RT,Nj,aB] at K8;simp at K8;show li 0x447feddba3023061746042042e8c08418130 rfl hkl K8
 left;show pE (EP.cn P y Al) (li 0x11ffb742403a110110 rfl KA) qg ?_;left;show bP (λh=>?_) λh=>?_
 .left;show vA (EP.cn P y Al) (by rw[J];show li 0x11ffb742403a110110 rfl KA) (li 137325748240 rfl) (by rw[J];show li 0x11ffb728303a418120 rfl vh) ?_;rw[dz];fail;show tail _ _ (by show li 0x11ffb740303a418120 rfl vh) (by rw[An,NC];rfl) rfl rfl rfl rfl rfl
 .left;show vA (EP.cn P y Al) (by rw[J];show li 0x11ffb742403a110110 rfl KA) (li 0x7fe5c0840a010 rfl) (by rw[J];show li 0x47fedca0f02103a418120 rfl vh) ?_;rw[show ((idxOf k y.ch:Int)+1).toNat=idxOf k y.ch+1 by show li 0x1000110101100ffb756042041ecd7a9003ca8302103af3e042041e5c0840a020 rfl (pL ((↑(idxOf k y.ch):Int)+1))];fail;show tail _ _ (li 0x47fedd00f02103a418120 rfl vh) (by rw[An,NC];rfl) rfl rfl rfl rfl rfl
end
section
variable {n:Nat} {hd:Bool} {H H':MH} {Y:Ly} {s s':S} {d d':Int->Nat} {k P K:Int} {x y:W} {Q:PQ} {E:MH->Prop}
theorem AQ{ch Qf:Int->List Int}(r:Rk ch d)(r':Rk Qf d'):∀ k,(∀ j∈pre ch k,Qf j=ch j)->pre Qf k=pre ch k:=by
 show r.ind λk ih h=>?_;rw[eE r,eE r',h k (bS r k)];congr 1;have:∀ l:List Int,(∀ c∈l,c∈ch k)->l.flatMap (pre Qf)=l.flatMap (pre ch):=λl=>by
  induction l with
  |nil=>show λ_=>rfl
  |cons c t iht=>
   intro hl;rw[aE,aE,iht λc m=>hl c (.tail _ m),ih c (hl c (.head _)) λj hj=>h j (eW r (hl c (.head _)) hj)]
 show this _ λc m=>m
theorem AV(bO:hd=false)(R:Rp H Y s)(I:Inv s d)(hx:s.m k=some x)
  (q:∀ H' Y' s' d',Y'.tp=Y.tp->Rp H' Y' s'->Mv (Own Y s) (Own Y' s') H H'->Inv s' d'->(∀ b,(b=0\/b=1)->s'.g b s'.root=s.g b s.root)->(mE s').length+(lg (aA s) k).length=(mE s).length->s'.ks.length<=s.ks.length->Q .none H') (e:∀ H',Ext H H'->E H') :
  br Fn (n+5) hd 39 [.ref Y.tp,.int k] H Q E:=by
 clear n hd H Y s d k x Q E _ bO R I hx q e;obtain ⟨T,G,PL,kF⟩:=I;have w:=T.w;show w_call rfl rfl ?_;unfold jB;left;show iZ R hx ?_;left;show bP (λh=>?_) λh=>?_
 .left;all_goals show gZ bO (e _ Ext.refl)
 have h0:x.par≠0:=of_decide_eq_false h;show bj (w.top k x hx λz=>h0 ((w.par_root hx).mpr z)) λy hy qg=>?_;have vp:=w.sort_of hy qg;have KA:=w.cl.chlen hy;have Gv:=T.len2 hy vp;show oA (eV qg) λ_ vh=>?_;show jn (n9 (b:=0) qg) λl1 l2 hch _ NI K7=>?_;left;generalize hPP:x.par=P at *
 have Z':k≠P:=w.kid_ne hy qg;have dA:=w.nd P y hy;show fL ?_;generalize kC:al y.sort=a;have ha:a=0\/a=1:=kC▸lS y.sort;left;show pE (R.cn P y hy) (li 0x11ffb742403a110110 rfl KA) qg ?_;fail;show ⟨lb rfl,λc1 Cc=>?_⟩;have X1:Ext H (upd H c1 (.tup [.int a,.int (idxOf k y.ch)])):=Ext.new Cc;have h1:upd H c1 (.tup [.int a,.int (idxOf k y.ch)]) c1=some (.tup [.int a,.int (idxOf k y.ch)]):=af _ _ _;generalize upd H c1 (.tup [.int a,.int (idxOf k y.ch)])=H1 at X1 h1;have R1:=R.ext X1;show fY h1 bO rfl ?_;have tail:∀ (o:Int) (ρ:Sto),o∈l1++l2->ρ 0=some (.ref Y.tp)->ρ 1=some (.int k)->ρ 2=some (.ref (Y.wa k))->ρ 3=some (.ref (Y.wa P))->ρ 4=some (.int a)->ρ 6=some (.int o)->
   wSs (br Fn (n+4)) hd (.cons (.asg (.one (.name 7)) (.bin .add (.mcall 0 2 (.idx (.attr (.var 0) 1 0) (.var 6)) (.cons (.var 4) .nil)) (.mcall 0 2 (.var 2) (.cons (.var 4) .nil)))) (.cons (.asg (.one (.name 8)) (.cmp .isin (.attr (.var 0) 1 6) (.call 14 (.cons (.var 0) (.cons (.var 1) .nil))))) (.cons (.expr (.lcall .remove (.attr (.var 3) 0 3) (.cons (.var 1) .nil))) (.cons (.expr (.call 18 (.cons (.var 0) (.cons (.var 1) .nil)))) (.cons (.expr (.call 23 (.cons (.var 0) (.cons (.var 6) (.cons (.var 4) (.cons (.var 7) .nil)))))) (.cons (.expr (.call 37 (.cons (.var 0) (.cons (.attr (.var 3) 0 0) .nil)))) (.cons (.expr (.call 24 (.cons (.var 0) .nil))) (.cons (.ite (.var 8) (.cons (.asg (.one (.attr (.var 0) 1 6)) (.call 38 (.cons (.var 0) (.cons (.call 14 (.cons (.var 0) (.cons (.attr (.var 0) 1 5) .nil))) .nil)))) .nil) .nil) .nil))))))))
   ρ H1 (λr _ H=>Flo.rec (motive:=λ_=>Prop) (Q .none H) (λv=>Q v H) r) (λ_ H=>E H):=by
  intro o ρ ho b0 b1 b2 b3 b4 b6;have tq:(l1++k::l2).Nodup:=hch▸dA;have WS:o∈y.ch:=by rw[hch];show cY (ak.mp ho)
  show bp (w.kid P y o hy WS) λxo UR hop _=>?_;have Im:=G.le w ha ⟨xo,UR⟩;have K5:=G.le w ha ⟨x,hx⟩;left;show eK R1 UR ha ?_;left;show eK R1 hx ha ?_;left;show sQ R1 w.cl ⟨x,hx⟩ λlv H2 X2 Ki Bt=>?_;have Kj:(lg (aA s) k).length<=1000:=aR (kI w.rk k) (w.cl.len k x hx);have R2:=R1.ext X2;show HX Bt (li 0x11ffb742403a110110 rfl Kj) ?_;generalize hgone:decide (s.sel∈lg (aA s) k)=gone;left;show Dg (R2.cn P y hy) (li 0x11ffb742403a110110 rfl KA) qg ?_;rw[NI];have R3:=R2.setC (l:=l1++l2) hy;have M3:Mv (Own Y s) (Own Y (s.setW P { y with ch:=l1++l2 })) H (upd H2 (Y.ca P) (.list ((l1++l2).map .int))):=by
   rw[Own.eqW hy];show (Mv.ext (X1.trans X2)).trans (Mv.upd (.inr (.inr ⟨P,y,hy,.inr (.inl rfl)⟩)))
  generalize upd H2 (Y.ca P) (.list ((l1++l2).map .int))=H3 at R3 M3;generalize xB:s.setW P { y with ch:=l1++l2 }=s3 at *
  have QA:s3.m P=some { y with ch:=l1++l2 }:=by rw[<-xB];show S.setW_self _ _ _
  have Iu:∀ j,j≠P->s3.m j=s.m j:=λj hj=>by rw[<-xB];show S.setW_ne _ _ hj
  have f3:s3.root=s.root/\s3.ks=s.ks/\s3.g=s.g/\s3.last=s.last/\s3.sel=s.sel:=by rw[<-xB];show ⟨rfl,rfl,rfl,rfl,rfl⟩
  (show iV f3 λYv Qi Yw Yx Yy=>?_;clear f3);have G9:k∈aA s P:=by rw[aF hy];show qg
  have vd:P∉pre (aA s) k:=cA w.rk G9;have ti:∀ j,j≠P->aA s3 j=aA s j:=λj hj=>by unfold aA;rw[Iu j hj]
  have Ce:aA s3 P=l1++l2:=aF QA;have LF:∀ j c,c∈aA s3 j->c∈aA s j:=λj c hc=>by
   by_cases e:j=P
   .rw[e,Ce] at hc;rw[e,aF hy,hch];show cY (ak.mp hc)
   .rw[ti j e] at hc;show hc
  have PI:Rk (aA s3) d:=λj c hc=>w.rk j c (LF j c hc);have Oh:l1++l2≠[]:=λz=>by rw[z] at ho;show iF ho
  have RJ:∀ j,(∃ u,s3.m j=some u)↔∃ u,s.m j=some u:=λj=>by
   by_cases e:j=P
   .rw[e];show ⟨λ_=>⟨y,hy⟩,λ_=>⟨_,QA⟩⟩
   .rw[Iu j e]
  have VY:Fo (aA s3) d (zf s):=⟨PI,λj=>by
   by_cases e:j=P
   .rw[e,Ce]
    show d4 (eL (fO _ _) _) tq
   .rw[ti j e];show w.fo.nd j,λj c hc=>w.fo.par j c (LF j c hc)⟩
  have P5:∀ j u c,s3.m j=some u->c∈u.ch->∃ v,s3.m c=some v:=λj u c hu hc=>by
   rw[<-aF hu] at hc;have iO:=LF j c hc;show oE ((RJ j).mp ⟨u,hu⟩) λu' Gr=>?_;rw[aF Gr] at iO;show bj (w.kid j u' c Gr iO) λv hv _=>?_;show (RJ c).mpr ⟨v,hv⟩
  have Vd:∀ j i,(∃ u,s3.m j=some u)->i∈pre (aA s3) j->∃ u,s3.m i=some u:=by
   intro j i;show PI.ind (P:=λj=>(∃ u,s3.m j=some u)->i∈pre (aA s3) j->∃ u,s3.m i=some u) (λj ih hj h=>?_) j;rcases (eJ PI).mp h with rfl|⟨c,hc,h⟩
   .show hj
   ·(show oE hj λu hu=>?_;clear hj);have nI:=hc;rw[aF hu] at nI;show ih c hc (P5 j u c hu nI) h
  have C3:Cl s3 d:=by
   show ⟨PI,P5,λj u hu=>?_,λj u hu=>?_⟩
   .by_cases e:j=P
    .rw[e,QA] at hu;cases hu;show ⟨λz=>absurd z vp,λz=>absurd z Oh⟩
    .rw[Iu j e] at hu;show w.lf j u hu
   .show aR (fk (VY.pre_nodup j) λi hi=>?_) w.len;show (w.dom i).mpr ((RJ i).mp (Vd j i ⟨u,hu⟩ hi))
  have Ov:pre (aA s3) k=pre (aA s) k:=AQ w.rk PI k λj hj=>ti j λz=>vd (z▸hj);have K9:s3.m k=some x:=by rw[Iu k Z'];show hx
  left;show AW R3 C3 (VY.pre_nodup k) ⟨x,K9⟩ λH4 R4 M4=>?_;rw[Ov] at R4 M4;have M4:=M3.trans M4;generalize xC:s3.dels (pre (aA s) k)=s4 at *
  have Kl:∀ j,j∉pre (aA s) k->s4.m j=s3.m j:=λj hj=>by rw[<-xC];show S.dels_m hj
  have f4:s4.root=s3.root/\s4.ks=s3.ks.filter (λj=>decide (j∉pre (aA s) k))/\s4.g=s3.g/\s4.last=s3.last/\s4.sel=s3.sel:=by rw[<-xC];show ⟨rfl,rfl,rfl,rfl,rfl⟩
  (show iV f4 λQj HZ Qk RW RX=>?_;clear f4);have CH:rg s s4 P k y l1 l2:=by
   show ⟨hy,hch,by rw[Kl P vd];show QA,λj hj=>by rw[<-xC];show if_pos hj,λj h1 h2=>by rw[Kl j h2,Iu j h1],by rw[Qj,Yv],λj=>?_,?_,?_,by rw[RW,Yx]⟩
   .rw[HZ,Qi,bV];simp
   .rw[HZ,Qi];show w.knd.filter _
   .rw[HZ,Qi];show aR (bZ _ _) w.len
  have T4:=Ju T CH;have w4:=T4.w;have As:s4.g=s.g:=by rw[Qk,Yw]
  have JM:=Js w CH G kC As;have Gd:=Jt w CH;show gM (CH.facts w) λ_ Uu V9 _=>?_;have Ui:o∉pre (aA s) k:=(V9 o (ak.mp ho)).2;have hoP:o≠P:=w.kid_ne hy WS;have Gu:s4.m o=some xo:=by rw[Kl o Ui,Iu o hoP];show UR
  have EW:s4.m P=some { y with ch:=l1++l2 }:=CH.hmP;have Uh:o∈aA s4 P:=by rw[aF EW];show ho
  have Zm:P∉pre (aA s4) o:=cA w4.rk Uh;have Yp:∀ j,(∃ u,s4.m j=some u)->∃ u,s.m j=some u:=λj ⟨u,hu⟩=>by
   have:=(w4.dom j).mpr ⟨u,hu⟩;rw[CH.hks] at this;show (w.dom j).mp this.1
  have VZ:∀ j∈pre (aA s4) o,AxL s4 a (s4.g a) j/\s4.g a j<=100000:=λj hj=>by
   have WE:=w4.pre_at o ⟨xo,Gu⟩ hj;show ⟨JM a j ha WE (.inr λz=>Zm (z▸hj)),?_⟩;rw[As];have:=(G.le w ha (Yp j WE)).2;show li 0x11ffb72ab019550001 rfl this
  have Od:=yX w4.cl o ⟨xo,Gu⟩ λj hj=>(VZ j hj).1;rw[As] at Od;left;show mm bO R4 w4 ha ⟨xo,Gu⟩ (li 0x4407feddb97000080b28405af2aa019402003 rfl K5 Od) (li 0x44043feddb955e004035e5540b28241af2aa019402002 rfl Im K5) VZ λH5 g5 R5 M5 z5=>?_;have KW:Mid s4 a P s4.g s4.g []:=⟨λj hj Au=>JM a j ha hj (.inr Au),λ_ _ _=>rfl,λ_ _=>rfl⟩
  have KY:=KW.step w4 ⟨xo,Gu,hop⟩ z5;have Iv:o∈({ y with ch:=l1++l2 }:W).ch:=ho
  obtain ⟨G5,Kw⟩:=KY.gm w4 ha (λb j hb EY hj=>JM b j hb hj (.inl EY)) (λb hb=>by rw[CH.hr,As];show G.bd b hb) EW vp kC (λc hc=>by
    rw[eu] at hc
    rw[aa.mp hc];show Iv) (by
   show jQ (n9 (b:=0) ho) λm1 m2 hm _=>?_
   have U6:=w4.nd P _ EW
   have JL:∀ c,c∈m1\/c∈m2->g5 a c=s.g a c:=λc hc=>by
    have mU:c∈l1++l2:=by rw[hm];show cY hc
    have wD:c≠o:=by
     have:(m1++o::m2).Nodup:=hm▸U6
     show m9 this hc
    rw[z5.1 a c (.inr (w4.apart EW Iv mU wD)),As]
   change aI ((l1++l2).map (g5 a))=_
   have h1:=(G.ax a P ha ⟨y,hy⟩).al y hy vp kC
   have h2:aI ((l1++l2).map (s.g a))+s.g a k=aI (y.ch.map (s.g a)):=by
    rw[hch,qs];show li 0x11ff9f000058010002 rfl
   rw[hm] at h2 ⊢
   rw[qs] at h2 ⊢
   rw[z5.2.1,As]
   rw[aD,bz] at h2 ⊢
   rw[aX λc m=>JL c (.inl m),aX λc m=>JL c (.inr m)]
   show li 0x1010111010ffb76e705830080d80504ce0300ac180406099c10006 rfl h1 h2)
  have T5:Tr { s4 with g:=g5 } d P 0:=T4.eq rfl rfl rfl rfl;have M5:Mv (Own Y s) (Own Y { s4 with g:=g5 }) H H5:=M4.trans M5;have NA:({ s4 with g:=g5 }:S).m P=some { y with ch:=l1++l2 }:=EW;have Kf:∀ j,(∃ z,({ s4 with g:=g5 }:S).m j=some z/\z.sort=0)↔(∃ z,s.m j=some z/\z.sort=0)/\j∉pre (aA s) k:=Gd;have f5:({ s4 with g:=g5 }:S).root=s4.root/\({ s4 with g:=g5 }:S).ks=s4.ks/\({ s4 with g:=g5 }:S).sel=s4.sel/\({ s4 with g:=g5 }:S).g=g5:=⟨rfl,rfl,rfl,rfl⟩
  generalize ({ s4 with g:=g5 }:S)=s5 at *
  (show gM f5 λVQ RY RZ VR=>?_;clear f5);left;show AZ R5 T5 G5 NA vp λH6 Y6 s6 SD R6 M6 T6 G6 TR Ut O0 za1 Ux=>?_;have M6:=M5.trans M6;rw[<-SD] at b0;left;show iY bO R6 T6.w λH7 p7 R7 M7 z7=>?_;have M7:=M6.trans M7;have T7:Tr { s6 with p:=p7 } d 0 0:=T6.eq rfl rfl rfl rfl;have G7:=G6.p p7;have z7:=z7.p;have Kg:∀ j,(∃ z,({ s6 with p:=p7 }:S).m j=some z/\z.sort=0)↔(∃ z,s.m j=some z/\z.sort=0)/\j∉pre (aA s) k:=λj=>(TR j).trans (Kf j);have OA:∀ b,(b=0\/b=1)->({ s6 with p:=p7 }:S).g b ({ s6 with p:=p7 }:S).root=s.g b s.root:=λb hb=>by
   change s6.g b s6.root=_;rw[Ut b hb,VR,VQ,Kw b,CH.hr,As]
  have Uy:({ s6 with p:=p7 }:S).sel=s.sel:=by
   change s6.sel=_;rw[Ux,RZ,RX,Yy]
  have Cq:({ s6 with p:=p7 }:S).ks.length<=s.ks.length:=by
   change s6.ks.length<=_;rw[RY,HZ,Qi] at O0;show aR O0 (bZ _ _)
  have M7:Mv (Own Y s) (Own Y6 { s6 with p:=p7 }) H H7:=M7;have Rn:Plp ({ s6 with p:=p7 }:S) ({ s6 with p:=p7 }:S).p:=z7;generalize ({ s6 with p:=p7 }:S)=s7 at *
  have w7:=T7.w;have oh:(mE s7).length+(lg (aA s) k).length=(mE s).length:=by
   rw[<-aB];show iU (aL.mpr ⟨fv w7.knd,w.fo.lvs_nodup k,λu hu v hv z=>?_⟩) (fv w.knd) λj=>?_
   .have h1:=((Kg u).mp ((eI w7.dom).mp hu)).2;rw[z] at h1;show h1 ((fH w.rk k).mp hv).1
   .rw[ak,eI w7.dom,Kg j,eI w.dom,fH w.rk];constructor
    .rintro (⟨h,_⟩|⟨h1,h2⟩)
     .show h
     .show oE (w.pre_at k ⟨x,hx⟩ h1) λu hu=>?_;rw[aF hu] at h2;show ⟨u,hu,(w.lf j u hu).mpr h2⟩
    .rintro ⟨u,hu,hs⟩;by_cases hj:j∈pre (aA s) k
     .show .inr ⟨hj,by rw[aF hu];show (w.lf j u hu).mp hs⟩
     .show .inl ⟨⟨u,hu,hs⟩,hj⟩
  left;show bP (λh=>?_) λh=>?_
  .show bj w7.root λxr dZ _=>?_;left;show sQ R7 w7.cl ⟨xr,dZ⟩ λlv8 H8 X8 _ TU=>?_;have R8:=R7.ext X8;left;show B6 R8 TU (Dm w7.rk _) (λj hj=>w7.pre_at _ ⟨xr,dZ⟩ ((fH w7.rk _).mp hj).1) λj hj=>?_;left;show bX R8.tr (lb rfl) ?_;have R9:=R8.setT (s':={ s7 with sel:=j }) rfl rfl rfl rfl;left;show q _ Y6 { s7 with sel:=j } d SD R9 ((M7.trans (Mv.ext X8)).trans (Mv.upd (.inl rfl))) ⟨T7.eq rfl rfl rfl rfl,G7.eq rfl rfl rfl,?_,?_⟩ OA oh Cq
   .show ⟨Rn.1,Rn.2.1,λi hi=>by have:=Rn.2.2 i hi;show ⟨this.al,this.ac⟩⟩
   .have:=(mZ w7 j).mp hj;show (eI w7.dom).mp this
  .have hng:s.sel∉lg (aA s) k:=by rw[h] at hgone;show of_decide_eq_false hgone
   left;show q H7 Y6 s7 d SD R7 M7 ⟨T7,G7,Rn,?_⟩ OA oh Cq;rw[Uy];show (Kg _).mpr ⟨kF,λhp=>hng ?_⟩;(show bj kF λu hu hs=>?_;clear kF);show (fH w.rk k).mpr ⟨hp,by rw[aF hu];show (w.lf _ u hu).mp hs⟩
 have hlen:y.ch.length=l1.length+(l2.length+1):=by rw[hch];simp
 left;show bP (λh=>?_) λh=>?_
 .have hi:idxOf k y.ch-1<l1.length:=li 0x4040044040407feddbb74830bb3501c0842ebd4802e8420730141a818130 rfl K7 (dT h) (ef (idxOf k y.ch) 1);show fj<|fs<|aO rfl<|f7 (R1.wn P y hy) rfl<|gD<|aO rfl<|cf<|mJ ?_;show cW (v:=.int l1[idxOf k y.ch-1]) (R1.cn P y hy) (li 0x47fedcb8908141980a010 rfl (dT h)) (li 0x111ffb76e6c891062420f48107a110120 rfl KA vh) ?_ ?_
  .rw[au,show ((idxOf k y.ch:Int)-1).toNat=idxOf k y.ch-1 by show li 0x1000101010011000010101000011001010110010010101010000ffb76ea0a0f66a0381085d7a9005d0840ecd7a9003ca8312103af3e242041e5c4840a030 rfl (pL ((↑(idxOf k y.ch):Int)-1)) (ef (idxOf k y.ch) 1)];have:y.ch[idxOf k y.ch-1]?=some l1[idxOf k y.ch-1]:=by
    conv=>lhs;rw[hch]
    rw[List.getElem?_append_left (by rw[<-hch];show hi),<-hch];show aU hi
   rw[this];rfl
  .fail;show tail _ _ (aM _ (Bk hi)) rfl rfl rfl rfl rfl rfl
 .have hz:idxOf k y.ch=0:=by have:=of_decide_eq_false h;show li 0x4443fedd4800eecc0502010 rfl (dF h)
  have xx:l1=[]:=List.eq_nil_of_length_eq_zero (li 0x1011010000ffb76ea400f52003a818120 rfl K7 hz);clear NI K7 hlen;subst xx;obtain ⟨o,t,ht⟩:∃ o t,l2=o::t:=bR λz=>by
   rw[hch,z] at Gv;simp at Gv
  show fj<|fs<|aO rfl<|f7 (R1.wn P y hy) rfl<|cf ?_;show cW (i:=1) (v:=.int o) (R1.cn P y hy) (by decide) (by decide) (by rw[hch,ht];rfl) ?_;fail;show tail _ _ (by rw[ht];simp) rfl rfl rfl rfl rfl rfl
end
section
variable {n:Nat} {hd:Bool} {H H':MH} {Y:Ly} {s s':S} {d d':Int->Nat} {k P K:Int} {x y:W} {Q:PQ} {E:MH->Prop}
theorem Jn{v:Int}{p:Nat}{es:List (Int×Val)}{R:Bool->Prop}(e:H p=some (.dict es))(h:R (!(jy es).contains v)):gy .notin (.int v) (.ref p) H R:=qy e (uU e h)
theorem HY{p r:Nat}{l m:List Int}{R:Bool->Prop}(e1:H p=some (.list (l.map .int)))(e2:H r=some (.list (m.map .int)))(h1:l.length<=lim)(h2:m.length<=lim)(h:R (!decide (l=m))):gy .ne (.ref p) (.ref r) H R:=by
 show fD e1 (fD e2 ⟨by rw[J];show h1,by rw[J];show h2,?_⟩);unfold og;simp only[J,eS];by_cases e:l.length=m.length
 .rw[if_pos e];show h
 .rw[if_neg e];rw[decide_eq_false (λz=>e (by rw[z]))] at h;show h
theorem vt{a b:Int}:∀ {l:List Int},b∈insI a l↔b=a\/b∈l:=by
 intro l;induction l with
 |nil=>
  unfold insI;simp
 |cons y r ih=>
  unfold insI;by_cases e:a<=y
  .rw[if_pos e];simp
  .rw[if_neg e,ag,ih,ag];constructor
   .rintro (h|h|h)
    .show .inr (.inl h)
    .show .inl h
    .show .inr (.inr h)
   .rintro (h|h|h)
    .show .inr (.inl h)
    .show .inl h
    .show .inr (.inr h)
theorem lr{b:Int}:∀ {l:List Int},b∈sortI l↔b∈l:=by
 intro l;induction l with
 |nil=>
  show Bh
 |cons y r ih=>
  unfold sortI;rw[vt,ih,ag]
theorem CU{a:Int}:∀ {l:List Int},l.Pairwise (· < ·)->a∉l->(insI a l).Pairwise (· < ·):=by
 intro l;induction l with
 |nil=>
  intro _ _;unfold insI;simp
 |cons y r ih=>
  intro h hn;show oA (cR.mp h) λh1 h2=>?_;unfold insI;have Zu:a≠y:=λe=>hn (by rw[e];show .head _);by_cases e:a<=y
  .rw[if_pos e];show cR.mpr ⟨λz hz=>?_,h⟩;clear h hn;rcases ag.mp hz with rfl|hz
   .show li 0x11101ffb76e6040328201bc10002 rfl Zu e
   .have:=h1 z hz;show li 0x111ffb76e60803304059410003 rfl e this
  .rw[if_neg e];show cR.mpr ⟨λz hz=>?_,ih h2 λm=>hn (.tail _ m)⟩;rcases vt.mp hz with rfl|hz
   .show li 0x47fedcc0016eca0802002 rfl e
   .show h1 z hz
theorem sO:∀ {l:List Int},l.Nodup->(sortI l).Pairwise (· < ·):=by
 intro l;induction l with
 |nil=>
  intro _;show List.Pairwise.nil
 |cons y r ih=>
  intro h;show oA (aQ.mp h) λh1 h2=>?_;show CU (ih h2) λm=>h1 (lr.mp m)
theorem BG:∀ {l m:List Int},l.Pairwise (· < ·)->m.Pairwise (· < ·)->(∀ z,z∈l↔z∈m)->l=m
 |[],[],_,_,_=>rfl
 |[],y::r,_,_,h=>absurd ((h y).mpr (.head _)) (bW)
 |y::r,[],_,_,h=>absurd ((h y).mp (.head _)) (bW)
 |a::l,b::m,h1,h2,h=>by
  show oA (cR.mp h1) λa1 a2=>?_
  show oA (cR.mp h2) λb1 b2=>?_
  have SG:a=b:=by
   have ha:=(h a).mp (.head _);have hb:=(h b).mpr (.head _);rcases ag.mp ha with e|e
   .show e
   .rcases ag.mp hb with e2|e2
    .show e2.symm
    .have q1:=a1 b e2;have q2:=b1 a e;show li 0x11011ffb76e70403300059810002 rfl q1 q2
  clear h2
  subst SG
  rewrite [BG a2 b2 λz=>?_]
  .rfl
  constructor
  .intro hz
   rcases ag.mp ((h z).mp (.tail _ hz)) with e|e
   .have:=a1 z hz;show (li 0x407fedda83300059c10002 rfl e this).elim
   .show e
  .intro hz
   rcases ag.mp ((h z).mpr (.tail _ hz)) with e|e
   .have:=b1 z hz;show (li 0x407fedda83300059c10002 rfl e this).elim
   .show e
theorem Eg{l m:List Int}(h1:l.Nodup)(h2:m.Nodup)(h:∀ z,z∈l↔z∈m):sortI l=sortI m :=
 BG (sO h1) (sO h2) λz=>by rw[lr,lr];show h z
theorem oz:∀ l:List Int,(sortI l).length=l.length:=by
 intro l;induction l with
 |nil=>
  show rfl
 |cons y r ih=>
  have:∀ (a:Int) (l:List Int),(insI a l).length=l.length+1:=λa l=>by
   induction l with
   |nil=>rfl
   |cons z t ih=>unfold insI;split<;>simp[ih]
  unfold sortI;rw[this,ih,aH]
theorem Bz{p g:Int->Int}{c:Int}:∀ {l:List Int} {z:Int} {i:Nat},Con p g l z->l[i]?=some c->p c=z+aI ((l.take i).map g)
 |[],z,i,_,h=>by simp at h
 |y::r,z,0,hc,h=>by
  simp at h;subst h
  simp[aI];show hc.1
 |y::r,z,i+1,hc,h=>by
  simp at h
  rw[Bz hc.2 h,List.take_succ_cons,aq,bc];show li 0x11ff9f0600808060098010003 rfl
theorem Eo(bO:hd=false)(R:Rp H Y s)(I:Inv s d)(hx:s.m k=some x)(q:∀ H',Ext H H'->Q .none H'):br Fn (n+2) hd 31 [.ref Y.tp,.int k] H Q E:=by
 clear n hd H Y s d k x Q E _ bO R I hx q;obtain ⟨T,G,PL,_⟩:=I;have w:=T.w;have gJ:=w.cl.chlen hx;have hP:=PL.2.2 k (w.all ⟨x,hx⟩);show w_call rfl rfl ?_;unfold kA;left;show bP (λh=>?_) λh=>?_
 .have hs:x.sort=0:=of_decide_eq_true h;have hch:=(w.lf k x hx).mp hs;have h0:=(G.ax 0 k (.inl rfl) ⟨x,hx⟩).lf x hx hs;have h1:=(G.ax 1 k (.inr rfl) ⟨x,hx⟩).lf x hx hs;left;show ⟨cB _,λc hc=>?_⟩;have R1:=R.new (o:=.list []) hc;show uL (R1.cn k x hx) (af _ _ _) (by rw[J];show li 0x11ffb742403a110110 rfl gJ) ?_;rw[hch];have X1:Ext H (upd H c (.list [])):=Ext.new hc;generalize upd H c (.list [])=H1 at R1 X1;show rq ?_;left;show bP (λh=>?_) λh=>?_
  .have h0:3<=s.g 0 k:=h0;show (li 0x47fedda832804b9928001 rfl (dT h) h0).elim
  left;show bP (λh=>?_) λh=>?_
  .have h1:2<=s.g 1 k:=h1;show (li 0x47fedda83280479918001 rfl (dT h) h1).elim
  left;show q _ X1
 .have hs:x.sort≠0:=of_decide_eq_false h;have qh:=T.len2 hx hs;left;show f_len (R.cn k x hx) (by rw[J];show li 0x11ffb742403a110110 rfl gJ) ?_;left;show bP (λh=>?_) λh=>?_
  .rw[J] at h;show (li 0x47fedda8332303a00a310 rfl qh (dT h)).elim
  left;show fL ?_;have Zk:=hP.al x hx;have Zl:=hP.ac x hx;generalize Ms:al x.sort=a at *
  have ha:a=0\/a=1:=Ms▸lS x.sort;have Ah:(1-a)=0\/(1-a)=1:=li 0x1100110101001011010100110100101ffb76674388021ce8310043b33a1019d00001 rfl ha;have hA:=(G.ax a k ha ⟨x,hx⟩).al x hx hs Ms;have hB:=(G.ax (1-a) k Ah ⟨x,hx⟩).ac x hx hs (by rw[Ms];show li 0x4080040bfeddf8802101b33a1c4010e7418802101 rfl Ah);left;show fL ?_;rw[Ms];left;show kR R hx ha ?_;fail;show ⟨lb rfl,λc hc=>?_⟩;have X1:Ext H (upd H c (.tup [.int a,.int (s.p a k)])):=Ext.new hc;have h1:upd H c (.tup [.int a,.int (s.p a k)]) c=some (.tup [.int a,.int (s.p a k)]):=af _ _ _;generalize upd H c (.tup [.int a,.int (s.p a k)])=H1 at X1 h1;have R1:=R.ext X1;show fY h1 bO rfl ?_;left;rw[cK (R1.cn k x hx)];show cJ (λi ρ H2=>ρ 0=some (.ref Y.tp)/\ρ 1=some (.int k)/\ρ 2=some (.ref (Y.wa k))/\ρ 3=some (.int a)/\H2=H1/\ρ 4=some (.int (s.p a k+aI ((x.ch.take i).map (s.g a))))) _ ?_ ?_
   ⟨rfl,rfl,rfl,rfl,rfl,by change some (Val.int (s.p a k))=_;simp[aI]⟩
  .clear X1 h1;rintro i it ρ H2 hit ⟨e0,e1,e2,e3,eH,e4⟩;subst eH;show ⟨λb m=>rfl,λK hK th=>?_⟩;rw[au] at hit;cases hz:x.ch[i]? with
   |none=>rw[hz] at hit;show cz hit
   |some c=>
    rw[hz] at hit;cases hit;show oE (ao.mp hz) λhi hg=>?_;have ig:=aw hz;show bp (w.kid k x c hx ig) λz cC yK _=>?_;have Kn:=T.no hx ig cC;have SN:=Bz Zk hz;have Mt:=Zl c ig;have Zw:=hB c ig;change wSs _ _ _ (upd ρ 5 (.int c)) _ _ _;left;try change zH _ _ _ _ _ _ _
    left;show bP (λh=>?_) λ_=>?_
    .rw[yK] at h;simp at h
    left;show bP (λh=>?_) λ_=>?_
    .show absurd (of_decide_eq_true h) Kn
    left;show kR R1 cC ha ?_;left;show bP (λh=>?_) λ_=>?_
    .rw[SN] at h;simp at h
    left;show kR R1 cC Ah ?_;left;show kR R1 hx Ah ?_;left;show bP (λh=>?_) λ_=>?_
    .rw[Mt] at h;simp at h
    left;show eK R1 cC Ah ?_;left;show eK R1 hx Ah ?_;left;show bP (λh=>?_) λ_=>?_
    .rw[Zw] at h;simp at h
    left;show eK R1 cC ha ?_;left;show hK _ _ ⟨e0,e1,e2,e3,rfl,?_⟩;change some (Val.int _)=_;rw[az hi,hg,aD,bz];simp[aI];show li 0x11ff9f0600808060098010003 rfl
  .rintro ρ H2 ⟨e0,e1,e2,e3,eH,e4⟩;subst eH;show ⟨λb m=>rfl,?_⟩;rw[J,bC,hA] at e4;left;show kR R1 hx ha ?_;left;show eK R1 hx ha ?_;left;show bP (λ_=>?_) λh=>?_
   .left;show q _ X1
   .show absurd rfl (of_decide_eq_false h)
theorem Eh(bO:hd=false)(R:Rp H Y s)(I:Inv s d)(hl:s.ks.length<64)(q:∀ H',Ext H H'->Q .none H'):br Fn (n+3) hd 32 [.ref Y.tp] H Q E:=by
 clear n hd H Y s d Q E _ bO R I hl q;have I':=I;obtain ⟨T,G,PL,kF⟩:=I;have w:=T.w;show bj w.root λxr dZ IC=>?_;have Ot:=PL.1;have MI:=PL.2.1;have QO:=w.cl.len _ _ dZ;have QN:(pre (aA s) s.root).length<=s.ks.length:=fk (w.fo.pre_nodup _) λj hj=>(w.dom j).mpr (w.pre_at _ ⟨xr,dZ⟩ hj);show w_call rfl rfl ?_;unfold mS;left;try change zH _ _ _ _ _ _ _
 left;show bP (λh=>?_) λ_=>?_
 .rw[IC] at h;simp at h
 left;show bP (λh=>?_) λ_=>?_
 .rw[Ot] at h;simp at h
 left;show bP (λh=>?_) λ_=>?_
 .rw[MI] at h;simp at h
 left;show sS R w.cl ⟨xr,dZ⟩ λr H1 X1 Bw hr=>?_;have R1:=R.ext X1;left;rw[cK hr];show cJ (λi ρ H2=>ρ 0=some (.ref Y.tp)/\ρ 2=some (.ref r)/\Ext H1 H2) _ ?_ ?_ ⟨rfl,rfl,Ext.refl⟩
 .rintro i it ρ H2 hit ⟨e0,e2,X2⟩;show ⟨λb m=>by rw[aa.mp m,hr];show X2 _ _ hr,λK hK th=>?_⟩;rw[au] at hit;cases hz:(pre (aA s) s.root)[i]? with
  |none=>rw[hz] at hit;show cz hit
  |some c=>
   rw[hz] at hit;cases hit;show oE (w.pre_at _ ⟨xr,dZ⟩ (aw hz)) λz cC=>?_;change wSs _ _ _ (upd ρ 3 (.int c)) _ _ _;left;show Eo bO (R1.ext X2) I' cC λH3 X3=>?_;left;show hK _ _ ⟨e0,e2,X2.trans X3⟩
 .rintro ρ H2 ⟨e0,e2,X2⟩;show ⟨λb m=>by rw[aa.mp m,hr];show X2 _ _ hr,?_⟩;have tv:=X2 _ _ hr;have R2:=R1.ext X2;left;show C8 bO tv (li 0x111ffb76e9600f40107a580120 rfl hl QN) λc1 Cc=>?_;have X3:Ext H2 (upd H2 c1 (.list ((sortI (pre (aA s) s.root)).map .int))):=Ext.new Cc;have h3:upd H2 c1 (.list ((sortI (pre (aA s) s.root)).map .int)) c1=some (.list ((sortI (pre (aA s) s.root)).map .int)):=af _ _ _;generalize upd H2 c1 (.list ((sortI (pre (aA s) s.root)).map .int))=H3 at X3 h3;have R3:=R2.ext X3;left;show sk bO R3.dc (by unfold dl;rw[J];show hl) λc2 nI=>?_;rw[q8];have X4:Ext H3 (upd H3 c2 (.list ((sortI s.ks).map .int))):=Ext.new nI;have h4:upd H3 c2 (.list ((sortI s.ks).map .int)) c2=some (.list ((sortI s.ks).map .int)):=af _ _ _;generalize upd H3 c2 (.list ((sortI s.ks).map .int))=H4 at X4 h4;have R4:=R3.ext X4;have heq:sortI (pre (aA s) s.root)=sortI s.ks:=Eg (w.fo.pre_nodup _) w.knd λj=>⟨λhj=>(w.dom j).mpr (w.pre_at _ ⟨xr,dZ⟩ hj),λhj=>w.all ((w.dom j).mp hj)⟩
  show HY (X4 _ _ h3) h4 (by rw[oz];show li 0x111ffb76e8480f40107a580120 rfl hl QN) (by rw[oz];show li 0x11ffb742403a580110 rfl hl) ?_;show bP (λh=>?_) λ_=>?_
  .rw[heq] at h;simp at h
  left;show sQ R4 w.cl ⟨xr,dZ⟩ λlv H5 X5 _ Bt=>?_;have Kj:=aR (kI w.rk s.root) QO;show HX Bt (li 0x11ffb742403a110110 rfl Kj) ?_;show bP (λ_=>?_) λh=>?_
  .left;show q _ (X1.trans (X2.trans (X3.trans (X4.trans X5))))
  .show absurd ?_ (of_decide_eq_false h);show (mZ w _).mpr ((eI w.dom).mpr kF)
end
section
variable {n:Nat} {hd:Bool} {H H':MH} {Y:Ly} {s s':S} {d d':Int->Nat} {k P K:Int} {x y:W} {Q:PQ} {E:MH->Prop}
theorem Con.span{p g:Int->Int}:∀ {l:List Int} {z:Int},Con p g l z->(∀ c∈l,0<=g c)->(∀ c∈l,z<=p c/\p c+g c<=z+aI (l.map g))/\0<=aI (l.map g):=by
 intro l;induction l with
 |nil=>
  intro z _ _;show ⟨λc m=>(iF m),aY _⟩
 |cons y r ih=>
  intro z h hg;show oA (ih h.2 λc m=>hg c (.tail _ m)) λh1 h2=>?_;have hy:=hg y (.head _);have hz:=h.1;rw[aq,bc];show ⟨λc m=>?_,li 0x447feddb970000483282419402002 rfl h2 hy⟩;clear h hg;rcases ag.mp m with rfl|m
  .show li 0x40444403feddbaf2e0c000304c0181650413384059402004 rfl h2 hz
  .have:=h1 c m;show li 0x44004047feddbaf2e0c020002c018265080b5e5c0230000580304ca13000059402005 rfl hy this
theorem Con.apart{p g:Int->Int}:∀ {l:List Int} {z:Int},Con p g l z->(∀ c∈l,0<=g c)->∀ c∈l,∀ c'∈l,c≠c'->p c+g c<=p c'\/p c'+g c'<=p c:=by
 intro l;induction l with
 |nil=>
  intro z _ _ c m _ _ _;show (iF m)
 |cons y r ih=>
  intro z h hg c m c' m' cV;have h1:=(Con.span h.2 λc m=>hg c (.tail _ m)).1;have hz:=h.1;rcases ag.mp m with e|m
  .rcases ag.mp m' with e'|m'
   .show absurd (e.trans e'.symm) cV
   .show .inl ?_;have:=h1 c' m';rw[e];show li 0x40407feddb9436008035e5c02b0040580406ca1b004059c10006 rfl hz this
  .rcases ag.mp m' with e'|m'
   .right;have:=h1 c m;rw[e'];show li 0x40407feddb9436008035e5c02b0040580406ca1b004059c10006 rfl hz this
   .show ih h.2 (λc m=>hg c (.tail _ m)) c m c' m' cV
theorem inside(w:WF0 s d)(G:Gm s)(PL:Plp s s.p){b:Int}(hb:b=0\/b=1):∀ k,(∃ x,s.m k=some x)->∀ j∈pre (aA s) k,s.p b k<=s.p b j/\s.p b j+s.g b j<=s.p b k+s.g b k:=by
 show w.rk.ind λk ih ⟨x,hx⟩ j hj=>?_;rcases (eJ w.rk).mp hj with rfl|⟨c,hc,hj⟩
 .show ⟨aY _,aY _⟩
 .have ig:=hc;rw[aF hx] at ig;show bj (w.kid k x c hx ig) λu hu _=>?_;have h1:=ih c hc ⟨u,hu⟩ j hj;have hP:=PL.2.2 k (w.all ⟨x,hx⟩);have hs:=w.sort_of hx ig;have hA:=G.ax b k hb ⟨x,hx⟩;by_cases e:al x.sort=b
  .have FN:=hP.al x hx;rw[e] at FN
   have QT:=(Con.span FN λc m=>by
    show bj (w.kid k x c hx m) λv hv _=>?_
    show (G.le w hb ⟨v,hv⟩).1).1 c ig
   rw[hA.al x hx hs e] at QT;show li 0x1101010101ffb76ebcb80508c01016504235e5c0284600c0328011af2e00c03004059410006 rfl h1 QT
  .have e2:1-al x.sort=b:=by have:=lS x.sort;show li 0x110010001110110010001110110010010101110010101001110010101001001110001110110010010101010101010101ffb76edce0310243b33a1059d002dd9c00241b33a1019d00002 rfl hb e this
   have h2:=hP.ac x hx c ig;rw[e2] at h2;have h3:=hA.ac x hx hs e c ig;show li 0x10101101001001ffb76edd79700a1180202ca08467141b38801af2e00c03004059410006 rfl h1 h2 h3
noncomputable def Dj(s:S)(i j:Int):Prop:=∃ b,(b=0\/b=1)/\(s.p b i+s.g b i<=s.p b j\/s.p b j+s.g b j<=s.p b i)
theorem RI(w:WF0 s d)(G:Gm s)(PL:Plp s s.p):∀ k,(∃ x,s.m k=some x)->∀ i∈lg (aA s) k,∀ j∈lg (aA s) k,i≠j->Dj s i j:=by
 show w.rk.ind λk ih ⟨x,hx⟩ i hi j hj cV=>?_;rw[kH w.rk] at hi hj;by_cases e:aA s k=[]
 .rw[if_pos e] at hi hj;show absurd ((aa.mp hi).trans (aa.mp hj).symm) cV
 .rw[if_neg e] at hi hj;show bj (cG.mp hi) λc hc hi=>?_;show bj (cG.mp hj) λc' iO hj=>?_;have ig:=hc;have FT:=iO;rw[aF hx] at ig FT;show bj (w.kid k x c hx ig) λu hu _=>?_;show bj (w.kid k x c' hx FT) λu' Gr _=>?_;by_cases ec:c=c'
  .clear iO FT Gr;subst ec;show ih c hc ⟨u,hu⟩ i hi j hj cV
  .have hb:=lS x.sort;have FN:=(PL.2.2 k (w.all ⟨x,hx⟩)).al x hx
   have JL:=Con.apart FN (λc m=>by
    show bj (w.kid k x c hx m) λv hv _=>?_
    show (G.le w hb ⟨v,hv⟩).1) c ig c' FT ec
   have h1:=inside w G PL hb c ⟨u,hu⟩ i ((fH w.rk c).mp hi).1;have h2:=inside w G PL hb c' ⟨u',Gr⟩ j ((fH w.rk c').mp hj).1;show ⟨_,hb,li 0x10100110101101ffb76edd9944601c3328cc02846bcb80304c03866518135e5c008060142328801b3280c018265098010008 rfl JL h1 h2⟩
theorem tH{f:Int->List Int}{h:Int->Int}:∀ l:List Int,aI ((l.flatMap f).map h)=aI (l.map λc=>aI ((f c).map h)):=by
 intro l;induction l with
 |nil=>
  show rfl
 |cons c r ih=>
  rw[aE,aD,bz,aq,bc,ih]
theorem xF{f:Int->Int}(z:Int):∀ l:List Int,aI (l.map λx=>f x*z)=aI (l.map f)*z:=by
 intro l;induction l with
 |nil=>
  simp[aI]
 |cons x r ih=>
  rw[aq,aq,bc,bc,ih,Int.add_mul]
theorem Rz(w:WF0 s d)(G:Gm s):∀ k,(∃ x,s.m k=some x)->aI ((lg (aA s) k).map λj=>s.g 0 j*s.g 1 j)=s.g 0 k*s.g 1 k:=by
 show w.rk.ind λk ih ⟨x,hx⟩=>?_;rw[kH w.rk];by_cases e:aA s k=[]
 .rw[if_pos e];show fQ _
 .rw[if_neg e,tH];have hex:∀ c∈aA s k,∃ u,s.m c=some u:=λc hc=>by
   rw[aF hx] at hc;show bj (w.kid k x c hx hc) λu hu _=>?_;show ⟨u,hu⟩
  rw[aX λc hc=>ih c hc (hex c hc)];rw[aF hx] at e ⊢;have hs:x.sort≠0:=λz=>e ((w.lf k x hx).mp z);have h0:=G.ax 0 k (.inl rfl) ⟨x,hx⟩;have h1:=G.ax 1 k (.inr rfl) ⟨x,hx⟩;rcases lS x.sort with ea|ea
  .rw[aX λc hc=>by rw[h1.ac x hx hs (li 0x1001ffb77a1019d00001 rfl ea) c hc],xF,h0.al x hx hs ea]
  .rw[aX λc hc=>by rw[h0.ac x hx hs (li 0x110ffb77a0019d08001 rfl ea) c hc],vw,h1.al x hx hs ea]
theorem BY{v:Val}:∀ {es:List (Int×Val)} {k:Int},k∉es.map (·.1)->dput es k v=es++[(k,v)]:=by
 intro es;induction es with
 |nil=>
  intro _ _;show rfl
 |cons px r ih=>
  obtain ⟨j,u⟩:=px;intro k h;unfold dput;rw[if_neg λz=>h (by rw[z];show .head _),ih λm=>h (.tail _ m)];rfl
theorem BV:∀ {es:List (Int×Val)},(es.map (·.1)).Nodup->∀ e∈es,dget es e.1=some e.2:=by
 intro es;induction es with
 |nil=>
  intro _ e m;show (iF m)
 |cons px r ih=>
  obtain ⟨j,u⟩:=px;intro h e m;show oA (aQ.mp h) λh1 h2=>?_;unfold dget;rcases ag.mp m with rfl|m
  .rw[if_pos rfl]
  .rw[if_neg λz=>h1 (by rw[z];show ay.mpr ⟨e,m,rfl⟩)];show ih h2 e m
theorem AU(bO:hd=false)(R:Rp H Y s)(I:Inv s d)(q:∀ H',Ext H H'->Q (.bool true) H'):br Fn (n+3) hd 44 [.ref Y.tp,.int (s.g 0 s.root),.int (s.g 1 s.root)] H Q E:=by
 clear n hd H Y s d Q E _ bO R I q;obtain ⟨T,G,PL,kF⟩:=I;have w:=T.w;show bj w.root λxr dZ IC=>?_;have Ot:=PL.1;have MI:=PL.2.1;have NU:=G.le w (a:=0) (.inl rfl) ⟨xr,dZ⟩;have NV:=G.le w (a:=1) (.inr rfl) ⟨xr,dZ⟩;have Aj:(lg (aA s) s.root).length<=1000:=aR (kI w.rk _) (w.cl.len _ _ dZ);have Wa:=w.fo.lvs_nodup s.root;have Mq:∀ j∈lg (aA s) s.root,∃ x,s.m j=some x/\x.sort=0:=λj hj=>(eI w.dom).mp ((mZ w j).mp hj);have ZK:=RI w G PL s.root ⟨xr,dZ⟩;have qX:∀ b,(b=0\/b=1)->∀ j∈lg (aA s) s.root,s.p b s.root<=s.p b j/\s.p b j+s.g b j<=s.p b s.root+s.g b s.root:=λb hb j hj=>inside w G PL hb s.root ⟨xr,dZ⟩ j ((fH w.rk _).mp hj).1;have Zs:=Rz w G s.root ⟨xr,dZ⟩;generalize I8:s.g 0 s.root=W0 at *
 generalize Ia:s.g 1 s.root=W1 at *
 show w_call rfl rfl ?_;unfold mP;left;intro f hf;have R1:=R.new (o:=.dict []) hf;left;show iX R1 w.cl dZ λr H1 X1 Bw hr=>?_;have f1:H1 f=some (.dict []):=X1 _ _ (af _ _ _);have Jf:Ext H H1:=(Ext.new hf).trans X1;generalize hL:lg (aA s) s.root=L at *
 have wH:r≠f:=λz=>by rw[z,f1] at hr;show lA hr rfl
 left;rw[cK hr]
 show cJ (λi ρ H2=>ρ 0=some (.ref Y.tp)/\ρ 1=some (.int W0)/\ρ 2=some (.int W1)/\ρ 3=some (.ref f)/\Ext H H2/\H2 r=some (.list (L.map .int))/\
  ∃ es:List (Int×Val),H2 f=some (.dict es)/\es.map (·.1)=L.take i/\∀ e∈es,∃ t,e.2=.ref t/\H2 t=some (.tup [.int (s.p 0 e.1),.int (s.p 1 e.1),.int (s.p 0 e.1+s.g 0 e.1),.int (s.p 1 e.1+s.g 1 e.1)])) _ ?_ ?_
  ⟨rfl,rfl,rfl,rfl,Jf,hr,[],f1,rfl,λe m=>(iF m)⟩
 .rintro i it ρ H2 hit ⟨e0,e1,e2,e3,X2,tv,es,JX,EZ,QD⟩;show ⟨λb m=>by rw[aa.mp m,hr,tv],λK hK th=>?_⟩;rw[au] at hit;cases hz:L[i]? with
  |none=>rw[hz] at hit;show cz hit
  |some c=>
   rw[hz] at hit;cases hit;show oE (ao.mp hz) λhi hg=>?_;have Mx:=aw hz;show bj (Mq c Mx) λxc vo jW=>?_;have qp:L.take (i+1)=L.take i++[c]:=by rw[az hi,hg]
   have wF:c∉L.take i:=λm=>by
    have h1:(L.take i++L.drop i).Nodup:=by rw[bN];show Wa
    show (aL.mp h1).2.2 c m c (by rw[aW hi,hg];show .head _) rfl
   have FX:es.length<=1000:=by
    have:=congrArg cg EZ;rw[J,cq] at this;show li 0x10100111011011ffb76edd0881ecd7a8085d01c0ebd41c2e8021f50507a110140 rfl Aj this (sH i L.length)
   have hkn:(es.map (·.1)).Nodup:=by rw[EZ];show d4 (nH _ _) Wa
   have l0:3<=s.g 0 c:=(G.ax 0 c (.inl rfl) ⟨xc,vo⟩).lf xc vo jW;have l1:2<=s.g 1 c:=(G.ax 1 c (.inr rfl) ⟨xc,vo⟩).lf xc vo jW;have i0:=qX 0 (.inl rfl) c Mx;have i1:=qX 1 (.inr rfl) c Mx;rw[Ot,I8] at i0;rw[MI,Ia] at i1;have R2:=R.ext X2;change wSs _ _ _ (upd ρ 4 (.int c)) _ _ _;left;show bP (λh=>?_) λ_=>?_
   .show (li 0x47fedda83325019402501 rfl l0 (dT h)).elim
   left;show bP (λh=>?_) λ_=>?_
   .show (li 0x47fedda83323019402301 rfl l1 (dT h)).elim
   left;show bP (λh=>?_) λ_=>?_
   .show (li 0x407fedda8332001af2e00883002019402003 rfl i0 (dT h)).elim
   left;show bP (λh=>?_) λ_=>?_
   .show (li 0x407fedda8332001af2e00883002019402003 rfl i1 (dT h)).elim
   left;show bP (λh=>?_) λ_=>?_
   .show (li 0x110ffb76a0cd8010009af2e00883002019402003 rfl i0 (dT h)).elim
   left;show bP (λh=>?_) λ_=>?_
   .show (li 0x110ffb76a0cd8010009af2e00883002019402003 rfl i1 (dT h)).elim
   left;rw[Er bO JX];show cJ (λi' cc H3=>cc 0=some (.ref Y.tp)/\cc 1=some (.int W0)/\cc 2=some (.int W1)/\cc 3=some (.ref f)/\cc 4=some (.int c)/\cc 5=some (.ref (Y.wa c))/\H3=H2) _ ?_ ?_ ⟨e0,e1,e2,e3,rfl,rfl,rfl⟩
   .clear X2 tv;rintro i' it cc H3 hit ⟨b0,b1,b2,b3,b4,b5,bH⟩;subst bH;show ⟨λb m=>rfl,λK1 Sr Ss=>?_⟩;rw[au] at hit;cases cC:es[i']? with
    |none=>rw[cC] at hit;show cz hit
    |some e=>
     rw[cC] at hit;cases hit;have Ti:=aw cC;show bj (QD e Ti) λt ht sy=>?_;have Wy:=BV hkn e Ti;rw[ht] at Wy;have QC:e.1∈L.take i:=by rw[<-EZ];show ay.mpr ⟨e,Ti,rfl⟩
     have JU:=ZK c Mx e.1 (cj QC) λz=>wF (z▸QC);change wSs _ _ _ (upd cc 6 (.int e.1)) _ _ _;left;show m7 JX Wy ?_;show fY sy bO rfl ?_;left;have fin:∀ ju,ju 0=some (.ref Y.tp)->ju 1=some (.int W0)->ju 2=some (.int W1)->ju 3=some (.ref f)->ju 4=some (.int c)->ju 5=some (.ref (Y.wa c))->K1 .next ju H3:=λju c0 c1 c2 c3 c4 c5=>Sr _ _ ⟨c0,c1,c2,c3,c4,c5,rfl⟩;show bP (λh1=>?_) λ_=>?_;rotate_left
     .left;show fin _ b0 b1 b2 b3 b4 b5
     have h1:=of_decide_eq_true h1;left;show bP (λh2=>?_) λ_=>?_;rotate_left
     .left;show fin _ b0 b1 b2 b3 b4 b5
     have h2:=of_decide_eq_true h2;left;show bP (λh3=>?_) λ_=>?_;rotate_left
     .left;show fin _ b0 b1 b2 b3 b4 b5
     left;show bP (λh4=>?_) λ_=>?_;rotate_left
     .left;show fin _ b0 b1 b2 b3 b4 b5
     (show bj JU λb hb hd2=>?_;clear JU);rcases hb with rfl|rfl
     .rcases hd2 with q|q
      .show (li 0x47fedda833600400265098010003 rfl q h2).elim
      .show (li 0x47fedda833600400265098010003 rfl q h1).elim
     .rcases hd2 with q|q
      .show (li 0x47fedda83280c010166c01010003 rfl (dT h4) q).elim
      .show (li 0x47fedda83280c010166c01010003 rfl (dT h3) q).elim
   .rintro cc H3 ⟨b0,b1,b2,b3,b4,b5,bH⟩;subst bH;show ⟨λb m=>rfl,?_⟩;left;show ⟨lb rfl,λt ht=>?_⟩;have X3:Ext H3 (upd H3 t (.tup [.int (s.p 0 c),.int (s.p 1 c),.int (s.p 0 c+s.g 0 c),.int (s.p 1 c+s.g 1 c)])):=Ext.new ht;have h3:upd H3 t (.tup [.int (s.p 0 c),.int (s.p 1 c),.int (s.p 0 c+s.g 0 c),.int (s.p 1 c+s.g 1 c)]) t=some (.tup [.int (s.p 0 c),.int (s.p 1 c),.int (s.p 0 c+s.g 0 c),.int (s.p 1 c+s.g 1 c)]):=af _ _ _;revert h3;revert X3;generalize upd H3 t (.tup [.int (s.p 0 c),.int (s.p 1 c),.int (s.p 0 c+s.g 0 c),.int (s.p 1 c+s.g 1 c)])=H4;revert H4;show gk ?_;intro H4 X3 h3;left;show kM (X3 _ _ JX) (li 0x11ffb742403a110110 rfl FX) ?_;rw[BY (by rw[EZ];show wF)];have nf:∀ a vs,H4 a=some (.tup vs)->a≠f:=λa vs h z=>by rw[z,X3 _ _ JX] at h;show lA h rfl
    left;show hK _ _ ⟨b0,b1,b2,b3,(X2.trans X3).upd hf,by rw[aj wH];show X3 _ _ tv,_,af _ _ _,by rw[aD,EZ,qp];rfl,λe m=>?_⟩;rcases ak.mp m with m|m
    .show bj (QD e m) λt' h1 h2=>?_;show ⟨t',h1,by rw[aj (nf _ _ (X3 _ _ h2))];show X3 _ _ h2⟩
    .rw[aa.mp m];show ⟨t,rfl,by rw[aj (nf _ _ h3)];show h3⟩
 .rintro ρ H2 ⟨e0,e1,e2,e3,X2,tv,es,JX,EZ,QD⟩;show ⟨λb m=>by rw[aa.mp m,hr,tv],?_⟩;rw[J,bC] at EZ;have FX:es.length<=1000:=by
   have:=congrArg cg EZ;rw[J] at this;show li 0x1011ffb76e8440f50107a110120 rfl Aj this
  have QC:∀ e∈es,e.1∈L:=λe m=>by rw[<-EZ];show ay.mpr ⟨e,m,rfl⟩
  have hb:∀ e∈es,(0<=s.g 0 e.1/\s.g 0 e.1<=50000)/\(0<=s.g 1 e.1/\s.g 1 e.1<=50000):=λe m=>by
   show bj (Mq e.1 (QC e m)) λu hu _=>?_;show ⟨G.le w (.inl rfl) ⟨u,hu⟩,G.le w (.inr rfl) ⟨u,hu⟩⟩
  left;show dO es _ (λe=>.int (s.g 0 e.1*s.g 1 e.1)) (Et bO JX) (li 0x11ffb742403a110110 rfl FX) (nB JX) (λe m H3 X3 Q' hQ=>?_) λH3 r3 X3 Up=>?_
  .show bj (QD e m) λt ht sy=>?_;have sy:=X3 _ _ sy;have QB:=hb e m;rw[ht];change wE _ _ _ (upd ρ 11 (.ref t)) _ _ _;have Bq:=hQ _ Ext.refl;show gD<|gD<|fj<|aO rfl<|cf<|yM (i:=2) sy (by decide) (by decide) rfl<|fj<|aO rfl<|cf<|yM (i:=0) sy (aY _) (by decide) rfl<|mJ <|
    gD<|fj<|aO rfl<|cf<|yM (i:=3) sy (by decide) (by decide) rfl<|fj<|aO rfl<|cf<|yM (i:=1) sy (by decide) (by decide) rfl<|mJ ?_
   rw[show s.p 0 e.1+s.g 0 e.1-s.p 0 e.1=s.g 0 e.1 by show li 0x11ff9c162018010002 rfl,show s.p 1 e.1+s.g 1 e.1-s.p 1 e.1=s.g 1 e.1 by show li 0x11ff9c162018010002 rfl];show pV ⟨li 0x40007fedca031a741af5e5540b28241af2aa019402002 rfl QB,li 0x10010ffb72a701af5e5540b28241af2aa019402002 rfl QB⟩ ⟨li 0x40403fedca0b1a741af5e5540b28241af2aa019402002 rfl QB,li 0x11000ffb72a705af5e5540b28241af2aa019402002 rfl QB⟩ Bq
  rw[er];show cy (qd bO (af _ _ _) (by rw[J];show li 0x11ffb742403a110110 rfl FX) (λv m=>?_) ?_)
  ·(show bj (ay.mp m) λe he aG=>?_;clear m;subst aG);(show mf (hb e he) λaG h3 h4=>?_;obtain ⟨h1,h2⟩:=aG);have g1:0<=s.g 0 e.1*s.g 1 e.1:=fR h1 h3;have g2:s.g 0 e.1*s.g 1 e.1<=50000*50000:=rj h2 h4 h3 (by decide);show ⟨li 0x47fedca031a7419402001 rfl g1,li 0x47fedca9c065c2a950001 rfl g2⟩
  have dY:aI (es.map λe=>s.g 0 e.1*s.g 1 e.1)=W0*W1:=by
   rw[<-Zs,<-EZ,bo];rfl
  rw[dY];show gD<|aO e1<|aO e2<|pV ⟨li 0x407fedca031a741af2aa019402001 rfl NU,li 0x110ffb72a701af2aa019402001 rfl NU⟩ ⟨li 0x407fedca031a741af2aa019402001 rfl NV,li 0x110ffb72a701af2aa019402001 rfl NV⟩<|Jm ?_;rw[decide_eq_true rfl];show q _ ((X2.trans X3).upd ((X2.trans X3).none Up))
theorem B5(bO:hd=false)(R:Rp H Y s)(I:Inv s d)(hx:s.m k=some x)
  (q:∀ H' s',Rp H' Y s'->Mv (Own Y s) (Own Y s') H H'->Inv s' d->(∀ b,(b=0\/b=1)->s'.g b s'.root=s.g b s.root)->(mE s').length=1->s'.ks.length<=s.ks.length->Q .none H') (e:E H):br Fn (n+3) hd 40 [.ref Y.tp,.int k] H Q E:=by
 clear n hd H Y s d k x Q E _ bO R I hx q e;obtain ⟨T,G,PL,kF⟩:=I;have w:=T.w;show bj w.root λxr dZ IC=>?_;have O5:=w.key k x hx;show w_call rfl rfl ?_;unfold jA;left;show He bO R hx (λjW=>?_) e;left;show ⟨lb rfl,λc1 Cc=>?_⟩;have X1:Ext H (upd H c1 (.tup [.int (s.g 0 s.root),.int (s.g 1 s.root)])):=Ext.new Cc;have h1:upd H c1 (.tup [.int (s.g 0 s.root),.int (s.g 1 s.root)]) c1=some (.tup [.int (s.g 0 s.root),.int (s.g 1 s.root)]):=af _ _ _;generalize upd H c1 (.tup [.int (s.g 0 s.root),.int (s.g 1 s.root)])=H1 at X1 h1;have R1:=R.ext X1;show fY h1 bO rfl ?_;left;show sS R1 w.cl ⟨xr,dZ⟩ λr H2 X2 Bw hr=>?_;have Ku:¬ Own Y s r:=R1.fresh Bw;have R2:=R1.ext X2;left;rw[cK hr];have dA:=w.fo.pre_nodup s.root;have Mq:∀ j∈pre (aA s) s.root,∃ x,s.m j=some x:=λj hj=>w.pre_at _ ⟨xr,dZ⟩ hj;have Zd:∀ j,(∃ x,s.m j=some x)->j∈pre (aA s) s.root:=λj hj=>w.all hj;generalize hL:pre (aA s) s.root=L at *
 show cJ (λi ρ H4=>ρ 0=some (.ref Y.tp)/\ρ 1=some (.int k)/\ρ 2=some (.ref (Y.wa k))/\ρ 4=some (.int (s.g 0 s.root))/\ρ 5=some (.int (s.g 1 s.root))/\H4 r=some (.list (L.map .int))/\Rp H4 Y (s.dels ((L.take i).filter λj=>decide (j≠k)))/\Mv (Own Y s) (Own Y (s.dels ((L.take i).filter λj=>decide (j≠k)))) H H4) _ ?_ ?_
  ⟨rfl,rfl,rfl,rfl,rfl,hr,by rw[cX];change Rp _ Y (s.dels []);rw[S.dels_nil];show R2,by rw[cX];change Mv _ (Own Y (s.dels [])) _ _;rw[S.dels_nil];show Mv.ext (X1.trans X2)⟩
 .rintro i it ρ H4 hit ⟨e0,e1,e2,e4,e5,jP,R4,M4⟩;show ⟨λb m=>by rw[aa.mp m,jP,hr],λK hK th=>?_⟩;rw[au] at hit;cases hz:L[i]? with
  |none=>rw[hz] at hit;show cz hit
  |some j=>
   rw[hz] at hit;cases hit;show oE (ao.mp hz) λhi hg=>?_;show oE (Mq j (aw hz)) λu hu=>?_;have qp:L.take (i+1)=L.take i++[j]:=by rw[az hi,hg]
   have TG:j∉L.take i:=λm=>by
    have h1:(L.take i++L.drop i).Nodup:=by rw[bN];show dA
    show (aL.mp h1).2.2 j m j (by rw[aW hi,hg];show .head _) rfl
   have UN:(s.dels ((L.take i).filter λj=>decide (j≠k))).m j=some u:=by
    rw[S.dels_m λm=>TG (bV.mp m).1];show hu
   change wSs _ _ _ (upd ρ 6 (.int j)) _ _ _;left;show bP (λh=>?_) λh=>?_
   .have TF:j≠k:=by simpa using h
    have Ai:(L.take (i+1)).filter (λj=>decide (j≠k))=(L.take i).filter (λj=>decide (j≠k))++[j]:=by
     rw[qp,el,bw (by simpa using TF)];rfl
    have R5:=R4.del j;have M5:=Mv.del R4 j (o:=.dict (o8 (dl Y (s.dels ((L.take i).filter λj=>decide (j≠k))).ks) j));rw[S.dels_snoc,<-Ai] at R5 M5;left;show tM R4.dc (R4.dget UN) R4.dlen ?_;left;show hK _ _ ⟨e0,e1,e2,e4,e5,?_,R5,M4.trans M5⟩;rw[aj λz=>Ku (.inr (.inl z))];show jP
   .have TF:j=k:=by simpa using h
    have Ai:(L.take (i+1)).filter (λj=>decide (j≠k))=(L.take i).filter (λj=>decide (j≠k)):=by
     rw[qp,el,bk (by simpa using TF)];show bK _
    left;show hK _ _ ⟨e0,e1,e2,e4,e5,jP,by rw[Ai];show R4,by rw[Ai];show M4⟩
 .rintro ρ H4 ⟨e0,e1,e2,e4,e5,jP,R4,M4⟩;show ⟨λb m=>by rw[aa.mp m,jP,hr],?_⟩;rw[J,bC] at R4 M4;have Kl:∀ j,(s.dels (L.filter λj=>decide (j≠k))).m j=if j=k then s.m j else none:=λj=>by
   change (if j∈L.filter (λj=>decide (j≠k)) then none else s.m j)=_;by_cases ej:j=k
   .rw[if_pos ej,if_neg (by simp[ej])]
   .rw[if_neg ej];by_cases em:j∈L
    .rw[if_pos (by simp[em,ej])]
    .rw[if_neg (by simp[em])];cases hh:s.m j with
     |none=>rfl
     |some u=>show absurd (Zd j ⟨u,hh⟩) em
  have TK:(s.dels (L.filter λj=>decide (j≠k))).ks.length<=s.ks.length:=bZ _ _;have f4:(s.dels (L.filter λj=>decide (j≠k))).g=s.g/\(s.dels (L.filter λj=>decide (j≠k))).last=s.last/\(s.dels (L.filter λj=>decide (j≠k))).sel=s.sel:=⟨rfl,rfl,rfl⟩
  generalize s.dels (L.filter λj=>decide (j≠k))=s4 at *
  (show mf f4 λQj HZ Qk=>?_;clear f4);have Ka:s4.m k=some x:=by rw[Kl,if_pos rfl];show hx
  left;show bX (R4.wn k x Ka) (lb rfl) ?_;have R5:=R4.setW (x':={ x with par:=0 }) Ka rfl;have M5:Mv (Own Y s) (Own Y (s4.setW k { x with par:=0 })) H (upd H4 (Y.wa k) (.inst 0 (wl Y s4 k { x with par:=0 }))):=by
   rw[Own.eqW Ka];show M4.trans (Mv.upd (.inr (.inr ⟨k,x,Ka,.inl rfl⟩)))
  rw[show (wl Y s4 k x).set 2 (.int 0)=wl Y s4 k { x with par:=0 } from rfl];clear Ka;revert M5;revert R5;generalize upd H4 (Y.wa k) (.inst 0 (wl Y s4 k { x with par:=0 }))=H5;revert H5;show gk ?_;intro H5 R5 M5;have QJ:∀ j,(s4.setW k { x with par:=0 }).m j=if j=k then some { x with par:=0 } else none:=λj=>by
   change (if j=k then some _ else s4.m j)=_;by_cases ej:j=k
   .rw[if_pos ej,if_pos ej]
   .rw[if_neg ej,if_neg ej,Kl,if_neg ej]
  have f5:(s4.setW k { x with par:=0 }).g=s4.g/\(s4.setW k { x with par:=0 }).ks=s4.ks/\(s4.setW k { x with par:=0 }).last=s4.last/\(s4.setW k { x with par:=0 }).sel=s4.sel:=⟨rfl,rfl,rfl,rfl⟩
  clear Kl;generalize s4.setW k { x with par:=0 }=s5 at *
  (show gM f5 λVQ RY RZ VR=>?_;clear f5);have G8:s5.m k=some { x with par:=0 }:=by rw[QJ,if_pos rfl]
  left;show ⟨lb rfl,λc6 JN=>?_⟩;have X6:Ext H5 (upd H5 c6 (.tup [.int 0,.int 0,.int (s.g 0 s.root),.int (s.g 1 s.root)])):=Ext.new JN;have h6:upd H5 c6 (.tup [.int 0,.int 0,.int (s.g 0 s.root),.int (s.g 1 s.root)]) c6=some (.tup [.int 0,.int 0,.int (s.g 0 s.root),.int (s.g 1 s.root)]):=af _ _ _;generalize upd H5 c6 (.tup [.int 0,.int 0,.int (s.g 0 s.root),.int (s.g 1 s.root)])=H6 at X6 h6;have R6:=R5.ext X6;have M6:=M5.trans (Mv.ext X6);generalize I8:s.g 0 s.root=W0 at *
  generalize Ia:s.g 1 s.root=W1 at *
  show fY h6 bO rfl ?_;have Oo:∀ (g p:Int->Int->Int),Own Y { s5 with g:=g,p:=p } (Y.wa k):=λg p=>.inr (.inr ⟨k,_,G8,.inl rfl⟩);left;show bX (R6.wn k _ G8) (lb rfl) ?_;have R7:=R6.geo (g':=s5.g) (p':=bI s5.p 0 k 0) G8 (λ_ _ _=>rfl) (λb j hj=>cI _ hj)
  rw[show (wl Y s5 k { x with par:=0 }).set 4 (.int 0)=wl Y { s5 with g:=s5.g,p:=bI s5.p 0 k 0 } k { x with par:=0 } by
   simp only[wl,bJ,dS s5.p (show (1:Int)≠0 by decide)];rfl]
  have M7:Mv (Own Y s) (Own Y s5) H (upd H6 (Y.wa k) (.inst 0 (wl Y { s5 with g:=s5.g,p:=bI s5.p 0 k 0 } k { x with par:=0 }))):=M6.trans (Mv.upd (Oo _ _));revert M7;revert R7;generalize upd H6 (Y.wa k) (.inst 0 (wl Y { s5 with g:=s5.g,p:=bI s5.p 0 k 0 } k { x with par:=0 }))=H7;revert H7;show gk ?_;intro H7 R7 M7;generalize WT:bI s5.p 0 k 0=p7 at R7;have R7:Rp H7 Y { s5 with p:=p7 }:=R7;have Cq:({ s5 with p:=p7 }:S).m k=some { x with par:=0 }:=G8;left;show bX (R7.wn k _ Cq) (lb rfl) ?_;have R8:=R7.geo (g':=s5.g) (p':=bI p7 1 k 0) Cq (λ_ _ _=>rfl) (λb j hj=>cI _ hj)
  rw[show (wl Y { s5 with p:=p7 } k { x with par:=0 }).set 5 (.int 0)=wl Y { s5 with g:=s5.g,p:=bI p7 1 k 0 } k { x with par:=0 } by
   simp only[wl,bJ,dS p7 (show (0:Int)≠1 by decide)];rfl]
  have M8:Mv (Own Y s) (Own Y s5) H (upd H7 (Y.wa k) (.inst 0 (wl Y { s5 with g:=s5.g,p:=bI p7 1 k 0 } k { x with par:=0 }))):=M7.trans (Mv.upd (Oo _ _));clear Cq;revert M8;revert R8;generalize upd H7 (Y.wa k) (.inst 0 (wl Y { s5 with g:=s5.g,p:=bI p7 1 k 0 } k { x with par:=0 }))=H8;revert H8;show gk ?_;intro H8 R8 M8;generalize Uj:bI p7 1 k 0=p8 at R8;have R8:Rp H8 Y { s5 with p:=p8 }:=R8;have Kb:({ s5 with p:=p8 }:S).m k=some { x with par:=0 }:=G8;left;show bX (R8.wn k _ Kb) (lb rfl) ?_;have R9:=R8.geo (g':=bI s5.g 0 k W0) (p':=p8) Kb (λb j hj=>cI _ hj) (λ_ _ _=>rfl)
  rw[show (wl Y { s5 with p:=p8 } k { x with par:=0 }).set 6 (.int W0)=wl Y { s5 with g:=bI s5.g 0 k W0,p:=p8 } k { x with par:=0 } by
   simp only[wl,bJ,dS s5.g (show (1:Int)≠0 by decide)];rfl]
  have M9:Mv (Own Y s) (Own Y s5) H (upd H8 (Y.wa k) (.inst 0 (wl Y { s5 with g:=bI s5.g 0 k W0,p:=p8 } k { x with par:=0 }))):=M8.trans (Mv.upd (Oo _ _));clear Kb;revert M9;revert R9;generalize upd H8 (Y.wa k) (.inst 0 (wl Y { s5 with g:=bI s5.g 0 k W0,p:=p8 } k { x with par:=0 }))=H9;revert H9;show gk ?_;intro H9 R9 M9;generalize Ik:bI s5.g 0 k W0=g9 at R9;have R9:Rp H9 Y { s5 with g:=g9,p:=p8 }:=R9;have TH:({ s5 with g:=g9,p:=p8 }:S).m k=some { x with par:=0 }:=G8;left;show bX (R9.wn k _ TH) (lb rfl) ?_;have k9:=R9.geo (g':=bI g9 1 k W1) (p':=p8) TH (λb j hj=>cI _ hj) (λ_ _ _=>rfl)
  rw[show (wl Y { s5 with g:=g9,p:=p8 } k { x with par:=0 }).set 7 (.int W1)=wl Y { s5 with g:=bI g9 1 k W1,p:=p8 } k { x with par:=0 } by
   simp only[wl,bJ,dS g9 (show (0:Int)≠1 by decide)];rfl]
  have ps:Mv (Own Y s) (Own Y s5) H (upd H9 (Y.wa k) (.inst 0 (wl Y { s5 with g:=bI g9 1 k W1,p:=p8 } k { x with par:=0 }))):=M9.trans (Mv.upd (Oo _ _));clear e2 G8 Oo TH;generalize upd H9 (Y.wa k) (.inst 0 (wl Y { s5 with g:=bI g9 1 k W1,p:=p8 } k { x with par:=0 }))=yl at k9 ps;generalize xw:bI g9 1 k W1=wC at k9;have k9:Rp yl Y { s5 with g:=wC,p:=p8 }:=k9;have Qo:wC 0 k=W0:=by rw[<-xw,dS _ (by decide),<-Ik,bJ]
  have Qp:wC 1 k=W1:=by rw[<-xw,bJ]
  have XF:p8 0 k=0:=by rw[<-Uj,dS _ (by decide),<-WT,bJ]
  have XG:p8 1 k=0:=by rw[<-Uj,bJ]
  have ps:Mv (Own Y s) (Own Y { s5 with g:=wC,p:=p8 }) H yl:=ps;have fin:∀ (s':S),s'.m=s5.m->s'.g=wC->s'.p=p8->s'.ks=s5.ks->s'.last=s5.last->s'.root=k->s'.sel=k->Inv s' d/\(∀ b,(b=0\/b=1)->s'.g b s'.root=s.g b s.root)/\(mE s').length=1/\s'.ks.length<=s.ks.length:=by
   intro s' hm hg hp hks hla Ks OE;have TV:∀ j,s'.m j=if j=k then some { x with par:=0 } else none:=λj=>by rw[hm];show QJ j
   have inv:∀ j z,s'.m j=some z->k=j/\{ x with par:=0 }=z:=λj z hz=>by
    rw[TV] at hz;by_cases ej:j=k
    .rw[if_pos ej] at hz;cases hz;show ⟨ej.symm,rfl⟩
    .rw[if_neg ej] at hz;show cz hz
   have MD:s'.m k=some { x with par:=0 }:=by rw[TV,if_pos rfl]
   have hch:=(w.lf k x hx).mp jW;have NH:∀ j,j∈s'.ks↔∃ z,s'.m j=some z:=λj=>by
    rw[hks,hm];show k9.dom j
   have O7:s'.ks.Nodup:=by rw[hks];show k9.nd
   have rx:3<=W0:=by
    have h1:=G.ls w (a:=0) (.inl rfl) ⟨xr,dZ⟩;have h2:=tO w (z:=lst 0) (a:=0) (by decide) s.root ⟨xr,dZ⟩;have h3:lst 0=3:=rfl;show li 0x1101101ffb76eddb94125ce94365081b280099c10004 rfl I8 h1 h2 h3
   have xx:2<=W1:=by
    have h1:=G.ls w (a:=1) (.inr rfl) ⟨xr,dZ⟩;have h2:=tO w (z:=lst 1) (a:=1) (by decide) s.root ⟨xr,dZ⟩;have h3:lst 1=2:=rfl;show li 0x1101101ffb76eddb94123ce8c365081b280099c10004 rfl Ia h1 h2 h3
   have Zv:=G.bd 0 (.inl rfl);have SO:=G.bd 1 (.inr rfl);have W:WF0 s' d:=by
    show ⟨by rw[Ks];show ⟨_,MD,rfl⟩,λj z hz=>?_,λj z hz=>?_,λj z hz hs=>?_,λj z hz=>?_,λj z c hz hc=>?_,λj z hz hj=>?_,NH,O7,by rw[hks];show k9.len⟩
    ·(show oA (inv j z hz) λaG cE=>?_;clear hz;subst aG;subst cE);rw[hla,RZ,HZ];show O5
    ·(show oA (inv j z hz) λaG cE=>?_;clear hz;subst aG;subst cE);show ⟨λ_=>hch,λ_=>jW⟩
    ·(show oA (inv j z hz) λaG cE=>?_;clear hz;subst aG;subst cE);show absurd jW hs
    ·(show oA (inv j z hz) λaG cE=>?_;clear hz;subst aG;subst cE);show w.nd k x hx
    ·(show oA (inv j z hz) λaG cE=>?_;clear hz;subst aG;subst cE);have hc:c∈x.ch:=hc;rw[hch] at hc;show iF hc
    ·(show oA (inv j z hz) λaG cE=>?_;clear hz;subst aG;subst cE);show absurd Ks.symm hj
   show ⟨⟨⟨W,λj z c zc hz hc=>?_,λj z hz hs=>?_⟩,⟨λb j hb _=>AxL.of λz hz=>?_,λb hb=>?_⟩,⟨?_,?_,λj hj=>⟨λz hz=>?_,λz hz=>?_⟩⟩,by rw[OE];show ⟨_,MD,jW⟩⟩,λb hb=>?_,?_,?_⟩
   ·(show oA (inv j z hz) λaG cE=>?_;clear hz;subst aG;subst cE);have hc:c∈x.ch:=hc;rw[hch] at hc;show iF hc
   ·(show oA (inv j z hz) λaG cE=>?_;clear hz;subst aG;subst cE);show absurd jW hs
   ·(show oA (inv j z hz) λaG cE=>?_;clear hz;subst aG;subst cE);show ⟨λ_=>?_,λhs=>absurd jW hs,λhs=>absurd jW hs⟩;rw[hg];rcases hb with rfl|rfl
    .rw[Qo];show rx
    .rw[Qp];show xx
   .rw[hg,Ks];rcases hb with rfl|rfl
    .rw[Qo,<-I8];show Zv
    .rw[Qp,<-Ia];show SO
   .rw[hp,Ks];show XF
   .rw[hp,Ks];show XG
   ·(show oA (inv j z hz) λaG cE=>?_;clear hj hz;subst aG;subst cE);change Con _ _ x.ch _;rw[hch];trivial
   ·(show oA (inv j z hz) λaG cE=>?_;clear hz;subst aG;subst cE);intro c hc;have hc:c∈x.ch:=hc;rw[hch] at hc;show iF hc
   .rw[hg,Ks];rcases hb with rfl|rfl
    .rw[Qo,I8]
    .rw[Qp,Ia]
   .have:(mE s').length=[k].length:=iU (fv O7) (J9) λj=>by
     rw[eI NH,aa];constructor
     .rintro ⟨z,hz,_⟩;show (inv j z hz).1.symm
     .clear hx O5 e1 QJ WT Uj Ik xw Qo Qp XF XG Ks OE TV inv;rintro rfl;show ⟨_,MD,jW⟩
    rw[this];rfl
   .rw[hks,RY];show TK
  left;show bX k9.tr (lb rfl) ?_;rw[show (tl Y ({ s5 with g:=wC,p:=p8 }:S)).set 5 (.int k)=tl Y { s5 with g:=wC,p:=p8,root:=k } from rfl];have qW:=k9.setT (s':={ s5 with g:=wC,p:=p8,root:=k }) rfl rfl rfl rfl;have rn:Mv (Own Y s) (Own Y { s5 with g:=wC,p:=p8,root:=k }) H (upd yl Y.tp (.inst 1 (tl Y { s5 with g:=wC,p:=p8,root:=k }))):=ps.trans (Mv.upd (.inl rfl));revert rn;revert qW;generalize upd yl Y.tp (.inst 1 (tl Y { s5 with g:=wC,p:=p8,root:=k }))=uu;revert uu;show gk ?_;intro uu qW rn;left;show Jn qW.dc ?_;rw[q8];show bP (λh=>?_) λh=>?_
  .left;show bX qW.tr (lb rfl) ?_;have wB:=qW.setT (s':={ s5 with g:=wC,p:=p8,root:=k,sel:=k }) rfl rfl rfl rfl;show gM (fin { s5 with g:=wC,p:=p8,root:=k,sel:=k } rfl rfl rfl rfl rfl rfl rfl) λi1 i2 i3 i4=>?_;left;show q _ { s5 with g:=wC,p:=p8,root:=k,sel:=k } wB (rn.trans (Mv.upd (.inl rfl))) i1 i2 i3 i4
  .have QR:s5.sel=k:=by
    have hm:s5.sel∈s5.ks:=by simpa using h
    show oE ((qW.dom s5.sel).mp hm) λz hz=>?_;have hz:s5.m s5.sel=some z:=hz;rw[QJ] at hz;by_cases ej:s5.sel=k
    .show ej
    .rw[if_neg ej] at hz;show cz hz
   show gM (fin { s5 with g:=wC,p:=p8,root:=k } rfl rfl rfl rfl rfl rfl QR) λi1 i2 i3 i4=>?_;left;show q uu { s5 with g:=wC,p:=p8,root:=k } qW rn i1 i2 i3 i4
end
section
local macro_rules | `(tactic| fail)=>`(tactic| infer_instance)
section
variable {n:Nat} {hd:Bool} {H H':MH} {Y:Ly} {s s':S} {d d':Int->Nat} {k P K:Int} {x y:W} {Q:PQ} {E:MH->Prop}
theorem Mv.wide{O O':Nat->Prop}(m:Mv O O' H H')(X:Nat->Prop):Mv (λa=>O a\/X a) (λa=>O' a\/X a) H H' :=
 ⟨λa h=>by
  rcases h with h|h
  .show (m.own a h).imp .inl id
  .show .inl (.inr h),λa o e n=>m.keep a o e λz=>n (.inl z),m.live⟩
theorem iz{dk cl:Nat}{cells:List Int}{i m:Int}(Ci:H dk=some (.list [.ref cl,.int i]))(mU:H cl=some (.list (cells.map .int)))(kD:cells.length<=63)(hi:0<=i)(uk:i<=1000)(hm:0<m)
  (q:∀ r,0<=r->r<m->Q (.int r) (upd H dk (.list [.ref cl,.int (i+1)]))):br Fn (n+1) hd 43 [.ref dk,.int m] H Q E:=by
 clear n hd H Q E dk cl cells i m _ Ci mU kD hi uk hm q;have cV:cl≠dk:=λz=>by
  rw[z,Ci] at mU;cases cells with
  |nil=>cases mU
  |cons c t=>simp at mU
 show w_call rfl rfl ?_;unfold qc;left;show cW (i:=1) Ci (by decide) (by decide) rfl ?_;left;show qK Ci (by decide) (aY _) (lb rfl) ?_;rw[show ([.ref cl,.int i]:List Val).set (1:Int).toNat (.int (i+1))=[.ref cl,.int (i+1)] from rfl];have h1:upd H dk (.list [.ref cl,.int (i+1)]) dk=some (.list [.ref cl,.int (i+1)]):=af _ _ _;have h2:upd H dk (.list [.ref cl,.int (i+1)]) cl=some (.list (cells.map .int)):=by rw[aj cV];show mU
 generalize upd H dk (.list [.ref cl,.int (i+1)])=H1 at h1 h2 q;have qm:∀ v:Int,Q (.int (v.fmod m)) H1:=λv=>q _ (jM _ hm) (zS _ hm);left;show cW (i:=1) h1 (by decide) (by decide) rfl ?_;left;show cW (i:=0) h1 (aY _) (by decide) rfl ?_;left;show f_len h2 (by rw[J];unfold lim;show li 0x11ffb742403a190110 rfl kD) ?_;rw[J];left;show bP (λh=>?_) λh=>?_
 .left;show cW (i:=0) h1 (aY _) (by decide) rfl ?_;left;show cW (i:=1) h1 (by decide) (by decide) rfl ?_;show cf<|mJ ?_;show cW (v:=.int (cells[i.toNat]'(li 0x404044404043feddbb748107b35ea400f2a001af3800794020ca07021019402021 rfl hi (dT h) (pL i)))) h2 (by show li 0x11ffb72e24381080419402001 rfl hi) (li 0x111ffb76e6c8910624381080ca0702101a190111 rfl kD (dT h)) ?_ ?_
  .rw[au,show (i+1-1).toNat=i.toNat by show li 0x10000101010000100001010100011001010101000011000101010100ffb76ea060766bd4801e540035e7000f28041b35ea40072a0c48702101af3e243810800397121c08402021 rfl (pL (i+1-1)) (pL i),aU (li 0x404044404043feddbb748107b35ea400f2a001af3800794020ca07021019402021 rfl hi (dT h) (pL i))];rfl
  .show aO rfl ⟨li 0x11ffb77a0019802001 rfl hm,qm _⟩
 .have Kk:∀ a b:Int,0<=a->a<=100000->0<=b->b<=2000->0<=a*b/\a*b<=100000*2000:=λa b h1 h2 h3 h4=>⟨fR h1 h3,rj h2 h4 h3 (by decide)⟩
  have Xa:=Kk (i+1) (i+1) (li 0x47fedcb81080419402001 rfl hi) (li 0x47fedcaaf021019510001 rfl uk) (li 0x47fedcb81080419402001 rfl hi) (li 0x47fedcafb021019510001 rfl uk);left;show cW (i:=1) h1 (by decide) (by decide) rfl ?_;show fj<|aO rfl<|cf<|cW (i:=1) h1 (by decide) (by decide) rfl ?_;show pV ⟨li 0x11ffb72e042031a7419402001 rfl hi,li 0x47fedca9f021019510001 rfl uk⟩ ⟨li 0x11ffb72e042031a7419402001 rfl hi,li 0x47fedca9f021019510001 rfl uk⟩ ?_;show cf<|pV ⟨li 0x101ffb7280c69d06bcb85f2b019402001 rfl Xa,li 0x443fedca9c06bcb85f2b019402001 rfl Xa⟩ ⟨by decide,by decide⟩ ?_;show gD<|cf<|fj<|aO rfl<|cf<|cW (i:=1) h1 (by decide) (by decide) rfl ?_;show pV ⟨by decide,by decide⟩ ⟨li 0x11ffb72e042031a7419402001 rfl hi,li 0x47fedca9f021019510001 rfl uk⟩<|jx ?_;show gD<|cf<|lz<|bx<|fj<|aO rfl<|cf<|cW (i:=0) h1 (aY _) (by decide) rfl<|cy<|f_len h2 (by rw[J];show li 0x11ffb742403a190110 rfl kD) ?_;rw[J];show pV ⟨by decide,by decide⟩ ⟨li 0x7fe5038d3a010 rfl,li 0x11ffb72a703a190110 rfl kD⟩<|jx ?_;show cf<|wX (by decide) (by decide) ?_;show aO rfl ⟨li 0x11ffb77a0019802001 rfl hm,qm _⟩
structure Ds (H:MH) (dk cl sz:Nat) (cells:List Int) (i W0 W1:Int):Prop where
 hk:H dk=some (.list [.ref cl,.int i])
 hc:H cl=some (.list (cells.map .int))
 hz:H sz=some (.list [.int W0,.int W1])
 n1:cl≠dk
 n2:sz≠dk
 n3:cl≠sz
theorem Ds.out{dk cl sz:Nat}{cells:List Int}{i W0 W1:Int}(D:Ds H dk cl sz cells i W0 W1)(h:∀ a o,(a=dk\/a=cl\/a=sz)->H a=some o->H' a=some o):Ds H' dk cl sz cells i W0 W1 :=
 ⟨h _ _ (.inl rfl) D.hk,h _ _ (.inr (.inl rfl)) D.hc,h _ _ (.inr (.inr rfl)) D.hz,D.n1,D.n2,D.n3⟩
theorem Ds.ext{dk cl sz:Nat}{cells:List Int}{i W0 W1:Int}(D:Ds H dk cl sz cells i W0 W1)(X:Ext H H'):Ds H' dk cl sz cells i W0 W1:=D.out λa o _ e=>X a o e
theorem Ds.step{dk cl sz:Nat}{cells:List Int}{i W0 W1:Int}(D:Ds H dk cl sz cells i W0 W1):Ds (upd H dk (.list [.ref cl,.int (i+1)])) dk cl sz cells (i+1) W0 W1 :=
 ⟨af _ _ _,by rw[aj D.n1];show D.hc,by rw[aj D.n2];show D.hz,D.n1,D.n2,D.n3⟩
theorem Hb{dk cl sz:Nat}{cells:List Int}{i W0 W1:Int}(bO:hd=false)(R:Rp H Y s)(I:Inv s d)(D:Ds H dk cl sz cells i W0 W1)(kD:cells.length<=63)(hi:0<=i)(uk:i<=900)(hO:∀ a,a=dk\/a=cl\/a=sz->¬ Own Y s a)
  (h0:s.g 0 s.root=W0) (h1:s.g 1 s.root=W1) (I8:W0<=40000) (Ia:W1<=40000) (hl:s.ks.length<60)
  (q:∀ H' Y' s' d' m i' N0 N1,Y'.tp=Y.tp->Rp H' Y' s'->Inv s' d'->Ds H' dk cl sz cells i' N0 N1->0<=i'->i'<=i+6->s'.g 0 s'.root=N0->s'.g 1 s'.root=N1->N0<=W0+20->N1<=W1+20->s'.ks.length<=s.ks.length+2->
   (Mv (λa=>Own Y s a\/(a=dk\/a=sz)) (λa=>Own Y' s' a\/(a=dk\/a=sz)) H H'/\∀ a,Own Y' s' a->Own Y s a\/H a=none)->m=((mE s').length:Int)->Q (.int m) H')
  (e:∀ H' i',Rp H' Y s->Ds H' dk cl sz cells i' W0 W1->0<=i'->i'<=i+6->Mv (λa=>Own Y s a\/(a=dk\/a=sz)) (λa=>Own Y s a\/(a=dk\/a=sz)) H H'->E H') :
  br Fn (n+7) hd 45 [.ref dk,.ref Y.tp,.ref sz] H Q E:=by
 clear n hd H Y s d Q E dk cl sz cells i W0 W1 _ bO R I D kD hi uk hO h0 h1 I8 Ia hl q e;have I':=I;obtain ⟨T,G,PL,kF⟩:=I';have w:=T.w;show bj w.root λxr dZ IC=>?_;have Aj:(lg (aA s) s.root).length<=1000:=aR (kI w.rk _) (w.cl.len _ _ dZ);have oh:=oo w;show w_call rfl rfl ?_;unfold qb;left;show sk bO R.dc (by unfold dl;rw[J];show li 0x11ffb74b003a578110 rfl hl) λnb U5=>?_;rw[q8];have X1:Ext H (upd H nb (.list ((sortI s.ks).map .int))):=Ext.new U5;have QK:upd H nb (.list ((sortI s.ks).map .int)) nb=some (.list ((sortI s.ks).map .int)):=af _ _ _;generalize upd H nb (.list ((sortI s.ks).map .int))=H1 at X1 QK;have R1:=R.ext X1;left;show iX R1 w.cl dZ λlv H2 X2 Ki Bt=>?_;show cy<|f_len Bt (by rw[J];show li 0x11ffb742403a110110 rfl Aj) ?_;rw[J,oh];left;show ⟨lb rfl,λc3 Bs=>?_⟩;have X3:Ext H2 (upd H2 c3 (.tup [.ref nb,.int (mE s).length])):=Ext.new Bs;have h3:upd H2 c3 (.tup [.ref nb,.int (mE s).length]) c3=some (.tup [.ref nb,.int (mE s).length]):=af _ _ _;generalize upd H2 c3 (.tup [.ref nb,.int (mE s).length])=H3 at X3 h3;show fY h3 bO rfl ?_;have N3:=X1.trans (X2.trans X3);have D3:=D.ext N3;have R3:=R.ext N3;have MG:=(X2.trans X3) _ _ QK;have U7:nb≠dk:=λz=>by rw[z,D.hk] at U5;show fB U5
 have M3:Mv (λa=>Own Y s a\/(a=dk\/a=sz)) (λa=>Own Y s a\/(a=dk\/a=sz)) H H3:=(Mv.ext (O:=Own Y s) N3).wide _;have Tg:=hO dk (.inl rfl);have O9:0<s.ks.length:=cL ((w.dom _).mpr ⟨xr,dZ⟩);have F7:∀ (j:Nat) (h:j<(sortI s.ks).length),∃ x,s.m (sortI s.ks)[j]=some x:=λj h=>(w.dom _).mp (lr.mp (Bk h));have Bx:=oz s.ks;generalize hL:sortI s.ks=L at *
 generalize Qz:(λa=>Own Y s a\/(a=dk\/a=sz))=O2 at *
 have Sv:∀ a,O2 a↔Own Y s a\/(a=dk\/a=sz):=λa=>by rw[<-Qz]
 have PU:∀ (Hc:MH) (j:Int),Rp Hc Y s->Ds Hc dk cl sz cells j W0 W1->Hc nb=some (.list (L.map .int))->Mv O2 O2 H Hc->Rp (upd Hc dk (.list [.ref cl,.int (j+1)])) Y s/\Ds (upd Hc dk (.list [.ref cl,.int (j+1)])) dk cl sz cells (j+1) W0 W1/\upd Hc dk (.list [.ref cl,.int (j+1)]) nb=some (.list (L.map .int))/\Mv O2 O2 H (upd Hc dk (.list [.ref cl,.int (j+1)])):=λHc j r D0 h m=>
  ⟨r.out Tg,D0.step,by rw[aj U7];show h,m.trans (Mv.upd ((Sv dk).mpr (.inr (.inl rfl))))⟩
 have sD:∀ (Hc ri:MH) (j:Int) (O':Nat->Prop),Ds Hc dk cl sz cells j W0 W1->Mv (Own Y s) O' Hc ri->Ds ri dk cl sz cells j W0 W1:=λHc ri j O' D0 m=>D0.out λa o ha e0=>m.keep a o e0 (hO a ha);have widen:∀ (ri H3:MH) (O':Nat->Prop),Mv O2 O2 H ri->Mv (Own Y s) O' ri H3->Mv O2 (λa=>O' a\/(a=dk\/a=sz)) H H3/\∀ a,O' a->Own Y s a\/H a=none:=λri H3 O' m1 m2=>⟨m1.trans (by rw[<-Qz];show m2.wide _),λa h=>(m2.own a h).imp id λz=>m1.live a z⟩
 left;show iz D3.hk D3.hc kD hi (li 0x11ffb72a2019560001 rfl uk) (by decide) λway MK IB=>?_;show gM (PU H3 i R3 D3 MG M3) λR4 D4 U4 M4=>?_;generalize upd H3 dk (.list [.ref cl,.int (i+1)])=H4 at R4 D4 U4 M4;left;show f_len U4 (by rw[J];show li 0x1011ffb76e8480f50107a578120 rfl hl Bx) ?_;rw[J];fail;show iz D4.hk D4.hc kD (li 0x47fedcb81080419402001 rfl hi) (li 0x47fedca8b021019560001 rfl uk) (li 0x1101ffb76e6068350107a40a020 rfl O9 Bx) λni Ua Oi=>?_;show gM (PU H4 (i+1) R4 D4 U4 M4) λR5 D5 Og M5=>?_;generalize upd H4 dk (.list [.ref cl,.int (i+1+1)])=H5 at R5 D5 Og M5;have It:ni.toNat<L.length:=li 0x1010010110101000ffb76eddba4185d9af5200b95000d79c005ca01066060350107a40a031 rfl O9 Bx Oi (pL ni);show oE (F7 ni.toNat It) λx hx=>?_;show cW (v:=.int L[ni.toNat]) Og Ua (li 0x44047feddbb73644880066060350107a578121 rfl hl Bx Oi) (by rw[au,aU It];rfl) ?_;generalize L[ni.toNat]=k at hx;fail;show ⟨lb rfl,λc6 JN=>?_⟩;have X6:Ext H5 (upd H5 c6 (.tup [.int way,.int k])):=Ext.new JN;have h6:upd H5 c6 (.tup [.int way,.int k]) c6=some (.tup [.int way,.int k]):=af _ _ _;generalize upd H5 c6 (.tup [.int way,.int k])=H6 at X6 h6;have R6:=R5.ext X6;have D6:=D5.ext X6;have hn6:=X6 _ _ Og;have M6:=M5.trans (Mv.ext X6);show fY h6 bO rfl ?_;left;show ⟨lb rfl,λc7 SY=>?_⟩;have X7:Ext H6 (upd H6 c7 (.list [.int 1,.int 0])):=Ext.new SY;have h7:upd H6 c7 (.list [.int 1,.int 0]) c7=some (.list [.int 1,.int 0]):=af _ _ _;generalize upd H6 c7 (.list [.int 1,.int 0])=H7 at X7 h7;have R7:=R6.ext X7;have D7:=D6.ext X7;have hn7:=X7 _ _ hn6;have M7:=M6.trans (Mv.ext X7);have Sg:c7≠dk:=λz=>by rw[z,D6.hk] at SY;show fB SY
 left;show iz D7.hk D7.hc kD (li 0x11ffb72e04381080419402001 rfl hi) (li 0x11ffb72a2c087021019560001 rfl uk) (by decide) λai JJ JK=>?_;show gM (PU H7 (i+1+1) R7 D7 hn7 M7) λR8 D8 WO M8=>?_;have h8:upd H7 dk (.list [.ref cl,.int (i+1+1+1)]) c7=some (.list [.int 1,.int 0]):=by rw[aj Sg];show h7
 generalize upd H7 dk (.list [.ref cl,.int (i+1+1+1)])=H8 at R8 D8 WO M8 h8;show cW (v:=.int (1-ai)) h8 JJ (li 0x47fedcd91220019918001 rfl JK) ?_ ?_
 .rcases (show ai=0\/ai=1 by show li 0x1010110001010101ffb76ecce840674003323019402001 rfl JJ JK) with rfl|rfl<;>rfl
 have ha:(1-ai)=0\/(1-ai)=1:=li 0x1001110010010110ffb76ecce87100439d0620087323019402001 rfl JJ JK;generalize 1-ai=a at ha;left;show iz D8.hk D8.hc kD (li 0x47fedcb810e04381080419402001 rfl hi) (li 0x47fedca8b021c087021019560001 rfl uk) (by decide) λpi Um Un=>?_;show gM (PU H8 (i+1+1+1) R8 D8 WO M8) λR9 D9 WQ M9=>?_;generalize upd H8 dk (.list [.ref cl,.int (i+1+1+1+1)])=H9 at R9 D9 WQ M9;show cf<|mJ ?_;have hp:-12<=pi-12/\pi-12<=17:=li 0x440407feddbaf2b6c4c4065c4c4063628334e019402001 rfl Um Un;generalize pi-12=part at hp;fail;show ⟨lb rfl,λMl SU=>?_⟩;have yv:Ext H9 (upd H9 Ml (.tup [.int a,.int part])):=Ext.new SU;have Qq:upd H9 Ml (.tup [.int a,.int part]) Ml=some (.tup [.int a,.int part]):=af _ _ _;generalize upd H9 Ml (.tup [.int a,.int part])=yl at yv Qq;have k9:=R9.ext yv;have uh:=D9.ext yv;have U2:=yv _ _ WQ;have ps:=M9.trans (Mv.ext yv);show fY Qq bO rfl ?_;rw[show i+1+1+1+1=i+4 by show li 0x47fe7c09806043810e0438108001 rfl] at uh;left;show bP (λh=>?_) λh=>?_
 .left;show bP (λ_=>?_) λ_=>?_;all_goals
   left
   show iz uh.hk uh.hc kD (li 0x47fedcb81300419402001 rfl hi) (li 0x47fedca8b026019560001 rfl uk) (by decide) λbi Zy Zz=>?_
   show gM (PU yl (i+4) k9 uh U2 ps) λqW Mh U3 rn=>?_
   generalize upd yl dk (.list [.ref cl,.int (i+4+1)])=uu at qW Mh U3 rn
   show cf<|Jm<|cy ?_
   show El bO ha qW I hx (by first|show .inl rfl|show .inr ⟨_,rfl⟩) (li 0x11ffb74ac03a578110 rfl hl) (λoH Ry PO RH r12 hY wB uD MY qZ Cv hkl=>?_) λoH jf=>?_
   .have zQ:=sD _ _ _ _ Mh uD
    left;show q oH Ry PO RH _ _ _ _ hY wB MY zQ (li 0x11ffb72e04381300419402001 rfl hi) (li 0x7fe5c0a4060438130001 rfl) (by rw[qZ 0 (.inl rfl),h0]) (by rw[qZ 1 (.inr rfl),h1]) (li 0x7fe5c0a000001 rfl) (li 0x7fe5c0a000001 rfl) hkl (widen _ _ _ rn uD) (li 0x110101ffb7381c0841eac08418120 rfl Cv)
   .show e oH _ (qW.ext jf) (Mh.ext jf) (li 0x11ffb72e04381300419402001 rfl hi) (li 0x7fe5c0a4060438130001 rfl) (rn.trans (Mv.ext jf))
 have T2:=λk x (h:s.m k=some x) hs=>T.len2 h hs
 have same:∀ (g' p':Int->Int->Int),Gm { s with g:=g',p:=p' }->Plp { s with g:=g' } p'->Inv { s with g:=g',p:=p' } d:=λg' p' G' z=>⟨T.eq rfl rfl rfl rfl,G',⟨z.1,z.2.1,λj hj=>by
  have:=z.2.2 j hj
  show ⟨this.al,this.ac⟩⟩,kF⟩
 left;show bP (λh=>?_) λh=>?_
 .left;show sQ k9 w.cl ⟨x,hx⟩ λlv2 uu uJ za0 qh=>?_;have TN:(lg (aA s) k).length<=1000:=aR (kI w.rk k) (w.cl.len k x hx);show cy<|f_len qh (by rw[J];show li 0x11ffb742403a110110 rfl TN) ?_;rw[J];have qW:=k9.ext uJ;have Mh:=uh.ext uJ;have rn:=ps.trans (Mv.ext uJ);left;show AV bO qW I hx (λoH Ry PO RH hY wB uD MY qZ Cv hkl=>?_) λoH jf=>?_
  .have zQ:=sD _ _ _ _ Mh uD;left;show q oH Ry PO RH _ _ _ _ hY wB MY zQ (li 0x47fedcb81300419402001 rfl hi) (li 0x1ff97029018130001 rfl) (by rw[qZ 0 (.inl rfl),h0]) (by rw[qZ 1 (.inr rfl),h1]) (li 0x7fe5c0a000001 rfl) (li 0x7fe5c0a000001 rfl) (li 0x47fedd18118303a018120 rfl hkl) (widen _ _ _ rn uD) (li 0x110101ffb7381c40c2ea0b8018130 rfl Cv)
  .show e oH _ (qW.ext jf) (Mh.ext jf) (li 0x47fedcb81300419402001 rfl hi) (li 0x1ff97029018130001 rfl) (rn.trans (Mv.ext jf))
 left;show bP (λh=>?_) λh=>?_
 .left;show B7 bO ha k9 w G T2 (li 0x110101ffb75e54403280c68906bcad8065018d8a001 rfl hp) ⟨x,hx⟩ (λoH Mp Fb wB uD MX z12 qZ=>?_) λoH jf=>?_
  .have zQ:=sD _ _ _ _ uh uD;left;show q oH Y { s with g:=Mp,p:=Fb } d _ _ _ _ rfl wB (same _ _ MX z12) zQ (li 0x47fedcb81300419402001 rfl hi) (li 0x1ff97029018130001 rfl) ((qZ 0).trans h0) ((qZ 1).trans h1) (li 0x7fe5c0a000001 rfl) (li 0x7fe5c0a000001 rfl) (by change s.ks.length<=_;show li 0x7fe8c08c08110 rfl) (widen _ _ _ ps uD) rfl
  .show e oH _ (k9.ext jf) (uh.ext jf) (li 0x47fedcb81300419402001 rfl hi) (li 0x1ff97029018130001 rfl) (ps.trans (Mv.ext jf))
 left;show bP (λh=>?_) λh=>?_
 .left;show y9 bO k9 w G ⟨x,hx⟩ λoH Mp Fb wB uD MX z12 qZ=>?_;have zQ:=sD _ _ _ _ uh uD;left;show q oH Y { s with g:=Mp,p:=Fb } d _ _ _ _ rfl wB (same _ _ MX z12) zQ (li 0x47fedcb81300419402001 rfl hi) (li 0x1ff97029018130001 rfl) ((qZ 0).trans h0) ((qZ 1).trans h1) (li 0x7fe5c0a000001 rfl) (li 0x7fe5c0a000001 rfl) (by change s.ks.length<=_;show li 0x7fe8c08c08110 rfl) (widen _ _ _ ps uD) rfl
 left;show bP (λh=>?_) λh=>?_
 .have UB:=hO sz (.inr (.inr rfl));left;show cW (i:=0) uh.hz (aY _) (by decide) rfl ?_;show aO rfl<|jx<|bx<|gD<|fj<|aO rfl<|cf<|cW (i:=1) uh.hz (by decide) (by decide) rfl<|aO rfl<|jx<|cy ?_;show B8 bO k9 w G (li 0x1101ffb76e55580100d795b02ca0b1b14195d8002 rfl I8 hp) (li 0x40444047feddb955600403667420b3a00595d8002 rfl Ia ha) (λoH Mp Fb wB uD MX z12 Bw WU=>?_) λoH jf=>?_
  .have zQ:=sD _ _ _ _ uh uD;have MZ:=widen _ _ _ ps uD;left;show cW (i:=0) zQ.hz (aY _) (by decide) rfl ?_;show aO rfl<|jx<|bx<|gD<|fj<|aO rfl<|cf<|cW (i:=1) zQ.hz (by decide) (by decide) rfl<|aO rfl<|jx<|cy ?_;show ⟨lb rfl,λHW SV=>?_⟩;have Fl:Ext oH (upd oH HW (.tup [.int (W0+part),.int (W1+a)])):=Ext.new SV;have Jz:upd oH HW (.tup [.int (W0+part),.int (W1+a)]) HW=some (.tup [.int (W0+part),.int (W1+a)]):=af _ _ _;generalize upd oH HW (.tup [.int (W0+part),.int (W1+a)])=uv at Fl Jz;have EP:=wB.ext Fl;have HP:=zQ.ext Fl;have Je:=MZ.1.trans (Mv.ext Fl);show fY Jz bO rfl ?_;have CG:¬ Own Y ({ s with g:=Mp,p:=Fb }:S) sz:=UB;left;show qK HP.hz (aY _) (uA.mpr (lb rfl)) (lb rfl) ?_;rw[show ([.int W0,.int W1]:List Val).set (0:Int).toNat (.int (W0+part))=[.int (W0+part),.int W1] from rfl];have Mk:=EP.out (o:=.list [.int (W0+part),.int W1]) CG;have Mi:=Je.trans (Mv.upd (O:=λa=>Own Y s a\/(a=dk\/a=sz)) (H:=uv) (o:=.list [.int (W0+part),.int W1]) (.inr (.inr rfl)));have Fg:Ds (upd uv sz (.list [.int (W0+part),.int W1])) dk cl sz cells (i+4) (W0+part) W1:=⟨by rw[aj HP.n2.symm];show HP.hk,by rw[aj HP.n3];show HP.hc,af _ _ _,HP.n1,HP.n2,HP.n3⟩
   generalize upd uv sz (.list [.int (W0+part),.int W1])=HQ at Mk Mi Fg;left;show qK Fg.hz (by decide) (aY _) (lb rfl) ?_;rw[show ([.int (W0+part),.int W1]:List Val).set (1:Int).toNat (.int (W1+a))=[.int (W0+part),.int (W1+a)] from rfl];have Ru:=Mk.out (o:=.list [.int (W0+part),.int (W1+a)]) CG;have Mj:=Mi.trans (Mv.upd (O:=λa=>Own Y s a\/(a=dk\/a=sz)) (H:=HQ) (o:=.list [.int (W0+part),.int (W1+a)]) (.inr (.inr rfl)));have XQ:Ds (upd HQ sz (.list [.int (W0+part),.int (W1+a)])) dk cl sz cells (i+4) (W0+part) (W1+a):=⟨by rw[aj Fg.n2.symm];show Fg.hk,by rw[aj Fg.n3];show Fg.hc,af _ _ _,Fg.n1,Fg.n2,Fg.n3⟩
   left;show q _ Y { s with g:=Mp,p:=Fb } d _ _ _ _ rfl Ru (same _ _ MX z12) XQ (li 0x47fedcb81300419402001 rfl hi) (li 0x1ff97029018130001 rfl) Bw WU (li 0x443fedcb81402c00016bcad8065018d8a002 rfl hp) (li 0x101101ffb72e0500b00005b33a1019d00002 rfl ha) (by change s.ks.length<=_;show li 0x7fe8c08c08110 rfl) ?_ rfl;show ⟨?_,MZ.2⟩;rw[<-Qz] at Mj ⊢;show Mj
  .show e oH _ (k9.ext jf) (uh.ext jf) (li 0x47fedcb81300419402001 rfl hi) (li 0x1ff97029018130001 rfl) (ps.trans (Mv.ext jf))
 left;show bP (λh=>?_) λh=>?_
 .left;show B5 bO k9 I hx (λoH PO wB uD MY qZ Cv hkl=>?_) ?_
  .have zQ:=sD _ _ _ _ uh uD;left;show q oH Y PO d _ _ _ _ rfl wB MY zQ (li 0x47fedcb81300419402001 rfl hi) (li 0x1ff97029018130001 rfl) (by rw[qZ 0 (.inl rfl),h0]) (by rw[qZ 1 (.inr rfl),h1]) (li 0x7fe5c0a000001 rfl) (li 0x7fe5c0a000001 rfl) (li 0x47fedd18118303a018120 rfl hkl) (widen _ _ _ ps uD) (li 0x110101ffb738143a908110 rfl Cv)
  .show e yl _ k9 uh (li 0x47fedcb81300419402001 rfl hi) (li 0x1ff97029018130001 rfl) ps
 .left;show q yl Y s d _ _ _ _ rfl k9 I uh (li 0x47fedcb81300419402001 rfl hi) (li 0x1ff97029018130001 rfl) h0 h1 (li 0x7fe5c0a000001 rfl) (li 0x7fe5c0a000001 rfl) (li 0x7fe8c08c08110 rfl) ?_ rfl;show ⟨by rw[Qz];show ps,λa h=>.inl h⟩
end
end
section
variable {n:Nat} {hd:Bool} {H H':MH} {Y:Ly} {s s':S} {d d':Int->Nat} {k P K:Int} {x y:W} {Q:PQ} {E:MH->Prop}
theorem AX{t dp:Nat}(ht:H t=some (.inst 1 [.ref dp,.int 0,.int 0,.int 3,.int 2]))(FW:H dp=some (.dict []))
  (q:∀ H' a c e l,H' t=some (.inst 1 [.ref dp,.int 1,.int 0,.int 3,.int 2])->H' dp=some (.dict [(1,.ref a)])->H' a=some (.inst 0 [.int 1,.int 0,.int 0,.ref c,.int 0,.int 0,.int 0,.int 0,.int 0,.int 1,.int 1,.int 0,.bool false,.int 0,.ref e,.ref l])->H' c=some (.list [])->H' e=some (.list [])->H' l=some (.list [])->c≠e->c≠l->
   (∀ b o,H b=some o->b≠t->b≠dp->H' b=some o)->(∀ b,H' b=none->H b=none)->H a=none->H c=none->H e=none->H l=none->Q (.ref a) H') :
  br Fn (n+2) hd 7 [.ref t,.int 0,.int 0] H Q E:=by
 clear n hd H Q E t dp _ ht FW q;have OM:t≠dp:=λz=>by rw[z,FW] at ht;show lA ht rfl
 show w_call rfl rfl ?_;unfold u9;show bY<|gf<|gD<|fs<|aO rfl<|f7 ht rfl<|cf<|jx<|aO rfl<|bX ht (lb rfl) ?_;have e1:upd H t (.inst 1 (([.ref dp,.int 0,.int 0,.int 3,.int 2]:List Val).set 1 (.int (0+1)))) t=some (.inst 1 [.ref dp,.int 1,.int 0,.int 3,.int 2]):=af _ _ _;have d1:upd H t (.inst 1 (([.ref dp,.int 0,.int 0,.int 3,.int 2]:List Val).set 1 (.int (0+1)))) dp=some (.dict []):=by rw[aj OM.symm];show FW
 have k1:eO t H (upd H t (.inst 1 (([.ref dp,.int 0,.int 0,.int 3,.int 2]:List Val).set 1 (.int (0+1))))):=eO.refl.upd;have n1:∀ b,upd H t (.inst 1 (([.ref dp,.int 0,.int 0,.int 3,.int 2]:List Val).set 1 (.int (0+1)))) b=none->H b=none:=λb h=>d8 h;generalize upd H t (.inst 1 (([.ref dp,.int 0,.int 0,.int 3,.int 2]:List Val).set 1 (.int (0+1))))=H1 at e1 d1 k1 n1;show bY<|gO<|EN<|bx<|fs<|aO rfl<|f7 e1 rfl<|bx<|aO rfl<|bx<|aO rfl<|cy ?_;intro a ha;show w8 (af _ _ _) λH2 c e l X2 h2 hc he qh nc ne nl Yh Yi=>?_;have jf:Ext H1 H2:=λb o hb=>X2 _ _ ((Ext.new ha) _ _ hb) λz=>by rw[z,ha] at hb;show cz hb
 have e2:=jf _ _ e1;have d2:=jf _ _ d1;show ⟨rfl,?_⟩;show bY<|J3<|aO rfl<|fs<|aO rfl<|f7 e2 rfl<|fs<|aO rfl<|f7 e2 rfl<|kM d2 (lb rfl) ?_;have Pr:∀ b o,H2 b=some o->(∀ es,o≠.dict es)->b≠dp:=λb o h nn z=>by
  rw[z,d2] at h;cases h;show nn _ rfl
 have up:∀ b,upd H1 a (.inst 0 []) b=none->H b=none:=λb h=>n1 b (d8 h);show bY<|Ee<|aO rfl ?_;show q _ a c e l ?_ (af _ _ _) ?_ ?_ ?_ ?_ Yh Yi (λb o hb h1 h2=>by rw[aj h2];show jf _ _ (k1 _ _ hb h1)) (λb h=>n1 b (jf.none (d8 h))) (n1 a ha) (up c nc) (up e ne) (up l nl)
 .rw[aj (Pr _ _ e2 λ_ h=>sY h rfl)];show e2
 .rw[aj (Pr _ _ h2 λ_ h=>sY h rfl)];show h2
 .rw[aj (Pr _ _ hc λ_ h=>sY h rfl)];show hc
 .rw[aj (Pr _ _ he λ_ h=>sY h rfl)];show he
 .rw[aj (Pr _ _ qh λ_ h=>sY h rfl)];show qh
noncomputable def s0(W0 W1:Int)(u c:Int):S:={ m:=λj=>if j=1 then some ⟨0,0,[],1,1,1,0,u⟩ else none,g:=λb _=>if b=0 then W0 else W1,p:=λ_ _=>0,ks:=[1],last:=1,clock:=c,root:=1,sel:=1 }
theorem Lu{W0 W1 u c:Int}(h0:3<=W0)(h1:2<=W1)(h2:W0<=50000)(h3:W1<=50000):Inv (s0 W0 W1 u c) (λ_=>0):=by
 clear W0 W1 u c _ h0 h1 h2 h3;have inv:∀ j z,(s0 W0 W1 u c).m j=some z->j=1/\z=⟨0,0,[],1,1,1,0,u⟩:=λj z h=>by
  have h:(if j=1 then some _ else none)=some z:=h;by_cases e:j=1
  .rw[if_pos e] at h;cases h;show ⟨e,rfl⟩
  .rw[if_neg e] at h;show cz h
 have hk:(s0 W0 W1 u c).m 1=some ⟨0,0,[],1,1,1,0,u⟩:=by
  change (if (1:Int)=1 then _ else none)=_;show if_pos rfl
 show ⟨⟨⟨⟨_,hk,rfl⟩,λj z hz=>?_,λj z hz=>?_,λj z hz hs=>?_,λj z hz=>?_,λj z c hz hc=>?_,λj z hz hj=>?_,λj=>?_,by change ([1]:List Int).Nodup;show J9,by change ([1]:List Int).length<=1000;show lb rfl⟩,λj z c zc hz hc=>?_,λj z hz hs=>?_⟩,⟨λb j hb _=>AxL.of λz hz=>?_,λb hb=>?_⟩,⟨rfl,rfl,λj hj=>⟨λz hz=>?_,λz hz=>?_⟩⟩,⟨_,hk,rfl⟩⟩
 ·(show oA (inv j z hz) λaG cE=>?_;clear hz;subst aG;subst cE);show ⟨by decide,by change (1:Int)<=1;decide⟩
 ·(show oA (inv j z hz) λaG cE=>?_;clear hz;subst aG;subst cE);show ⟨λ_=>rfl,λ_=>rfl⟩
 ·(show oA (inv j z hz) λaG cE=>?_;clear hz;subst aG;subst cE);show absurd rfl hs
 ·(show oA (inv j z hz) λaG cE=>?_;clear hz;subst aG;subst cE);show dX
 ·(show oA (inv j z hz) λaG cE=>?_;clear hz;subst aG;subst cE);show iF hc
 .show absurd (inv j z hz).1 hj
 .change j∈([1]:List Int)↔_;rw[aa];show ⟨λe=>⟨_,by rw[e];show hk⟩,λ⟨z,hz⟩=>(inv j z hz).1⟩
 ·(show oA (inv j z hz) λaG cE=>?_;clear hz;subst aG;subst cE);show iF hc
 ·(show oA (inv j z hz) λaG cE=>?_;clear hz;subst aG;subst cE);show absurd rfl hs
 ·(show oA (inv j z hz) λaG cE=>?_;clear hz;subst aG;subst cE);show ⟨λ_=>?_,λhs=>absurd rfl hs,λhs=>absurd rfl hs⟩;rcases hb with rfl|rfl
  .show h0
  .show h1
 .rcases hb with rfl|rfl
  .show h2
  .show h3
 ·(show oA (inv j z hz) λaG cE=>?_;clear hj hz;subst aG;subst cE);trivial
 ·(show oA (inv j z hz) λaG cE=>?_;clear hz;subst aG;subst cE);intro c hc;show iF hc
theorem Em{t:Nat}{W0 W1:Int}(ht:H t=some (.inst 1 []))
  (q:∀ H' Y,Y.tp=t->Rp H' Y (s0 W0 W1 1 1)->eO t H H'->(∀ a,Own Y (s0 W0 W1 1 1) a->a=t\/H a=none)->Q .none H') :
  br Fn (n+3) hd 1 [.ref t,.int W0,.int W1,.int 1,.int 3,.int 2] H Q E:=by
 clear n hd H Q E t W0 W1 _ ht q;show w_call rfl rfl ?_;unfold jw;show bY<|gf<|zK λdp FW=>?_;have OM:t≠dp:=λz=>by rw[<-z,ht] at FW;show fB FW
 show aO rfl<|bD (by rw[aj OM];show ht) rfl ?_;show bY<|gf<|cf<|aO rfl<|bD (af _ _ _) rfl ?_;show bY<|gf<|cf<|aO rfl<|bD (af _ _ _) rfl ?_;show bY<|gf<|aO rfl<|aO rfl<|bD (af _ _ _) rfl ?_;show bY<|gf<|aO rfl<|aO rfl<|bD (af _ _ _) rfl ?_;generalize I7:upd _ t _=H1;have t1:H1 t=some (.inst 1 [.ref dp,.int 0,.int 0,.int 3,.int 2]):=by rw[<-I7];show af _ _ _
 have d1:H1 dp=some (.dict []):=by
  rw[<-I7];simp only[aj OM.symm,af]
 have X1:eO t H H1:=I7▸(eO.refl.ext (Ext.new FW)).upd.upd.upd.upd.upd;have Rf:∀ b,H1 b=none->H b=none:=λb h=>by
  rw[<-I7] at h;show d8 (d8 (d8 (d8 (d8 (d8 h)))))
 show bY<|gO<|uf<|aO rfl<|tP t1<|bx<|cf<|bx<|cf<|cy ?_;show AX t1 d1 λH2 a c e l t2 d2 a2 c2 e2 l2 n1 n2 X2 nn2 na nc ne nl=>?_;have UD:t≠a:=λz=>by rw[<-z,t1] at na;show fB na
 have ZJ:dp≠a:=λz=>by rw[<-z,d1] at na;show fB na
 have ZG:c≠a:=λz=>by rw[z,a2] at c2;show lA c2 rfl
 have ZR:e≠a:=λz=>by rw[z,a2] at e2;show lA e2 rfl
 have hla:l≠a:=λz=>by rw[z,a2] at l2;show lA l2 rfl
 have wF:c≠t:=λz=>by rw[z,t2] at c2;show lA c2 rfl
 have het:e≠t:=λz=>by rw[z,t2] at e2;show lA e2 rfl
 have iL:l≠t:=λz=>by rw[z,t2] at l2;show lA l2 rfl
 show bY<|gf<|aO rfl<|aO rfl<|bX a2 (lb rfl) ?_;show bY<|gf<|aO rfl<|aO rfl<|bX (af _ _ _) (lb rfl) ?_;show bY<|gf<|aO rfl<|aO rfl<|bX (af _ _ _) (lb rfl) ?_;generalize l5:upd _ a _=H3;have a3:H3 a=some (.inst 0 [.int 1,.int 0,.int 0,.ref c,.int 0,.int 0,.int W0,.int W1,.int 1,.int 1,.int 1,.int 0,.bool false,.int 0,.ref e,.ref l]):=by rw[<-l5];show af _ _ _
 have o3:∀ b,b≠a->H3 b=H2 b:=λb hb=>by rw[<-l5];simp only[aj hb]
 have t3:H3 t=some (.inst 1 [.ref dp,.int 1,.int 0,.int 3,.int 2]):=by rw[o3 t UD];show t2
 show bY<|gf<|fs<|aO rfl<|f7 a3 rfl<|aO rfl<|bD t3 rfl ?_;show bY<|gf<|fs<|aO rfl<|f7 (by rw[aj UD.symm];show a3) rfl<|aO rfl<|bD (af _ _ _) rfl ?_;generalize FE:upd _ t _=H4;have t4:H4 t=some (.inst 1 [.ref dp,.int 1,.int 0,.int 3,.int 2,.int 1,.int 1]):=by rw[<-FE];show af _ _ _
 have o4:∀ b,b≠t->H4 b=H3 b:=λb hb=>by rw[<-FE];simp only[aj hb]
 have ZM:dp≠t:=OM.symm;have g4:∀ b,b≠a->b≠t->H4 b=H2 b:=λb h1 h2=>by rw[o4 b h2,o3 b h1]
 have inv:∀ j z,(s0 W0 W1 0 0).m j=some z->j=1/\z=⟨0,0,[],1,1,1,0,0⟩:=λj z h=>by
  have h:(if j=1 then some _ else none)=some z:=h;by_cases e:j=1
  .rw[if_pos e] at h;cases h;show ⟨e,rfl⟩
  .rw[if_neg e] at h;show cz h
 have hk:(s0 W0 W1 0 0).m 1=some ⟨0,0,[],1,1,1,0,0⟩:=by
  change (if (1:Int)=1 then _ else none)=_;show if_pos rfl
 have R4:Rp H4 ⟨t,dp,λ_=>a,λ_=>c,λ_=>e,λ_=>l⟩ (s0 W0 W1 0 0):=by
  show ⟨t4,by rw[show (Ly.mk t dp (λ_=>a) (λ_=>c) (λ_=>e) (λ_=>l)).dp=dp from rfl,g4 dp ZJ ZM];show d2,by change ([1]:List Int).Nodup;show J9,λj=>?_,by change ([1]:List Int).length<=1000;show lb rfl,λj z hz=>?_,λj z hz=>?_,λj z hz=>?_,λj z hz=>?_,λi j y z h1 h2 _=>?_,λi j y z h1 h2 _=>?_,λi j y z h1 h2=>⟨n1,n2⟩⟩
  .change j∈([1]:List Int)↔_;rw[aa];show ⟨λe=>⟨_,by rw[e];show hk⟩,λ⟨z,hz⟩=>(inv j z hz).1⟩
  ·(show oA (inv j z hz) λaG cE=>?_;clear hz;subst aG;subst cE);change H4 a=_;rw[o4 a UD.symm,a3];rfl
  ·(show oA (inv j z hz) λaG cE=>?_;clear hz;subst aG;subst cE);change H4 c=_;rw[g4 c ZG wF];show c2
  .change H4 e=_;rw[g4 e ZR het];show e2
  .change H4 l=_;rw[g4 l hla iL];show l2
  .show (inv i y h1).1.trans (inv j z h2).1.symm
  .show (inv i y h1).1.trans (inv j z h2).1.symm
 have X4:eO t H H4:=λb o hb Mu=>by
  have h1:=X1 b o hb Mu;have EY:b≠a:=λz=>by rw[z,na] at h1;show cz h1
  have Zx:b≠dp:=λz=>by rw[z,FW] at hb;show cz hb
  rw[g4 b EY Mu];show X2 b o h1 Mu Zx
 generalize JI:(⟨t,dp,λ_=>a,λ_=>c,λ_=>e,λ_=>l⟩:Ly)=Y at R4;have QV:Y.tp=t:=by rw[<-JI]
 have Zq:∀ j,Y.wa j=a:=λj=>by rw[<-JI]
 have Zp:H4 a=some (.inst 0 (wl Y (s0 W0 W1 0 0) 1 ⟨0,0,[],1,1,1,0,0⟩)):=by
  have:=R4.wn 1 _ hk;rwa [Zq] at this
 have Ay:∀ u v b,Own Y (s0 W0 W1 u v) b->b=t\/H b=none:=λu v b hb=>by
  rw[<-JI] at hb;rcases hb with h|h|⟨j,z,hz,h|h|h|h⟩
  .show .inl h
  .right;rw[h];show FW
  .right;rw[h];show Rf a na
  .right;rw[h];show Rf c nc
  .right;rw[h];show Rf e ne
  .right;rw[h];show Rf l nl
 show bY<|u5<|uf<|aO rfl<|tP t4<|bx<|fs<|aO rfl<|f7 Zp rfl<|cy ?_;rw[<-QV];show En R4 hk λH5 s5 Ky R5 M5=>?_;have ip:s5=s0 W0 W1 1 1:=by
  rw[Ky];change ({ s0 W0 W1 1 1 with m:=λj=>if j=1 then some ⟨0,0,[],1,1,1,0,1⟩ else if j=1 then some ⟨0,0,[],1,1,1,0,0⟩ else none }:S)=s0 W0 W1 1 1;have:(λj:Int=>if j=1 then some (⟨0,0,[],1,1,1,0,1⟩:W) else if j=1 then some ⟨0,0,[],1,1,1,0,0⟩ else none)=λj=>if j=1 then some ⟨0,0,[],1,1,1,0,1⟩ else none:=by
   funext j;by_cases e:j=1
   .rw[if_pos e,if_pos e]
   .rw[if_neg e,if_neg e,if_neg e]
  rw[this];rfl
 rw[ip] at R5 M5;show q H5 Y QV R5 (λb o hb Mu=>M5.keep b o (X4 b o hb Mu) λho=>?_) (Ay 1 1);rcases Ay 0 0 b ho with h|h
 .show Mu h
 .rw[hb] at h;show fB h
end
section
variable {n:Nat} {hd:Bool} {H H':MH} {Y:Ly} {s s':S} {d d':Int->Nat} {k P K:Int} {x y:W} {Q:PQ} {E:MH->Prop}
theorem PR{Φ:Bool->Phi}{b h:MSs}{ρ:Sto}{QS:SQ}{ES:Sto->MH->Prop}(q:wSs Φ false b ρ H QS (λρ H=>wSs Φ true h ρ H QS (λ_=>no))):wS Φ false (.try b h) ρ H QS ES:=⟨rfl,q⟩
theorem Na{p r:Nat}{xs ys:List Val}{R:Bool->Prop}(e1:H p=some (.tup xs))(e2:H r=some (.tup ys))(D:Deq H 40 (.ref p) (.ref r))(h:R false):gy .ne (.ref p) (.ref r) H R:=II e1 (HF e1 (HF e2 ⟨D,h⟩))
theorem Nd.keepT(k:∀ a vs,H a=some (.tup vs)->H' a=some (.tup vs)){n:Nat}{r:Int}{v:Val}(h:Nd s H n r v):Nd s H' n r v:=by
 induction h with
 |leaf h1 h2 h3 h4 h5 h6=>show .leaf h1 h2 (k _ _ h3) (k _ _ h4) (k _ _ h5) (k _ _ h6)
 |comb h1 h2 h3 h4 h5 h6 ih=>show .comb h1 h2 (k _ _ h3) (k _ _ h4) h5 ih
theorem Cf.keepT(k:∀ a vs,H a=some (.tup vs)->H' a=some (.tup vs)){n:Nat}{v:Val}(h:Cf s H n v):Cf s H' n v:=by
 (show cS h λa b nv e h1 h2 h3=>?_;clear h);show ⟨a,b,nv,e,k _ _ h1,k _ _ h2,h3.keepT k⟩
theorem zw{dk cl sz:Nat}{cells:List Int}{i W0 W1:Int}{ρ:Sto}{QS:SQ}{ES:Sto->MH->Prop}(R:Rp H Y s)(I:Inv s d)(D:Ds H dk cl sz cells i W0 W1)(h0:s.g 0 s.root=W0)(h1:s.g 1 s.root=W1)(hl:s.ks.length<60)
  (e3:ρ 3=some (.ref sz)) (e4:ρ 4=some (.ref Y.tp)) (e7:ρ 7=some (.int ((mE s).length:Int))) (q:∀ H',Ext H H'->QS .next ρ H') :
  wSs (br Fn (n+7)) false (.cons (.ite (.orl (.cons (.not (.call 44 (.cons (.var 4) (.cons (.idx (.var 3) (.cst (.int 0))) (.cons (.idx (.var 3) (.cst (.int 1))) .nil))))) (.cons (.notNone (.call 32 (.cons (.var 4) .nil))) .nil))) (.cons (.ret (.cst (.bool false))) .nil) .nil) (.cons (.ite (.orl (.cons (.cmp .ne (.bcall .len (.cons (.call 15 (.cons (.var 4) .nil)) .nil)) (.var 7)) (.cons (.cmp .notin (.attr (.var 4) 1 6) (.call 15 (.cons (.var 4) .nil))) .nil))) (.cons (.ret (.cst (.bool false))) .nil) .nil) .nil)) ρ H QS ES:=by
 clear n H Y s d dk cl sz cells i W0 W1 ρ QS ES _ R I D h0 h1 hl e3 e4 e7 q;subst h0;subst h1;have I':=I;obtain ⟨T,G,PL,kF⟩:=I';have w:=T.w;show bj w.root λxr dZ IC=>?_;clear xr _ dZ IC;have Aj:(lg (aA s) s.root).length<=1000:=aR (kI w.rk _) (w.cl.len _ _ dZ);have oh:=oo w;show bY<|zt<|zN<|qU<|J6<|x_call<|bx<|aO e4<|bx<|fj<|aO e3<|cf<|cW (i:=0) D.hz (aY _) (by decide) rfl<|bx<|fj<|aO e3<|cf<|cW (i:=1) D.hz (by decide) (by decide) rfl<|cy ?_;show AU rfl R I λH1 X1=>?_;clear H1 _ X1;have R1:=R.ext X1;show rq ?_;show qU<|sX<|x_call<|bx<|aO e4<|cy ?_;show Eh rfl R1 I (li 0x11ffb74b003a578110 rfl hl) λH2 X2=>?_;clear H2 _ X2;have R2:=R1.ext X2;show rq ?_;show zM ?_;show rq ?_;show lY ?_;show bY<|zt<|zN<|qU<|qT<|lz<|bx<|x_call<|bx<|aO e4<|cy ?_;show iX R2 w.cl dZ λlv H3 X3 _ Bt=>?_;have R3:=R2.ext X3;show cy<|f_len Bt (by rw[J];show li 0x11ffb742403a110110 rfl Aj)<|aO e7<|N9 ?_;rw[J,oh];show bP (λh=>?_) λ_=>?_
 .simp at h
 show qU<|qT<|fs<|aO e4<|f7 R3.tr rfl<|x_call<|bx<|aO e4<|cy ?_;show iX R3 w.cl dZ λlv4 H4 X4 _ TS=>?_;show BO TS (li 0x11ffb742403a110110 rfl Aj) ?_;show bP (λh=>?_) λ_=>?_
 .have:s.sel∈lg (aA s) s.root:=(mZ w _).mpr ((eI w.dom).mpr kF);simp[this] at h
 show zM<|rq<|lY<|lY<|q _ (X1.trans (X2.trans (X3.trans X4)))
theorem law_mini(zs:List Int)(l:Nat)(xD:zs.length<=63):wSs (br Fn 30) false yA (λi=>[Val.ref l][i]?) (upd (λ_=>none) l (d6.ro (zs.map Val.int))) (λr _ _=>r=.ret (.bool true)) (λ_ _=>False):=by
 clear zs l _ xD;unfold yA;have rx:upd (λ_=>none) l (d6.ro (zs.map Val.int)) l=some (.ro (zs.map .int)):=af _ _ _;generalize upd (λ_=>none) l (d6.ro (zs.map Val.int))=H at rx;show bY<|gO<|oC<|bx<|EL<|EO<|aO rfl<|cf<|HH rx (by rw[J];show li 0x47fedd18522303a190110 rfl xD) (by decide) (by decide) λc1 Cc=>?_;clear c1 _ Cc;rw[show (zs.map Val.int).take (63:Int).toNat=(zs.take 63).map .int by rw[List.map_take];rfl];have h1:upd H c1 (.list ((zs.take 63).map .int)) c1=some (.list ((zs.take 63).map .int)):=af _ _ _;generalize upd H c1 (.list ((zs.take 63).map .int))=H1 at h1;show cf ?_;show dO (zs.take 63) _ (λz=>.int (if z<0 then -z else z)) (cK h1) (by rw[cq];show li 0x10111010ffb742407b35ea020f43203af53207a00b220 rfl (sH 63 zs.length)) (nB h1) (λz hz H2 X2 Q' hQ=>?_) λH2 cl X2 mU=>?_;clear z H2 Q' _ hz X2 hQ
 .show lz<|bx<|aO (v:=.int z) rfl<|cy<|Nk<|hQ _ Ext.refl
 clear H2 cl _ X2 mU;rw[er];have Cg:((zs.take 63).map λz=>if z<0 then -z else z).length<=63:=by rw[J,cq];show li 0x10111010ffb743207b35ea020f43203af53207a00b220 rfl (sH 63 zs.length)
 generalize ((zs.take 63).map λz=>if z<0 then -z else z)=cells at Cg;have Bs:upd H2 cl (.list (cells.map .int)) cl=some (.list (cells.map .int)):=af _ _ _;generalize upd H2 cl (.list (cells.map .int))=H3 at Bs;show bx<|cf<|cy ⟨lb rfl,λdk Ci=>?_⟩;clear dk _ Ci;have FK:cl≠dk:=λz=>by rw[<-z,Bs] at Ci;show fB Ci
 have FI:upd H3 dk (.list [.ref cl,.int 0]) cl=some (.list (cells.map .int)):=by rw[aj FK];show Bs
 have My:upd H3 dk (.list [.ref cl,.int 0]) dk=some (.list [.ref cl,.int 0]):=af _ _ _;generalize upd H3 dk (.list [.ref cl,.int 0])=H4 at FI My;show bY<|gO<|oC<|bx<|gD<|cf<|x_call<|bx<|aO rfl<|bx<|cf<|cy ?_;show iz My FI Cg (aY _) (by decide) (by decide) λr1 XH Ve=>?_;clear r1 _ XH Ve;have Mw:upd H4 dk (.list [.ref cl,.int (0+1)]) cl=some (.list (cells.map .int)):=by rw[aj FK];show FI
 have Ww:upd H4 dk (.list [.ref cl,.int (0+1)]) dk=some (.list [.ref cl,.int (0+1)]):=af _ _ _;generalize upd H4 dk (.list [.ref cl,.int (0+1)])=H5 at Mw Ww;show jx<|bx<|gD<|cf<|x_call<|bx<|aO rfl<|bx<|cf<|cy ?_;show iz Ww Mw Cg (by decide) (by decide) (by decide) λr2 XI Vf=>?_;clear r2 _ XI Vf;have JN:upd H5 dk (.list [.ref cl,.int (0+1+1)]) cl=some (.list (cells.map .int)):=by rw[aj FK];show Mw
 have T9:upd H5 dk (.list [.ref cl,.int (0+1+1)]) dk=some (.list [.ref cl,.int (0+1+1)]):=af _ _ _;generalize upd H5 dk (.list [.ref cl,.int (0+1+1)])=H6 at JN T9;show jx<|cy ⟨lb rfl,λsz qo=>?_⟩;have n2:sz≠dk:=λz=>by rw[z,T9] at qo;show fB qo
 have n3:cl≠sz:=λz=>by rw[<-z,JN] at qo;show fB qo
 have D7:Ds (upd H6 sz (.list [.int (12+r1),.int (6+r2)])) dk cl sz cells 2 (12+r1) (6+r2):=⟨by rw[aj n2.symm];show T9,by rw[aj n3];show JN,af _ _ _,FK,n2,n3⟩
 generalize upd H6 sz (.list [.int (12+r1),.int (6+r2)])=H7 at D7;show bY<|gO<|EN<|bx<|fj<|aO rfl<|cf<|cW (i:=0) D7.hz (aY _) (by decide) rfl<|bx<|fj<|aO rfl<|cf<|cW (i:=1) D7.hz (by decide) (by decide) rfl<|bx<|cf<|bx<|cf<|bx<|cf<|cy ?_;intro t ht;have D8:=D7.ext (Ext.new (o:=.inst 1 []) ht);have Iz:upd H7 t (.inst 1 []) t=some (.inst 1 []):=af _ _ _;generalize upd H7 t (.inst 1 [])=H8 at D8 Iz;show Em Iz λH9 Y QV R9 X9 Ay=>?_;have nt:∀ a,a=dk\/a=cl\/a=sz->a≠t:=λa ha z=>by
  clear a _ ha z;rcases ha with e|e|e
  .rw[<-z,e,D8.hk] at Iz;show lA Iz rfl
  .rw[<-z,e,D8.hc] at Iz;show lA Iz rfl
  .rw[<-z,e,D8.hz] at Iz;show lA Iz rfl
 have D9:Ds H9 dk cl sz cells 2 (12+r1) (6+r2):=D8.out λa o ha e=>X9 a o e (nt a ha);have Jh:∀ a,a=dk\/a=cl\/a=sz->∃ o,H8 a=some o:=λa ha=>by
  clear a _ ha;rcases ha with e|e|e
  .show ⟨_,by rw[e];show D8.hk⟩
  .show ⟨_,by rw[e];show D8.hc⟩
  .show ⟨_,by rw[e];show D8.hz⟩
 have We:∀ a,a=dk\/a=cl\/a=sz->¬ Own Y (s0 (12+r1) (6+r2) 1 1) a:=λa ha ho=>by
  clear a _ ha ho;rcases Ay a ho with e|e
  .show nt a ha e
  .show oE (Jh a ha) λo Bu=>?_;clear o _ Bu;rw[e] at Bu;show cz Bu
 have I9:Inv (s0 (12+r1) (6+r2) 1 1) (λ_=>0):=Lu (li 0x47fedcb800314b9402001 rfl XH) (li 0x47fedcb80029479402001 rfl XI) (li 0x47fedcaab000639978001 rfl Ve) (li 0x47fedcaab0005399e8001 rfl Vf);show ⟨rfl,?_⟩;rw[<-QV];show bY<|J2<|gD<|cf<|x_call<|bx<|aO rfl<|bx<|cf<|cy ?_;show iz D9.hk D9.hc Cg (by decide) (by decide) (by decide) λr3 r30 Lo=>?_;have uh:=D9.step;have k9:=R9.out (o:=.list [.ref cl,.int (2+1)]) (We dk (.inl rfl));generalize upd H9 dk (.list [.ref cl,.int (2+1)])=yl at uh k9;show jx<|cf ?_;have Up:-1000000<=3+r3/\3+r3<=1000000:=li 0x440407feddbaf2a4c0012e5c0012e34883329019402001 rfl r30 Lo;rw[src_range rfl Up]
 show cJ (λi ρ H=>ρ 1=some (.ref dk)/\ρ 3=some (.ref sz)/\∃ Y s d di W0 W1,ρ 4=some (.ref Y.tp)/\Rp H Y s/\Inv s d/\Ds H dk cl sz cells di W0 W1/\(∀ a,a=dk\/a=cl\/a=sz->¬ Own Y s a)/\s.g 0 s.root=W0/\s.g 1 s.root=W1/\
  W0<=100+20*(i:Int)/\W1<=100+20*(i:Int)/\0<=di/\di<=3+6*(i:Int)/\s.ks.length<=1+2*i) _ ?_ ?_
  ⟨rfl,rfl,Y,_,_,_,_,_,rfl,k9,I9,uh,We,rfl,rfl,li 0x11ffb72e0c39102050bb000639978001 rfl Ve,li 0x11ffb72e0c39102050bb0005399e8001 rfl Vf,li 0x7fe5c0851a000 rfl,li 0x1ff97061c8810294b810a300 rfl,by change ([1]:List Int).length<=_;show lb rfl⟩
 .rintro i it ρ HA hit ⟨e1,e3,Y,s,d,di,W0,W1,e4,R,I,D,hO,g0,g1,b0,b1,d0,d1,kl⟩;have hi:i<(3+r3).toNat:=by
   show oE (ao.mp hit) λhh _=>?_;simpa using hh
  show ⟨λa m=>(iF m),λK hK th=>?_⟩;rw[au,wN hi] at hit;cases hit;have I':=I;obtain ⟨T,G,PL,kF⟩:=I';have w:=T.w;show bj w.root λxr dZ IC=>?_;clear xr _ dZ IC;have Aj:(lg (aA s) s.root).length<=1000:=aR (kI w.rk _) (w.cl.len _ _ dZ);have QN:(pre (aA s) s.root).length<=s.ks.length:=fk (w.fo.pre_nodup _) λj hj=>(w.dom j).mpr (w.pre_at _ ⟨xr,dZ⟩ hj);change wSs _ _ _ (upd ρ 5 (.int (i:Int))) _ _ _;show bY<|J4<|J8<|bx<|x_call<|bx<|aO e4<|cy ?_;show zv R w.cl dZ λv HB XB hv=>?_;show bx<|lz<|bx<|x_call<|bx<|aO e4<|cy ?_;show iX (R.ext XB) w.cl dZ λlv HC XC _ Bt=>?_;have DC:=D.ext (XB.trans XC);show cy<|f_len Bt (by rw[J];show li 0x11ffb742403a110110 rfl Aj) ?_;rw[J,oo w];show bx<|lz<|bx<|aO e3<|cy<|f_list DC.hz (lb rfl) λan SJ=>?_;have XD:Ext HC (upd HC an (.list [.int W0,.int W1])):=Ext.new SJ;have ND:upd HC an (.list [.int W0,.int W1]) an=some (.list [.int W0,.int W1]):=af _ _ _;generalize upd HC an (.list [.int W0,.int W1])=HD at XD ND;show cy ⟨lb rfl,λtt sy=>?_⟩;show fY (af _ _ _) rfl rfl<|t7<|t8<|t7<|t8<|t7<|t8<|HU ?_;generalize W9:upd HD tt _=HE;have XE:Ext HD HE:=W9▸Ext.new sy;have Vx:=XB.trans (XC.trans (XD.trans XE));have RE:=R.ext Vx;have DE:=D.ext Vx;have Xd:=hv.ext (XC.trans (XD.trans XE));have SM:=XE _ _ ND;show bY<|PR<|bY<|gO<|x_call<|bx<|aO e1<|bx<|aO e4<|bx<|aO e3<|cy ?_;have P6:∀ a,a=dk\/a=cl\/a=sz->HE a≠none:=λa ha z=>by
   clear a _ ha z;rcases ha with e|e|e
   .rw[e,DE.hk] at z;show fB z
   .rw[e,DE.hc] at z;show fB z
   .rw[e,DE.hz] at z;show fB z
  have uk:20*i<=900:=yr 20 (aR (show i<=9 by show li 0x404040404047feddbb744803b35ea400f2a0c0012ebcf8002507970004a83483039948021 rfl Lo hi (pL (3+r3))) (lb rfl:9<=45));show Hb rfl RE I DE Cg d0 (li 0x40400418185bfeddbb76e5580b66bd4801e54180025d79f0004a0f2e0009506906072e0c2054a5059948022 rfl Lo d1 hi (pL (3+r3))) hO g0 g1 (li 0x447feddb95d80d0b3081519706102a170011 rfl b0 uk) (li 0x447feddb95d80d0b3081519706102a170011 rfl b1 uk) (li 0x40400408084bfeddbb76e95e0766bd4802e54180025d79f0004a172e000950690a0f460c20d1a1039948031 rfl Lo kl hi (pL (3+r3))) (λH' Y' s' d' m i' N0 N1 hY R' I2 D' j0 j1 f0 f1 k0 k1 Xr MM hm=>?_) λH' i' R' D' j0 j1 MM=>?_
  .subst hm;show lY<|zw R' I2 D' f0 f1 (li 0x10010010201212ffb76eddbb74af0fb35ea40172a0c0012ebcf800250b970004a8346046043e90a0f460c20d1a1039948041 rfl Lo kl hi Xr (pL (3+r3))) e3 (by rw[hY];show e4) rfl λri N2=>hK _ _ ⟨e1,e3,Y',s',d',i',N0,N1,by rw[hY];show e4,R'.ext N2,I2,D'.ext N2,λa ha ho=>?_,f0,f1,li 0x447feddb97061c98108140a1702cb81400059706102a170012 rfl b0 k0,li 0x447feddb97061c98108140a1702cb81400059706102a170012 rfl b1 k1,li 0x11ffb7280419402001 rfl j0,li 0x447feddb97061c98108140a5282cb81480059706102a528012 rfl d1 j1,li 0x111ffb76e8c187021068d085d1811810ba3061068d08130 rfl kl Xr⟩;clear a _ ha ho;rcases MM.2 a ho with z|z
   .show hO a ha z
   .show P6 a ha z
  .have Xc:Cf s H' (pre (aA s) s.root).length v:=Xd.keepT λa vs ha=>MM.keep a _ ha λz=>by
    rcases z with z|z|z
    .show RE.notup ha z
    .rw[z,DE.hk] at ha;show lA ha rfl
    .rw[z,DE.hz] at ha;show lA ha rfl
   have SK:H' an=some (.list [.int W0,.int W1]):=MM.keep an _ SM λz=>by
    have Qr:=SJ;rcases z with z|z|z
    .show (R.ext (XB.trans XC)).fresh SJ z
    .rw[z,DC.hk] at Qr;show fB Qr
    .rw[z,DC.hz] at Qr;show fB Qr
   show bY<|zt<|zN<|qU<|qT<|x_call<|bx<|aO e4<|cy ?_;show zv R' w.cl dZ λv2 H2 X2 UH=>?_;have tA:=Xc.ext X2;have Tf:=Cf.deq (li 0x4004004080484bfeddbb76edd0d83ecd7a9005ca830004baf3e000942e5c0012a0d0043e90a0f460c20d1a1039948041 rfl Lo kl hi QN (pL (3+r3))) UH tA;(show cS tA λa b nv aG q1 q2 q3=>?_;clear tA;clear hv W9 Xd Xc;subst aG);(show cS UH λa' b' Xw aG p1 p2 p3=>?_;clear UH;subst aG);show aO (v:=.ref a) rfl<|Na p1 q1 Tf ?_;show rq ?_;show qU<|qT<|aO e3<|aO (v:=.ref an) rfl<|HY (l:=[W0,W1]) (m:=[W0,W1]) (X2 _ _ D'.hz) (X2 _ _ SK) (lb rfl) (lb rfl) ?_;show bP (λh=>?_) λ_=>?_
   .simp at h
   show zM<|rq<|lY<|lY<|zw (R'.ext X2) I (D'.ext X2) g0 g1 (li 0x40400408084bfeddbb76e95e0766bd4802e54180025d79f0004a172e000950690a0f460c20d1a1039948031 rfl Lo kl hi (pL (3+r3))) e3 e4 rfl λri N2=>hK _ _ ⟨e1,e3,Y,s,d,i',W0,W1,e4,(R'.ext X2).ext N2,I,(D'.ext X2).ext N2,hO,g0,g1,li 0x11ffb72e0c393021028142e019706102a170011 rfl b0,li 0x11ffb72e0c393021028142e019706102a170011 rfl b1,li 0x11ffb7280419402001 rfl j0,li 0x447feddb97061c98108140a5282cb81480059706102a528012 rfl d1 j1,li 0x47fedd1830e0420d1a103a3061068d08120 rfl kl⟩
 .intro ρ HA _;show ⟨λa m=>(iF m),?_⟩;show rfl
end
end Mine
namespace Mine
namespace hd
theorem tw17311223219408574766:True:=⟨⟩
theorem tw17087091549796120035:True:=⟨⟩
theorem tw6924109203229866365:True:=⟨⟩
theorem tw15616948245753086127:True:=⟨⟩
theorem tw7519716089354478335:True:=⟨⟩
theorem tw14892549342360969540:True:=⟨⟩
theorem tw978945382295711627:True:=⟨⟩
theorem tw4065347644161347641:True:=⟨⟩
theorem tw6293948785866598258:True:=⟨⟩
theorem tw5961118342813265553:True:=⟨⟩
theorem tw9641152695372364146:True:=⟨⟩
theorem tw11128854368766332075:True:=⟨⟩
theorem tw10216474801634566288:True:=⟨⟩
theorem tw5148922909946612681:True:=⟨⟩
theorem tw5781342201191254626:True:=⟨⟩
theorem tw5732804406350252772:True:=⟨⟩
theorem tw14620637471214046174:True:=⟨⟩
theorem tw14176624398918483544:True:=⟨⟩
theorem tw15043168886218598503:True:=⟨⟩
theorem tw2867327485932766208:True:=⟨⟩
theorem tw10752148897807903841:True:=⟨⟩
theorem tw6990203504111849199:True:=⟨⟩
theorem tw15103106377680225435:True:=⟨⟩
theorem tw16649331688326792143:True:=⟨⟩
theorem tw13372043803930879067:True:=⟨⟩
theorem tw4856431653887292112:True:=⟨⟩
theorem tw307737655149646647:True:=⟨⟩
theorem tw2319242062444301091:True:=⟨⟩
theorem tw11117797201346649052:True:=⟨⟩
theorem tw2216850387143573719:True:=⟨⟩
theorem tw6838551448383532254:True:=⟨⟩
theorem tw18241275227582772068:True:=⟨⟩
theorem tw8047900516022102942:True:=⟨⟩
theorem tw8671608845466749128:True:=⟨⟩
theorem tw14896477498954680388:True:=⟨⟩
theorem tw8343274005884668182:True:=⟨⟩
theorem tw6998783941825042932:True:=⟨⟩
theorem tw16772102934027710169:True:=⟨⟩
theorem tw12936449754285732098:True:=⟨⟩
theorem tw17599816209265215132:True:=⟨⟩
theorem tw7752767780024739350:True:=⟨⟩
theorem tw17650839729002327288:True:=⟨⟩
theorem tw12092154237167983948:True:=⟨⟩
theorem tw6528754448969337418:True:=⟨⟩
theorem tw5373601922739893978:True:=⟨⟩
theorem tw17447410573909459338:True:=⟨⟩
theorem tw7540655947842036084:True:=⟨⟩
theorem tw14353793391729792155:True:=⟨⟩
theorem tw4014540891139286612:True:=⟨⟩
theorem tw5282504435634884242:True:=⟨⟩
theorem tw11953376511379268794:True:=⟨⟩
theorem tw11893437276241958245:True:=⟨⟩
theorem tw1382963296337349011:True:=⟨⟩
theorem tw18300207936620678264:True:=⟨⟩
theorem tw15368132723985388332:True:=⟨⟩
theorem tw2167537188350426706:True:=⟨⟩
theorem tw13919464512627920130:True:=⟨⟩
theorem tw5278057926702712004:True:=⟨⟩
theorem tw3443669649825651883:True:=⟨⟩
theorem tw3915529967508079626:True:=⟨⟩
theorem tw6545403380812914513:True:=⟨⟩
theorem tw3480954088277226078:True:=⟨⟩
theorem tw13609717118414637909:True:=⟨⟩
theorem tw12173100003817136821:True:=⟨⟩
theorem tw7082855905992002993:True:=⟨⟩
theorem tw11631869004601391166:True:=⟨⟩
theorem tw4478964076566166474:True:=⟨⟩
theorem tw10128289211609509091:True:=⟨⟩
theorem tw10111801491309104144:True:=⟨⟩
theorem tw6982297934935202809:True:=⟨⟩
theorem tw7510230149288206974:True:=⟨⟩
theorem tw12901994302517312135:True:=⟨⟩
theorem tw6819123309680001836:True:=⟨⟩
theorem tw5987830557187376847:True:=⟨⟩
theorem tw17901334829092211166:True:=⟨⟩
theorem tw2195365466389143174:True:=⟨⟩
theorem tw13225837485096350037:True:=⟨⟩
theorem tw3759623122121258479:True:=⟨⟩
theorem tw8117029840178788049:True:=⟨⟩
theorem tw9427301549700849589:True:=⟨⟩
theorem tw9421340871869096474:True:=⟨⟩
theorem tw1882180444382439491:True:=⟨⟩
theorem tw701787995468756871:True:=⟨⟩
theorem tw7914949630228597729:True:=⟨⟩
theorem tw12050417470231563642:True:=⟨⟩
theorem tw16056359734778111409:True:=⟨⟩
theorem tw17047115858639842297:True:=⟨⟩
theorem tw5978321128707920903:True:=⟨⟩
theorem tw9783614193127449063:True:=⟨⟩
theorem tw5635641802508607975:True:=⟨⟩
theorem tw13483081372092288885:True:=⟨⟩
theorem tw8977307856219701671:True:=⟨⟩
theorem tw4706079058837389440:True:=⟨⟩
theorem tw8727321023445011275:True:=⟨⟩
theorem tw2274498078352570744:True:=⟨⟩
theorem tw4993660671451451078:True:=⟨⟩
theorem tw1129884963351977449:True:=⟨⟩
theorem tw13855946660403688772:True:=⟨⟩
theorem tw10258999931320997221:True:=⟨⟩
theorem tw15166520500009309586:True:=⟨⟩
theorem tw17574625026820762457:True:=⟨⟩
theorem tw16412773359747925120:True:=⟨⟩
theorem tw17673860158736603733:True:=⟨⟩
theorem tw10403243965636340961:True:=⟨⟩
theorem tw4225703048834024713:True:=⟨⟩
theorem tw16546736560662234797:True:=⟨⟩
theorem tw9557236495431379559:True:=⟨⟩
theorem tw7366208706002141716:True:=⟨⟩
theorem tw16945582573551092051:True:=⟨⟩
theorem tw4015398097383911347:True:=⟨⟩
theorem tw3828038474966422129:True:=⟨⟩
theorem tw9430268157657104642:True:=⟨⟩
theorem tw16853341256802265648:True:=⟨⟩
theorem tw13217225542625558698:True:=⟨⟩
theorem tw9386895884608548742:True:=⟨⟩
theorem tw11213053971927718326:True:=⟨⟩
theorem tw15298718440444336668:True:=⟨⟩
theorem tw15527848837575444561:True:=⟨⟩
theorem tw3381375190539634487:True:=⟨⟩
theorem tw13828106393651249627:True:=⟨⟩
theorem tw14294344414604881677:True:=⟨⟩
theorem tw10727248033764811480:True:=⟨⟩
theorem tw4851647983119433812:True:=⟨⟩
theorem tw16473244170626142550:True:=⟨⟩
theorem tw14960593345356199642:True:=⟨⟩
theorem tw10784824025267889561:True:=⟨⟩
theorem tw14705683404202351889:True:=⟨⟩
theorem tw15508949281206285077:True:=⟨⟩
theorem tw6178411432499460516:True:=⟨⟩
theorem tw4272726840584523970:True:=⟨⟩
theorem tw12487502673411948298:True:=⟨⟩
theorem tw3109861748172591687:True:=⟨⟩
theorem tw16828841361933241965:True:=⟨⟩
theorem tw15595854959937240912:True:=⟨⟩
theorem tw6196171512934965099:True:=⟨⟩
theorem tw10458740792067480800:True:=⟨⟩
theorem tw3219085151875037572:True:=⟨⟩
theorem tw17183224562656869120:True:=⟨⟩
theorem tw15833661619300960221:True:=⟨⟩
theorem tw12112201142124510154:True:=⟨⟩
theorem tw17213754286329925777:True:=⟨⟩
theorem tw16091413853298234908:True:=⟨⟩
theorem tw3530705653197291679:True:=⟨⟩
theorem tw16904818350239718627:True:=⟨⟩
theorem tw6820862383352777685:True:=⟨⟩
theorem tw11632984921778587759:True:=⟨⟩
theorem tw402640490398009360:True:=⟨⟩
theorem tw8716120427605611371:True:=⟨⟩
theorem tw8960069828448710407:True:=⟨⟩
theorem tw7120233287515763914:True:=⟨⟩
theorem tw7763873220885509757:True:=⟨⟩
theorem tw6276725880618359904:True:=⟨⟩
theorem tw15642763164714097627:True:=⟨⟩
theorem tw991583007596301734:True:=⟨⟩
theorem tw3789350110615891812:True:=⟨⟩
theorem tw18293851220164018083:True:=⟨⟩
theorem tw4478166936697009375:True:=⟨⟩
theorem tw1589133516308662214:True:=⟨⟩
theorem tw13431754692932380062:True:=⟨⟩
theorem tw5174551420813472067:True:=⟨⟩
theorem tw9170477692918782315:True:=⟨⟩
theorem tw18103342009636024947:True:=⟨⟩
theorem tw15967140613478806237:True:=⟨⟩
theorem tw5238900199007264825:True:=⟨⟩
theorem tw189712035060473897:True:=⟨⟩
theorem tw11210553801493137410:True:=⟨⟩
theorem tw17387473266821786944:True:=⟨⟩
theorem tw6123773746684550334:True:=⟨⟩
theorem tw1413172679324656950:True:=⟨⟩
theorem tw9719896912496429819:True:=⟨⟩
theorem tw5902613922787404954:True:=⟨⟩
theorem tw8428860471423672150:True:=⟨⟩
theorem tw1580110805410547442:True:=⟨⟩
theorem tw10583446816852156582:True:=⟨⟩
theorem tw12949589719889679912:True:=⟨⟩
theorem tw10030107230732127627:True:=⟨⟩
theorem tw8268277133935991078:True:=⟨⟩
theorem tw14955159897011116063:True:=⟨⟩
theorem tw10024716035694756283:True:=⟨⟩
theorem tw10246146449241189800:True:=⟨⟩
theorem tw5130813555471234732:True:=⟨⟩
theorem tw16259696140248634718:True:=⟨⟩
theorem tw15089522573102190283:True:=⟨⟩
theorem tw11917015161858427179:True:=⟨⟩
theorem tw9748044761591592747:True:=⟨⟩
theorem tw16154546982801380032:True:=⟨⟩
theorem tw18166333605607142505:True:=⟨⟩
theorem tw212345690472687942:True:=⟨⟩
theorem tw1359830224848277088:True:=⟨⟩
theorem tw11054480109507316185:True:=⟨⟩
theorem tw2327210489368252092:True:=⟨⟩
theorem tw2386827423013361158:True:=⟨⟩
theorem tw14560493823538711346:True:=⟨⟩
theorem tw16634568088961857937:True:=⟨⟩
theorem tw13790719812936386609:True:=⟨⟩
theorem tw6164396464334811476:True:=⟨⟩
theorem tw18245042118932799458:True:=⟨⟩
theorem tw2101469004524951375:True:=⟨⟩
theorem tw15615537253650120727:True:=⟨⟩
theorem tw8934143017859847078:True:=⟨⟩
theorem tw8025032847418708242:True:=⟨⟩
theorem tw464777395874653626:True:=⟨⟩
theorem tw1013155817946168525:True:=⟨⟩
theorem tw1836080755315867724:True:=⟨⟩
theorem tw17330945745186091897:True:=⟨⟩
theorem tw16970440968685349367:True:=⟨⟩
theorem tw1409312971732116557:True:=⟨⟩
theorem tw4870687313549177768:True:=⟨⟩
theorem tw1011335219593555734:True:=⟨⟩
theorem tw4458013756055032831:True:=⟨⟩
theorem tw18093812233618175256:True:=⟨⟩
theorem tw12399718760709695909:True:=⟨⟩
theorem tw1222794163293265305:True:=⟨⟩
theorem tw13409441903868389331:True:=⟨⟩
theorem tw4360684699965382250:True:=⟨⟩
theorem tw17672654358674132775:True:=⟨⟩
theorem tw8735263284916673568:True:=⟨⟩
theorem tw17893044597097874663:True:=⟨⟩
theorem tw13267510147771200024:True:=⟨⟩
theorem tw11032806212648032379:True:=⟨⟩
theorem tw15042006015671813226:True:=⟨⟩
theorem tw6931407450589930559:True:=⟨⟩
theorem tw8112040973832200146:True:=⟨⟩
theorem tw17681399029576232318:True:=⟨⟩
theorem tw2930668341846507884:True:=⟨⟩
theorem tw13277076834127875243:True:=⟨⟩
theorem tw13783031573616600631:True:=⟨⟩
theorem tw7023726343779634624:True:=⟨⟩
theorem tw12614811148066621264:True:=⟨⟩
theorem tw10949625832625181284:True:=⟨⟩
theorem tw16722109127936396110:True:=⟨⟩
theorem tw7151981184983211207:True:=⟨⟩
theorem tw5657824000916062451:True:=⟨⟩
theorem tw11402939732021071671:True:=⟨⟩
theorem tw5608270528595127837:True:=⟨⟩
theorem tw6555240042291301478:True:=⟨⟩
theorem tw6411954120941647267:True:=⟨⟩
theorem tw922143313871775805:True:=⟨⟩
theorem tw2391449824757734642:True:=⟨⟩
theorem tw6785817131721698500:True:=⟨⟩
theorem tw17258206423299326598:True:=⟨⟩
theorem tw15416985209724490359:True:=⟨⟩
theorem tw3442329435671937591:True:=⟨⟩
theorem tw12070051907170230399:True:=⟨⟩
theorem tw9499510787657705874:True:=⟨⟩
theorem tw11232374478483605306:True:=⟨⟩
theorem tw2442259710966052079:True:=⟨⟩
theorem tw16211521421427940678:True:=⟨⟩
theorem tw2603259988358896889:True:=⟨⟩
theorem tw2999033326186475339:True:=⟨⟩
theorem tw17714235663813219645:True:=⟨⟩
theorem tw5366084841770067474:True:=⟨⟩
theorem tw8789358453043137523:True:=⟨⟩
theorem tw10614716105012338702:True:=⟨⟩
theorem tw1800889605409440832:True:=⟨⟩
theorem tw9960721518486171458:True:=⟨⟩
theorem tw8990313861142287110:True:=⟨⟩
theorem tw16007149819294483003:True:=⟨⟩
theorem tw5036846961687405229:True:=⟨⟩
theorem tw17903497710992402801:True:=⟨⟩
theorem tw3919010098100093602:True:=⟨⟩
theorem tw1997569388931296116:True:=⟨⟩
theorem tw17948085552500728524:True:=⟨⟩
theorem tw17054507655720011243:True:=⟨⟩
theorem tw5416991563250132298:True:=⟨⟩
theorem tw1760603350576429475:True:=⟨⟩
theorem tw3008623586974134963:True:=⟨⟩
theorem tw16920754564084929960:True:=⟨⟩
theorem tw17975533764899295144:True:=⟨⟩
theorem tw16868993833207775613:True:=⟨⟩
theorem tw4402725079659364252:True:=⟨⟩
theorem tw1600037746751723098:True:=⟨⟩
theorem tw8458067239894703972:True:=⟨⟩
theorem tw8226494294326810461:True:=⟨⟩
theorem tw11251137523995926341:True:=⟨⟩
theorem tw13770079208771991547:True:=⟨⟩
theorem tw17739348878880393726:True:=⟨⟩
theorem tw15790720579355451973:True:=⟨⟩
theorem tw17606422857730326317:True:=⟨⟩
theorem tw12616522011724791992:True:=⟨⟩
theorem tw13368278939475635651:True:=⟨⟩
theorem tw11465210709893060100:True:=⟨⟩
theorem tw3451239065008710300:True:=⟨⟩
theorem tw15344866539931968096:True:=⟨⟩
theorem tw11319097763535126812:True:=⟨⟩
theorem tw15759970867653108152:True:=⟨⟩
theorem tw6407587892757256292:True:=⟨⟩
theorem tw15411387601460861337:True:=⟨⟩
theorem tw4086058157674990017:True:=⟨⟩
theorem tw395138700845864316:True:=⟨⟩
theorem tw7494724483528729301:True:=⟨⟩
theorem tw8457440626546761165:True:=⟨⟩
theorem tw9566141503761928105:True:=⟨⟩
theorem tw13181700845877081190:True:=⟨⟩
theorem tw12647368939536790636:True:=⟨⟩
theorem tw16240987189780228909:True:=⟨⟩
theorem tw7754304195085646258:True:=⟨⟩
theorem tw13250765402290087314:True:=⟨⟩
theorem tw15673258824015622330:True:=⟨⟩
theorem tw11754176132448286083:True:=⟨⟩
theorem tw3493717111155160527:True:=⟨⟩
theorem tw6291416237084387574:True:=⟨⟩
theorem tw6767318904944593275:True:=⟨⟩
theorem tw10601615944963115059:True:=⟨⟩
theorem tw7296583596125217682:True:=⟨⟩
theorem tw10678649693572172417:True:=⟨⟩
theorem tw14478148883734587675:True:=⟨⟩
theorem tw15852365999677673905:True:=⟨⟩
theorem tw3646829019195819677:True:=⟨⟩
theorem tw18264374347568628810:True:=⟨⟩
theorem tw4971549296188076032:True:=⟨⟩
theorem tw17177331786930743035:True:=⟨⟩
theorem tw758273949599710562:True:=⟨⟩
theorem tw7289634563603522867:True:=⟨⟩
theorem tw17542962492245011380:True:=⟨⟩
theorem tw14457593812595234344:True:=⟨⟩
theorem tw2323474266016966308:True:=⟨⟩
theorem tw11162318198679636149:True:=⟨⟩
theorem tw6264232113106981867:True:=⟨⟩
theorem tw18219297243305740317:True:=⟨⟩
theorem tw4702841417184801058:True:=⟨⟩
theorem tw15367242080415987702:True:=⟨⟩
theorem tw11136197038861592535:True:=⟨⟩
theorem tw18293732401869909652:True:=⟨⟩
theorem tw11660266114150955751:True:=⟨⟩
theorem tw6442067068224118133:True:=⟨⟩
theorem tw16171809288044610508:True:=⟨⟩
theorem tw15615420239508185596:True:=⟨⟩
theorem tw3229955645248102723:True:=⟨⟩
theorem tw10603584201595350602:True:=⟨⟩
theorem tw2887051446865420828:True:=⟨⟩
theorem tw9657781627882305391:True:=⟨⟩
theorem tw1241404454085649124:True:=⟨⟩
theorem tw5190246844813560578:True:=⟨⟩
theorem tw26425463804135960:True:=⟨⟩
theorem tw3350844169311001129:True:=⟨⟩
theorem tw15683763237869141255:True:=⟨⟩
theorem tw16432713993328977331:True:=⟨⟩
theorem tw4297731678662094536:True:=⟨⟩
theorem tw12629568148972539762:True:=⟨⟩
theorem tw7028611270464810887:True:=⟨⟩
theorem tw16011055738799735888:True:=⟨⟩
theorem tw12113243949977362033:True:=⟨⟩
theorem tw8228950375871286339:True:=⟨⟩
theorem tw5106143834845376506:True:=⟨⟩
theorem tw11682748685660544111:True:=⟨⟩
theorem tw17062030032774818151:True:=⟨⟩
theorem tw6305734824756694309:True:=⟨⟩
theorem tw2252305205657439004:True:=⟨⟩
theorem tw2708950531961675432:True:=⟨⟩
theorem tw4494801613693538912:True:=⟨⟩
theorem tw10424393626065333798:True:=⟨⟩
theorem tw1439246655266547700:True:=⟨⟩
theorem tw3429492842335990350:True:=⟨⟩
theorem tw12023040214023829324:True:=⟨⟩
end hd
open PySem PySem.W PyProof.Rows PySem.Calls
set_option maxHeartbeats 8000000
set_option Elab.async true in
theorem hd:PySem.Challenge.rw_np0084_01.Holds:=by
 w_on;o_law;k_head;(case hw=>w_witness2)
 intro w za6 cU mg mb G Y fa o pm cd doc dV kV ho iB JQ hD WN hg args vals as Gl TQ hrd hwl hlo
 have KX:=kIn_of Y
 refine Ground.open G ?_
 intro T B D TE TW
 have U1:mg (jO "law")=some (.ref fa):=WN
 clear ho iB hD JQ WN
 wrow_args Gl TQ hrd hwl hlo
 rename_i zs hsI WK hL1 WU qh w4 w3 l xs w0 Zc ra w1 r0 hI hr Wv hTT
 obtain ⟨mc,hmc,_⟩:=T.nodigits
 refine aJ (GD law_mini KX ?zC ?zE ⟨_,_,_,rfl,rfl⟩ T.g U1 T.b T.nolimit T.builtins ⟨mc,hmc,trivial⟩ hg Zc hI (by omega)) (fun v s' h=>?_) fun _ _ h=>h.elim
 case zC=>rfl
 case zE=>
  refine ⟨⟨_,_,_,_,_,_,_,_,_,_,_,_,_,_,_,_,_,Y9,rfl,rfl,rfl,oW rfl,rfl,rfl,rfl,rfl,⟨?_⟩⟩,rfl⟩
  exact ⟨_,_,_,_,_,_,_,_,_,_,_,_,_,_,_,_,_,_,_,_,_,rfl,rfl,rfl,rfl,rfl,rfl,rfl,rfl,rfl,rfl,rfl,by decide +kernel,by decide +kernel⟩
 obtain ⟨rfl,h1,h2,h3⟩:=h
 refine GoodW.toG ⟨.inl ⟨_,_,_,rfl,raisesW_false (by wrow_none_raised),.bool _,?_,fun _=>⟨dX,fun a m=>by cases m⟩⟩,h1,h2,h3⟩
 wrow_post
end Mine
theorem PySem.Challenge.cw_np0084_01_holds : PySem.Challenge.rw_np0084_01.Holds :=
 Mine.hd
